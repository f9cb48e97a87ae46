/- Several texts in one: TextS, RecordS, RecordWritesS, DenS, DenP, DenW, DenQ, DenL, RecordWritesM, RulesCore, CoreV, CoreM, CoreP, CoreN, CoreO, CoreR, CoreS2. -/
import Derived.Test.YthidcmjpbokeeaaGreatDoorMAA
import Derived.Test.YthidcmjpbokeeaaGreatDoorMAE
import Derived.Shelf.SlSortCmp.NoneTotal
import Derived.Shelf.Strings.Builder1
import Derived.Laws.Strings
namespace Go.Proofs.YthidcmjpbokeeaaGreatDoor
open Go.Den
set_option linter.unusedVariables false
set_option maxRecDepth 100000
noncomputable section
def qbh (r:ByteArray×Int×Int×Zv22×Zv63×Bool×Bool×Zv39×Int×Int×Int×Unit) (k:Int):Option Zv62 :=
  Option.bind (at? r.2.2.2.1 k) fun d2 =>
  some (Go.Utf8.encode (IntKind.wrap .i32 d2.1))
def qaR (r:ByteArray×Int×Int×Zv22×Zv63×Bool×Bool×Zv39×Int×Int×Int×Unit) (n:Int):Option Zv62 :=
  req (r.2.1 !=0) (some (Go.Utf8.encode (IntKind.wrap .i32 (w64 ((97:Int)+(n.tmod r.2.1))))))
def qbv (r:ByteArray×Int×Int×Zv22×Zv63×Bool×Bool×Zv39×Int×Int×Int×Unit) (n:Int):Option Zv62 :=
  req (r.2.1 !=0) (some (Go.Utf8.encode (IntKind.wrap .i32 (w64 ((49:Int)+(w64 (n.tdiv r.2.1)))))))
def qaU (r:ByteArray×Int×Int×Zv22×Zv63×Bool×Bool×Zv39×Int×Int×Int×Unit) (n:Int):Option Zv62 :=
  Option.bind (qaR r n) fun r3 =>
  Option.bind (qbv r n) fun r4 =>
  req (qk r3 r4) (some (r3++r4))
def qcN (l:List Zv55) (m:Int×Int×Int×Unit) (p:Zv63×Zv42×Int×Int×Unit) (x2:Zv61×Zv52):Option ((Zv61×Zv52) ⊕ ((Unit)×Zv52)) :=
  bif (decide (x2.1.1<((l.length:Nat):Int))) then(Option.bind (at? l x2.1.1) fun d3 =>
  Option.bind (gat (((decide (d3.1≥0))&&(d3.1 !=m.1))&&(d3.2.1==m.2.1)) (0:Int) p.1 d3.1) fun d4 =>
  Option.bind (gat (((decide (d3.1≥0))&&(d3.1 !=m.1))&&(d3.2.1==m.2.1)) (0:Int) p.1 m.1) fun d5 =>
  Option.bind (bif ((((decide (d3.1≥0))&&(d3.1 !=m.1))&&(d3.2.1==m.2.1))&&(d4==d5)) then req (room (x2.2.1.1.length+([d3.1]).length) 8) (some ((),(((x2.2.1.1++[d3.1]),()),())))
  else some ((),((x2.2.1.1,()),()))) fun x6 =>
  some (Sum.inl (((w64 (x2.1.1+1)),()),((x6.2.1.1,()),()))))
  else some (Sum.inr ((),((x2.2.1.1,()),())))
def qcp (x7:(Unit)×Zv52) (r:ByteArray×Int×Int×Zv22×Zv63×Bool×Bool×Zv39×Int×Int×Int×Unit) (m:Int×Int×Int×Unit) (x10:Zv61×(Unit)):Option (Zv56 ⊕ (Zv60 ⊕ ByteArray)) :=
  bif (decide (x10.1.1<((x7.2.1.1.length:Nat):Int))) then(req (inb x10.1.1 x7.2.1.1.length) (req (r.2.1 !=0) (req (r.2.1 !=0) (bif ((w64 ((getD' x7.2.1.1 ((x10.1.1).toNat) (0:Int)).tdiv r.2.1))==(w64 (m.1.tdiv r.2.1))) then(Option.map Sum.inr (Option.map Sum.inr (bif (!(decide (x10.1.1≥0))) then(Option.bind (qbv r m.1) fun r11 =>
  some r11)
  else Option.bind (qaU r m.1) fun r12 =>
  some r12)))
  else some (Sum.inl (((w64 (x10.1.1+1)),()),()))))))
  else some (Sum.inr (Sum.inl ((),())))
def qev (x7:(Unit)×Zv52) (r:ByteArray×Int×Int×Zv22×Zv63×Bool×Bool×Zv39×Int×Int×Int×Unit) (m:Int×Int×Int×Unit) (x8:Zv61×(Unit)):Option (Zv56 ⊕ (Zv60 ⊕ ByteArray)) :=
  bif (decide (x8.1.1<((x7.2.1.1.length:Nat):Int))) then(req (inb x8.1.1 x7.2.1.1.length) (req (r.2.1 !=0) (req (r.2.1 !=0) (bif (((getD' x7.2.1.1 ((x8.1.1).toNat) (0:Int)).tmod r.2.1)==(m.1.tmod r.2.1)) then(Option.map Sum.inr (Option.map Sum.inr (bif (!(decide (x8.1.1≥0))) then(Option.bind (qaR r m.1) fun r9 =>
  some r9)
  else Option.bind (α:=Zv60 ⊕ ByteArray) (iterW (qcp x7 r m) (((0:Int),()),())) (Sum.elim (fun x13 =>
  Option.bind (qbv r m.1) fun r14 =>
  some r14) some))))
  else some (Sum.inl (((w64 (x8.1.1+1)),()),()))))))
  else some (Sum.inr (Sum.inl ((),())))
def qfk (r:ByteArray×Int×Int×Zv22×Zv63×Bool×Bool×Zv39×Int×Int×Int×Unit) (p:Zv63×Zv42×Int×Int×Unit) (l:List Zv55) (m:Int×Int×Int×Unit):Option Zv62 :=
  Option.bind (iterW (qcN l m p) (((0:Int),()),((([]:List Int),()),()))) fun x7 =>
  bif (((x7.2.1.1.length:Nat):Int)==0) then some (ByteArray.mk #[])
  else Option.bind (α:=Zv60 ⊕ ByteArray) (iterW (qev x7 r m) (((0:Int),()),())) (Sum.elim (fun x15 =>
  Option.bind (qaR r m.1) fun r16 =>
  some r16) some)
def qc1 (r:ByteArray×Int×Int×Zv22×Zv63×Bool×Bool×Zv39×Int×Int×Int×Unit) (p:Zv63×Zv42×Int×Int×Unit) (l:List Zv55) (m:Int×Int×Int×Unit):Option Zv62 :=
  bif (decide (m.1<0)) then(Option.bind (qbh r m.2.2.1) fun r8 =>
  req (qk r8 (ByteArray.mk #[64])) (Option.bind (qaU r m.2.1) fun r9 =>
  req (qk (r8++(ByteArray.mk #[64])) r9) (some ((r8++(ByteArray.mk #[64]))++r9))))
  else Option.bind (at? p.1 m.1) fun d10 =>
  Option.bind (qbh r (w64 ((w64 (d10-1)).tdiv 2))) fun r11 =>
  Option.bind (qfk r p l m) fun r12 =>
  req (qk r11 r12) (Option.bind (at? p.1 m.2.1) fun d13 =>
  Option.bind (bif (d13 !=0) then req (qk (r11++r12) (ByteArray.mk #[120])) (some ((((r11++r12)++(ByteArray.mk #[120])),()),()))
  else some (((r11++r12),()),())) fun x14 =>
  Option.bind (qaU r m.2.1) fun r15 =>
  req (qk x14.1.1 r15) (Option.bind (bif (m.2.2.1 !=(w64 ((w64 (d10-1)).tdiv 2))) then(Option.bind (qbh r m.2.2.1) fun r16 =>
  req (qk (ByteArray.mk #[61]) r16) (req (qk (x14.1.1++r15) ((ByteArray.mk #[61])++r16)) (some ((((x14.1.1++r15)++((ByteArray.mk #[61])++r16)),()),()))))
  else some (((x14.1.1++r15),()),())) fun x17 =>
  some x17.1.1))
def qco (r2:Zv44×Int×Unit) (r:ByteArray×Int×Int×Zv22×Zv63×Bool×Bool×Zv39×Int×Int×Int×Unit) (p:Zv63×Zv42×Int×Int×Unit) (s:ByteArray) (x3:Zv61×(Unit)):Option (Zv56 ⊕ (Zv60 ⊕ Zv38)) :=
  bif (decide (x3.1.1<((r2.1.length:Nat):Int))) then(req (inb x3.1.1 r2.1.length) (Option.bind (qc1 r p r2.1 (getD' r2.1 ((x3.1.1).toNat) ((0:Int),((0:Int),((0:Int),()))))) fun r4 =>
  bif (r4.toList==s.toList) then(Option.map Sum.inr (Option.map Sum.inr (bif (decide (x3.1.1<0)) then some (((0:Int),((0:Int),((0:Int),()))),((13:Int),()))
  else req (inb x3.1.1 r2.1.length) (some ((getD' r2.1 ((x3.1.1).toNat) ((0:Int),((0:Int),((0:Int),())))),((0:Int),()))))))
  else some (Sum.inl (((w64 (x3.1.1+1)),()),()))))
  else some (Sum.inr (Sum.inl ((),())))
def qdD (r:ByteArray×Int×Int×Zv22×Zv63×Bool×Bool×Zv39×Int×Int×Int×Unit) (p:Zv63×Zv42×Int×Int×Unit) (s:ByteArray):Option Zv38 :=
  Option.bind (qh7 r p) fun r2 =>
  bif (r2.2.1 !=0) then some (((0:Int),((0:Int),((0:Int),()))),r2.2)
  else Option.bind (α:=Zv60 ⊕ Zv38) (iterW (qco r2 r p s) (((0:Int),()),())) (Sum.elim (fun x5 =>
  some (((0:Int),((0:Int),((0:Int),()))),((13:Int),()))) some)
def qbM (width:Int) (n:Int):Option Zv62 :=
  req (width !=0) (Option.bind (strAt (ByteArray.mk #[97,98,99,100,101,102,103,104]) (n.tmod width)) fun c3 =>
  req (width !=0) (Option.bind (strAt (ByteArray.mk #[49,50,51,52,53,54,55,56]) (w64 (n.tdiv width))) fun c4 =>
  req (qk (Go.Utf8.encode ((c3.toNat:Nat):Int)) (Go.Utf8.encode ((c4.toNat:Nat):Int))) (some ((Go.Utf8.encode ((c3.toNat:Nat):Int))++(Go.Utf8.encode ((c4.toNat:Nat):Int))))))
def qaY (r9:Zv44×Int×Unit) (m:Int×Int×Int×Unit) (p:Zv63×Zv42×Int×Int×Unit) (d8:Int) (r:ByteArray×Int×Int×Zv22×Zv63×Bool×Bool×Zv39×Int×Int×Int×Unit) (r10:ByteArray) (x11:Zv61×(Unit)) (x12:(Bool×Int×Unit)×(Unit)):Option (((Bool×Int×Unit)×(Unit)) ⊕ Zv54) :=
  bif (decide (x12.1.2.1<((r9.1.length:Nat):Int))) then(Option.bind (req (inb x12.1.2.1 r9.1.length) (Option.bind (gat (!(((decide ((getD' r9.1 ((x12.1.2.1).toNat) ((0:Int),((0:Int),((0:Int),())))).1<0))||(((getD' r9.1 ((x12.1.2.1).toNat) ((0:Int),((0:Int),((0:Int),())))).2).1 !=m.2.1))||((getD' r9.1 ((x12.1.2.1).toNat) ((0:Int),((0:Int),((0:Int),())))).1==m.1))) (0:Int) p.1 ((getD' r9.1 ((x12.1.2.1).toNat) ((0:Int),((0:Int),((0:Int),())))).1)) fun d13 =>
  bif ((((decide ((getD' r9.1 ((x12.1.2.1).toNat) ((0:Int),((0:Int),((0:Int),())))).1<0))||(((getD' r9.1 ((x12.1.2.1).toNat) ((0:Int),((0:Int),((0:Int),())))).2).1 !=m.2.1))||((getD' r9.1 ((x12.1.2.1).toNat) ((0:Int),((0:Int),((0:Int),())))).1==m.1))||(d13 !=d8)) then some ((x12.1.1,()),())
  else Option.bind (qbM r.2.1 ((getD' r9.1 ((x12.1.2.1).toNat) ((0:Int),((0:Int),((0:Int),())))).1)) fun r14 =>
  req (imp (!((getD' ([(ByteArray.mk #[]),(r10.extract 0 1),(r10.extract 1 (((r10.size:Nat):Int)).toNat),r10]) ((x11.1.1).toNat) ByteArray.empty).toList==(ByteArray.mk #[]).toList)) (qj (0:Int) (1:Int) r14.size)) (req (imp (!(((getD' ([(ByteArray.mk #[]),(r10.extract 0 1),(r10.extract 1 (((r10.size:Nat):Int)).toNat),r10]) ((x11.1.1).toNat) ByteArray.empty).toList==(ByteArray.mk #[]).toList)||((getD' ([(ByteArray.mk #[]),(r10.extract 0 1),(r10.extract 1 (((r10.size:Nat):Int)).toNat),r10]) ((x11.1.1).toNat) ByteArray.empty).toList==(r14.extract 0 1).toList))) (qj (1:Int) ((r14.size:Nat):Int) r14.size)) (Option.bind (bif (((((getD' ([(ByteArray.mk #[]),(r10.extract 0 1),(r10.extract 1 (((r10.size:Nat):Int)).toNat),r10]) ((x11.1.1).toNat) ByteArray.empty).toList==(ByteArray.mk #[]).toList)||((getD' ([(ByteArray.mk #[]),(r10.extract 0 1),(r10.extract 1 (((r10.size:Nat):Int)).toNat),r10]) ((x11.1.1).toNat) ByteArray.empty).toList==(r14.extract 0 1).toList))||((getD' ([(ByteArray.mk #[]),(r10.extract 0 1),(r10.extract 1 (((r10.size:Nat):Int)).toNat),r10]) ((x11.1.1).toNat) ByteArray.empty).toList==(r14.extract 1 (((r14.size:Nat):Int)).toNat).toList))||((getD' ([(ByteArray.mk #[]),(r10.extract 0 1),(r10.extract 1 (((r10.size:Nat):Int)).toNat),r10]) ((x11.1.1).toNat) ByteArray.empty).toList==r14.toList)) then some ((false,()),())
  else some ((x12.1.1,()),())) fun x15 =>
  some ((x15.1.1,()),()))))) fun x16 =>
  some (Sum.inl ((x16.1.1,(w64 (x12.1.2.1+1)),()),())))
  else some (Sum.inr ((x12.1.1,()),()))
def qa3 (r10:ByteArray) (r9:Zv44×Int×Unit) (m:Int×Int×Int×Unit) (p:Zv63×Zv42×Int×Int×Unit) (d8:Int) (r:ByteArray×Int×Int×Zv22×Zv63×Bool×Bool×Zv39×Int×Int×Int×Unit) (r6:ByteArray) (x11:Zv61×(Unit)):Option (Zv56 ⊕ (Zv60 ⊕ ByteArray)) :=
  bif (decide (x11.1.1<((([(ByteArray.mk #[]),(r10.extract 0 1),(r10.extract 1 (((r10.size:Nat):Int)).toNat),r10]).length:Nat):Int))) then(Option.bind (α:=Zv60 ⊕ (Zv56 ⊕ (Zv60 ⊕ ByteArray))) (req (inb x11.1.1 ([(ByteArray.mk #[]),(r10.extract 0 1),(r10.extract 1 (((r10.size:Nat):Int)).toNat),r10]).length) (Option.bind (iterW (qaY r9 m p d8 r r10 x11) ((true,(0:Int),()),())) fun x17 =>
  bif ((!x17.1.1)&&(!((getD' ([(ByteArray.mk #[]),(r10.extract 0 1),(r10.extract 1 (((r10.size:Nat):Int)).toNat),r10]) ((x11.1.1).toNat) ByteArray.empty).toList==r10.toList))) then some (Sum.inl ((),()))
  else Option.bind (at? r.2.2.2.1 (w64 ((w64 (d8-1)).tdiv 2))) fun d18 =>
  req (qk (Go.Utf8.encode d18.1) (getD' ([(ByteArray.mk #[]),(r10.extract 0 1),(r10.extract 1 (((r10.size:Nat):Int)).toNat),r10]) ((x11.1.1).toNat) ByteArray.empty)) (Option.bind (at? p.1 m.2.1) fun d19 =>
  Option.bind (bif (decide (d19>0)) then req (qk ((Go.Utf8.encode d18.1)++(getD' ([(ByteArray.mk #[]),(r10.extract 0 1),(r10.extract 1 (((r10.size:Nat):Int)).toNat),r10]) ((x11.1.1).toNat) ByteArray.empty)) (ByteArray.mk #[120])) (some (((((Go.Utf8.encode d18.1)++(getD' ([(ByteArray.mk #[]),(r10.extract 0 1),(r10.extract 1 (((r10.size:Nat):Int)).toNat),r10]) ((x11.1.1).toNat) ByteArray.empty))++(ByteArray.mk #[120])),()),()))
  else some ((((Go.Utf8.encode d18.1)++(getD' ([(ByteArray.mk #[]),(r10.extract 0 1),(r10.extract 1 (((r10.size:Nat):Int)).toNat),r10]) ((x11.1.1).toNat) ByteArray.empty)),()),())) fun x20 =>
  req (qk x20.1.1 r6) (Option.bind (bif ((w64 ((w64 ((w64 ((2:Int)*m.2.2.1))+p.2.2.1))+1))!=d8) then(Option.bind (at? r.2.2.2.1 m.2.2.1) fun d21 =>
  req (qk (ByteArray.mk #[61]) (Go.Utf8.encode d21.1)) (req (qk (x20.1.1++r6) ((ByteArray.mk #[61])++(Go.Utf8.encode d21.1))) (some ((((x20.1.1++r6)++((ByteArray.mk #[61])++(Go.Utf8.encode d21.1))),()),()))))
  else some (((x20.1.1++r6),()),())) fun x22 =>
  some (Sum.inr (Sum.inr (Sum.inr x22.1.1))))))) (Sum.elim (fun x23 =>
  some (Sum.inl (((w64 (x11.1.1+1)),()),()))) some))
  else some (Sum.inr (Sum.inl ((),())))
def qfi (r:ByteArray×Int×Int×Zv22×Zv63×Bool×Bool×Zv39×Int×Int×Int×Unit) (p:Zv63×Zv42×Int×Int×Unit) (m:Int×Int×Int×Unit):Option Zv62 :=
  Option.bind (qbM r.2.1 m.2.1) fun r6 =>
  bif (decide (m.1<0)) then(Option.bind (at? r.2.2.2.1 m.2.2.1) fun d7 =>
  req (qk (Go.Utf8.encode d7.1) (ByteArray.mk #[64])) (req (qk ((Go.Utf8.encode d7.1)++(ByteArray.mk #[64])) r6) (some (((Go.Utf8.encode d7.1)++(ByteArray.mk #[64]))++r6))))
  else Option.bind (at? p.1 m.1) fun d8 =>
  Option.bind (qh7 r p) fun r9 =>
  Option.bind (qbM r.2.1 m.1) fun r10 =>
  req (qj (0:Int) (1:Int) r10.size) (req (qj (1:Int) ((r10.size:Nat):Int) r10.size) (Option.bind (α:=Zv60 ⊕ ByteArray) (iterW (qa3 r10 r9 m p d8 r r6) (((0:Int),()),())) (Sum.elim (fun x24 =>
  some (ByteArray.mk #[])) some)))
end
noncomputable section
def qbl (s:ByteArray) (not:ByteArray) (x1:Zv61×(Unit)):Option (Zv56 ⊕ (Zv60 ⊕ Bool)) :=
  bif (decide (x1.1.1<((s.size:Nat):Int))) then(Option.bind (strAt s x1.1.1) fun c2 =>
  Option.bind (gopt (!(decide (((c2.toNat:Nat):Int)<32))) 0 (strAt s x1.1.1)) fun c3 =>
  Option.bind (gopt (!((decide (((c2.toNat:Nat):Int)<32))||(decide (((c3.toNat:Nat):Int)>126)))) 0 (strAt s x1.1.1)) fun c4 =>
  bif (((decide (((c2.toNat:Nat):Int)<32))||(decide (((c3.toNat:Nat):Int)>126)))||(decide ((qel not ((c4.toNat:Nat):Int))≥0))) then some (Sum.inr (Sum.inr false))
  else some (Sum.inl (((w64 (x1.1.1+1)),()),())))
  else some (Sum.inr (Sum.inl ((),())))
def qbC (s:ByteArray) (not:ByteArray):Option (Bool) :=
  Option.bind (α:=Zv60 ⊕ Bool) (iterW (qbl s not) (((0:Int),()),())) (Sum.elim (fun x5 =>
  some true) some)
def qee (x:Zv41×ByteArray×Zv27×Int×Unit) (x1:Zv61×(Unit)) (d2:ByteArray×ByteArray×Unit) (x5:Zv61×(Unit)):Option (Zv56 ⊕ (Zv60 ⊕ (Zv56 ⊕ (Zv60 ⊕ Int)))) :=
  bif (decide (x5.1.1<((((x.1.take (x1.1.1).toNat).drop 0).length:Nat):Int))) then(Option.bind (at? ((x.1.take (x1.1.1).toNat).drop 0) x5.1.1) fun d6 =>
  bif (d6.1.toList==d2.1.toList) then(Option.map Sum.inr (Option.map Sum.inr (bif (decide (x5.1.1≥0)) then some (Sum.inr (Sum.inr (7:Int)))
  else some (Sum.inl (((w64 (x1.1.1+1)),()),())))))
  else some (Sum.inl (((w64 (x5.1.1+1)),()),())))
  else some (Sum.inr (Sum.inl ((),())))
def qea (x:Zv41×ByteArray×Zv27×Int×Unit) (x1:Zv61×(Unit)):Option (Zv56 ⊕ (Zv60 ⊕ Int)) :=
  bif (decide (x1.1.1<((x.1.length:Nat):Int))) then(Option.bind (at? x.1 x1.1.1) fun d2 =>
  Option.bind (qhb d2.1) fun r3 =>
  bif (!r3) then some (Sum.inr (Sum.inr (6:Int)))
  else bif (decide (((d2.2.1.size:Nat):Int)>40)) then some (Sum.inr (Sum.inr (2:Int)))
  else Option.bind (qbC d2.2.1 (ByteArray.mk #[34])) fun r4 =>
  bif (!r4) then some (Sum.inr (Sum.inr (3:Int)))
  else req (qj (0:Int) x1.1.1 x.1.length) (Option.bind (α:=Zv60 ⊕ (Zv56 ⊕ (Zv60 ⊕ Int))) (iterW (qee x x1 d2) (((0:Int),()),())) (Sum.elim (fun x7 =>
  some (Sum.inl (((w64 (x1.1.1+1)),()),()))) some)))
  else some (Sum.inr (Sum.inl ((),())))
def qh5 (x:Zv41×ByteArray×Zv27×Int×Unit):Option (Int) :=
  Option.bind (α:=Zv60 ⊕ Int) (iterW (qea x) (((0:Int),()),())) (Sum.elim (fun x8 =>
  some (0:Int)) some)
def qcH (s:ByteArray):Option (Int) :=
  bif (decide (((s.size:Nat):Int)>60)) then some (2:Int)
  else Option.bind (qbC s (ByteArray.mk #[123,125])) fun r2 =>
  bif (!r2) then some (3:Int)
  else some (0:Int)
def qeu (node:Int) (x:Zv41×ByteArray×Zv27×Int×Unit) (x1:Zv61×(Unit)):Option (Zv56 ⊕ (Zv60 ⊕ Bool)) :=
  bif (decide (x1.1.1≥0)) then(bif (x1.1.1==node) then some (Sum.inr (Sum.inr true))
  else Option.bind (at? x.2.2.1 x1.1.1) fun d2 =>
  some (Sum.inl ((d2.1,()),())))
  else some (Sum.inr (Sum.inl ((),())))
def qks (x:Zv41×ByteArray×Zv27×Int×Unit) (node:Int) (last:Int):Option (Bool) :=
  Option.bind (α:=Zv60 ⊕ Bool) (iterW (qeu node x) ((last,()),())) (Sum.elim (fun x3 =>
  some (node==(-1:Int))) some)
def qe6 (x:Zv41×ByteArray×Zv27×Int×Unit) (x1:Zv35×(Unit)):Option (Zv28 ⊕ Zv31) :=
  bif (decide (x1.1.2.1≥0)) then(Option.bind (at? x.2.2.1 x1.1.2.1) fun d2 =>
  req (room (x1.1.1.length+([d2.2.1]).length) 24) (Option.bind (at? x.2.2.1 x1.1.2.1) fun d3 =>
  some (Sum.inl (((x1.1.1++[d2.2.1]),d3.1,()),()))))
  else some (Sum.inr ((x1.1.1,()),()))
def qdv (x5:Zv58×Zv37):Option (Zv26 ⊕ Zv32) :=
  bif (decide (x5.1.1<x5.1.2.1)) then req (inb x5.1.2.1 x5.2.1.length) (req (inb x5.1.1 x5.2.1.length) (req (inb x5.1.1 x5.2.1.length) (req (inb x5.1.2.1 (x5.2.1.set ((x5.1.1).toNat) (getD' x5.2.1 ((x5.1.2.1).toNat) ((0:Int),((0:Int),((0:Int),()))))).length) (some (Sum.inl (((w64 (x5.1.1+1)),(w64 (x5.1.2.1-1)),()),(((x5.2.1.set ((x5.1.1).toNat) (getD' x5.2.1 ((x5.1.2.1).toNat) ((0:Int),((0:Int),((0:Int),()))))).set ((x5.1.2.1).toNat) (getD' x5.2.1 ((x5.1.1).toNat) ((0:Int),((0:Int),((0:Int),()))))),())))))))
  else some (Sum.inr ((),(x5.2.1,())))
def qaC (x:Zv41×ByteArray×Zv27×Int×Unit) (node:Int):Option Zv44 :=
  Option.bind (iterW (qe6 x) ((([]:List Zv55),node,()),())) fun x4 =>
  Option.bind (iterW (qdv) (((0:Int),(w64 (((x4.1.1.length:Nat):Int)-1)),()),(x4.1.1,()))) fun x6 =>
  some x6.2.1
def qed (x:Zv41×ByteArray×Zv27×Int×Unit) (i:Int) (d4:Int×Zv55×ByteArray×Unit) (x7:(Unit)×Zv57) (x8:Zv61×(Unit)):Option (Zv56 ⊕ (Zv60 ⊕ Zv59)) :=
  bif (decide (x8.1.1<((((x.2.2.1.take (i).toNat).drop 0).length:Nat):Int))) then(Option.bind (α:=Zv60 ⊕ (Zv56 ⊕ (Zv60 ⊕ Zv59))) (Option.bind (at? ((x.2.2.1.take (i).toNat).drop 0) x8.1.1) fun d9 =>
  bif (d9.1 !=d4.1) then some (Sum.inl ((),()))
  else bif ((d9.2.1.1==d4.2.1.1)&&((d9.2.1.2.1==d4.2.1.2.1)&&((d9.2.1.2.2.1==d4.2.1.2.2.1)&&true))) then some (Sum.inr (Sum.inr (Sum.inr (x7.2.1,(7:Int)))))
  else some (Sum.inl ((),()))) (Sum.elim (fun x10 =>
  some (Sum.inl (((w64 (x8.1.1+1)),()),()))) some))
  else some (Sum.inr (Sum.inl ((),())))
def qd7 (x:Zv41×ByteArray×Zv27×Int×Unit) (i:Int) (d4:Int×Zv55×ByteArray×Unit) (x7:(Unit)×Zv57) (r:ByteArray×Int×Int×Zv22×Zv63×Bool×Bool×Zv39×Int×Int×Int×Unit) (x12:Zv61×(Unit)):Option (Zv56 ⊕ (Zv60 ⊕ Zv59)) :=
  bif (decide (x12.1.1<((((x.2.2.1.take (i).toNat).drop 0).length:Nat):Int))) then(Option.bind (at? ((x.2.2.1.take (i).toNat).drop 0) x12.1.1) fun d13 =>
  bif (d13.1==d4.1) then(Option.map Sum.inr (Option.map Sum.inr (Option.bind (bif (decide (x12.1.1≥0)) then req (inb i x7.2.1.length) (req (inb i x7.2.1.length) (some ((),((x7.2.1.set ((i).toNat) (w64 ((getD' x7.2.1 ((i).toNat) (0:Int))+1))),()))))
  else some ((),(x7.2.1,()))) fun x14 =>
  Option.bind (agree (agree (Option.bind (qaC x i) fun r15 =>
  agree (Option.bind (qaG r r15) fun r16 =>
  some ((r16.2.2.1,()),())) (Option.bind (qaG r r15) fun r17 =>
  some ((r17.2.2.1,()),()))) (Option.bind (qaC x i) fun r18 =>
  Option.bind (qaG r r18) fun r19 =>
  some ((r19.2.2.1,()),()))) (agree (Option.bind (qaC x i) fun r20 =>
  agree (Option.bind (qaG r r20) fun r21 =>
  some ((r21.2.2.1,()),())) (Option.bind (qaG r r20) fun r22 =>
  some ((r22.2.2.1,()),()))) (agree (Option.bind (qaC x i) fun r23 =>
  Option.bind (qaG r r23) fun r24 =>
  some ((r24.2.2.1,()),())) (Option.bind (qaC x i) fun r25 =>
  Option.bind (qaG r r25) fun r26 =>
  some ((r26.2.2.1,()),()))))) fun x27 =>
  bif (x27.1.1 !=0) then some (x14.2.1,x27.1.1)
  else req (inb i x14.2.1.length) (bif (decide ((getD' x14.2.1 ((i).toNat) (0:Int))>20)) then some (x14.2.1,(2:Int))
  else some (x14.2.1,(0:Int))))))
  else some (Sum.inl (((w64 (x12.1.1+1)),()),())))
  else some (Sum.inr (Sum.inl ((),())))
def qhV (deep:List Int) (r:ByteArray×Int×Int×Zv22×Zv63×Bool×Bool×Zv39×Int×Int×Int×Unit) (x:Zv41×ByteArray×Zv27×Int×Unit) (i:Int):Option Zv59 :=
  Option.bind (at? x.2.2.1 i) fun d4 =>
  Option.bind (qcH d4.2.2.1) fun r5 =>
  bif (r5 !=0) then some (deep,r5)
  else Option.bind (gopt (!(decide (d4.1≥i))) false (qks x d4.1 (w64 (i-1)))) fun r6 =>
  bif ((decide (d4.1≥i))||(!r6)) then some (deep,(3:Int))
  else Option.bind (bif (decide (d4.1≥0)) then req (inb d4.1 deep.length) (req (inb i deep.length) (some ((),((deep.set ((i).toNat) (getD' deep ((d4.1).toNat) (0:Int))),()))))
  else some ((),(deep,()))) fun x7 =>
  req (qj (0:Int) i x.2.2.1.length) (Option.bind (α:=Zv60 ⊕ Zv59) (iterW (qed x i d4 x7) (((0:Int),()),())) (Sum.elim (fun x11 =>
  req (qj (0:Int) i x.2.2.1.length) (Option.bind (α:=Zv60 ⊕ Zv59) (iterW (qd7 x i d4 x7 r) (((0:Int),()),())) (Sum.elim (fun x28 =>
  Option.bind (agree (agree (Option.bind (qaC x i) fun r29 =>
  agree (Option.bind (qaG r r29) fun r30 =>
  some ((r30.2.2.1,()),())) (Option.bind (qaG r r29) fun r31 =>
  some ((r31.2.2.1,()),()))) (Option.bind (qaC x i) fun r32 =>
  Option.bind (qaG r r32) fun r33 =>
  some ((r33.2.2.1,()),()))) (agree (Option.bind (qaC x i) fun r34 =>
  agree (Option.bind (qaG r r34) fun r35 =>
  some ((r35.2.2.1,()),())) (Option.bind (qaG r r34) fun r36 =>
  some ((r36.2.2.1,()),()))) (agree (Option.bind (qaC x i) fun r37 =>
  Option.bind (qaG r r37) fun r38 =>
  some ((r38.2.2.1,()),())) (Option.bind (qaC x i) fun r39 =>
  Option.bind (qaG r r39) fun r40 =>
  some ((r40.2.2.1,()),()))))) fun x41 =>
  bif (x41.1.1 !=0) then some (x7.2.1,x41.1.1)
  else req (inb i x7.2.1.length) (bif (decide ((getD' x7.2.1 ((i).toNat) (0:Int))>20)) then some (x7.2.1,(2:Int))
  else some (x7.2.1,(0:Int)))) some))) some))
def qb4 (x:Zv41×ByteArray×Zv27×Int×Unit) (r:ByteArray×Int×Int×Zv22×Zv63×Bool×Bool×Zv39×Int×Int×Int×Unit) (x7:Zv61×Zv57):Option ((Zv61×Zv57) ⊕ (Zv49 ⊕ Int)) :=
  bif (decide (x7.1.1<((x.2.2.1.length:Nat):Int))) then(Option.bind (qhV x7.2.1 r x x7.1.1) fun r8 =>
  bif (r8.2 !=0) then some (Sum.inr (Sum.inr r8.2))
  else some (Sum.inl (((w64 (x7.1.1+1)),()),(r8.1,()))))
  else some (Sum.inr (Sum.inl ((),(x7.2.1,()))))
def qa7 (r:ByteArray×Int×Int×Zv22×Zv63×Bool×Bool×Zv39×Int×Int×Int×Unit) (x:Zv41×ByteArray×Zv27×Int×Unit):Option (Int) :=
  Option.bind (qcZ r) fun r4 =>
  bif (r4 !=0) then some r4
  else bif ((decide (((x.1.length:Nat):Int)>10))||(decide (((x.2.2.1.length:Nat):Int)>200))) then some (2:Int)
  else Option.bind (qh5 x) fun r5 =>
  bif (r5 !=0) then some r5
  else bif ((decide (x.2.2.2.1<0))||(decide (x.2.2.2.1>3))) then some (4:Int)
  else Option.bind (qcH x.2.1) fun r6 =>
  bif (r6 !=0) then some r6
  else req (decide (0≤((x.2.2.1.length:Nat):Int))&&(((x.2.2.1.length:Nat):Int)==((x.2.2.1.length:Nat):Int)&&room (((x.2.2.1.length:Nat):Int)).toNat 8)) (Option.bind (α:=Zv49 ⊕ Int) (iterW (qb4 x r) (((0:Int),()),((List.replicate (((x.2.2.1.length:Nat):Int)).toNat (0:Int)),()))) (Sum.elim (fun x9 =>
  some (0:Int)) some))
def qd6 (x:Zv41×ByteArray×Zv27×Int×Unit) (parent:Int) (x1:Zv53×(Unit)):Option ((Zv53×(Unit)) ⊕ Zv47) :=
  bif (decide (x1.1.2.1<((x.2.2.1.length:Nat):Int))) then(Option.bind (at? x.2.2.1 x1.1.2.1) fun d2 =>
  Option.bind (bif (d2.1==parent) then req (room (x1.1.1.length+([x1.1.2.1]).length) 8) (some (((x1.1.1++[x1.1.2.1]),()),()))
  else some ((x1.1.1,()),())) fun x3 =>
  some (Sum.inl ((x3.1.1,(w64 (x1.1.2.1+1)),()),())))
  else some (Sum.inr ((x1.1.1,()),()))
def qh1 (x:Zv41×ByteArray×Zv27×Int×Unit) (parent:Int):Option Zv63 :=
  Option.bind (iterW (qd6 x parent) ((([]:List Int),(0:Int),()),())) fun x4 =>
  some x4.1.1
def qgr (s:ByteArray) (x5:Zv61×(Unit)):Option (Zv56 ⊕ (Zv60 ⊕ Bool)) :=
  bif (decide (x5.1.1<(((ql s).length:Nat):Int))) then(req (inb x5.1.1 (ql s).length) (bif (((decide ((getD' (ql s) ((x5.1.1).toNat) (0:Int))<65))||(decide ((getD' (ql s) ((x5.1.1).toNat) (0:Int))>90)))&&((decide ((getD' (ql s) ((x5.1.1).toNat) (0:Int))<48))||(decide ((getD' (ql s) ((x5.1.1).toNat) (0:Int))>57)))) then some (Sum.inr (Sum.inr false))
  else some (Sum.inl (((w64 (x5.1.1+1)),()),()))))
  else some (Sum.inr (Sum.inl ((),())))
def qmA (s:ByteArray):Option (Bool) :=
  Option.bind (gopt (!((s.toList==(ByteArray.mk #[]).toList)||(decide (((s.size:Nat):Int)>8)))) 0 (strAt s (0:Int))) fun c3 =>
  Option.bind (gopt (!(((s.toList==(ByteArray.mk #[]).toList)||(decide (((s.size:Nat):Int)>8)))||(decide (((c3.toNat:Nat):Int)<65)))) 0 (strAt s (0:Int))) fun c4 =>
  bif ((((s.toList==(ByteArray.mk #[]).toList)||(decide (((s.size:Nat):Int)>8)))||(decide (((c3.toNat:Nat):Int)<65)))||(decide (((c4.toNat:Nat):Int)>90))) then some false
  else req (Nat.ble s.size 140737488355328) (Option.bind (α:=Zv60 ⊕ Bool) (iterW (qgr s) (((0:Int),()),())) (Sum.elim (fun x6 =>
  some true) some))
def qgo (without:ByteArray) (s:ByteArray) (x1:Zv61×(Unit)) (x2:Zv61×(Unit)):Option (Zv56 ⊕ (Zv60 ⊕ (Zv60 ⊕ (Zv56 ⊕ (Zv60 ⊕ Bool))))) :=
  bif (decide (x2.1.1<(((ql without).length:Nat):Int))) then(req (inb x2.1.1 (ql without).length) (bif ((getD' (ql s) ((x1.1.1).toNat) (0:Int))==(getD' (ql without) ((x2.1.1).toNat) (0:Int))) then some (Sum.inr (Sum.inr (Sum.inr (Sum.inr (Sum.inr false)))))
  else some (Sum.inl (((w64 (x2.1.1+1)),()),()))))
  else some (Sum.inr (Sum.inl ((),())))
def qgm (s:ByteArray) (without:ByteArray) (x1:Zv61×(Unit)):Option (Zv56 ⊕ (Zv60 ⊕ Bool)) :=
  bif (decide (x1.1.1<(((ql s).length:Nat):Int))) then(Option.bind (α:=Zv60 ⊕ (Zv56 ⊕ (Zv60 ⊕ Bool))) (req (inb x1.1.1 (ql s).length) (req (Nat.ble without.size 140737488355328) (Option.bind (α:=Zv60 ⊕ (Zv60 ⊕ (Zv56 ⊕ (Zv60 ⊕ Bool)))) (iterW (qgo without s x1) (((0:Int),()),())) (Sum.elim (fun x3 =>
  bif ((decide ((getD' (ql s) ((x1.1.1).toNat) (0:Int))<32))||(decide ((getD' (ql s) ((x1.1.1).toNat) (0:Int))>126))) then some (Sum.inr (Sum.inr (Sum.inr false)))
  else some (Sum.inl ((),()))) some)))) (Sum.elim (fun x4 =>
  some (Sum.inl (((w64 (x1.1.1+1)),()),()))) some))
  else some (Sum.inr (Sum.inl ((),())))
def qhZ (s:ByteArray) (without:ByteArray):Option (Bool) :=
  req (Nat.ble s.size 140737488355328) (Option.bind (α:=Zv60 ⊕ Bool) (iterW (qgm s without) (((0:Int),()),())) (Sum.elim (fun x5 =>
  some true) some))
def qcd (a:Int) (l:List Zv33) (x1:Zv61×(Unit)):Option (Zv56 ⊕ Zv56) :=
  bif ((decide (x1.1.1>a))&&(decide (x1.1.1≥0))) then(Option.bind (at? l x1.1.1) fun d2 =>
  some (Sum.inl ((d2.1,()),())))
  else some (Sum.inr ((x1.1.1,()),()))
def qhM (l:List Zv33) (a:Int) (i:Int):Option (Bool) :=
  Option.bind (iterW (qcd a l) ((i,()),())) fun x3 =>
  some (x3.1.1==a)
def qnh (self:Zv21→Option Zv34) (l:List Zv33) (i:Int):Option Zv34 :=
  bif (i==(-1:Int)) then some (([]:List Zv55),(true,()))
  else Option.bind (gat (!((decide (i<0))||(decide (i≥((l.length:Nat):Int))))) ((0:Int),(((0:Int),((0:Int),((0:Int),()))),(ByteArray.empty,()))) l i) fun d5 =>
  bif (((decide (i<0))||(decide (i≥((l.length:Nat):Int))))||(decide (d5.1≥i))) then some (([]:List Zv55),(false,()))
  else Option.bind (at? l i) fun d6 =>
  Option.bind (self (l,d6.1,())) fun r7 =>
  Option.bind (at? l i) fun d8 =>
  req (room (r7.1.length+([d8.2.1]).length) 24) (some ((r7.1++[d8.2.1]),r7.2))
def qdm (self:Zv21→Option Zv34) (x:Zv27×Int×Unit):Option Zv34:=qnh self x.1 x.2.1
def qpV (l:List Zv33) (i:Int):Option Zv34:=fixW qdm (l,i,())
def qbP (x1:Zv58×(Unit)) (l:List Zv33) (x2:Zv58×(Unit)):Option (Zv51 ⊕ Zv56) :=
  bif (decide (x2.1.2.1<x1.1.1)) then(Option.bind (at? l x2.1.2.1) fun d3 =>
  Option.bind (at? l x1.1.1) fun d4 =>
  bif (d3.1==d4.1) then some (Sum.inr (((w64 (x2.1.1+1)),()),()))
  else some (Sum.inl ((x2.1.1,(w64 (x2.1.2.1+1)),()),())))
  else some (Sum.inr ((x2.1.1,()),()))
def qef (l:List Zv33) (x1:Zv58×(Unit)):Option (Zv51 ⊕ Zv56) :=
  bif (decide (x1.1.1≥0)) then(Option.bind (Option.bind (iterW (qbP x1 l) ((x1.1.2.1,(0:Int),()),())) fun x5 =>
  some ((x5.1.1,()),())) fun x6 =>
  Option.bind (at? l x1.1.1) fun d7 =>
  some (Sum.inl ((d7.1,x6.1.1,()),())))
  else some (Sum.inr ((x1.1.2.1,()),()))
def qh9 (l:List Zv33) (i:Int):Option (Int) :=
  Option.bind (iterW (qef l) ((i,(0:Int),()),())) fun x8 =>
  some x8.1.1
def qbm (x4:Zv61×(Unit)) (x:Zv41×ByteArray×Zv27×Int×Unit) (d5:ByteArray×ByteArray×Unit) (x8:Zv61×(Unit)):Option (Zv56 ⊕ (Zv60 ⊕ (Zv60 ⊕ (Zv56 ⊕ (Zv60 ⊕ Int))))) :=
  bif (decide (x8.1.1<x4.1.1)) then(Option.bind (at? x.1 x8.1.1) fun d9 =>
  bif (d9.1.toList==d5.1.toList) then some (Sum.inr (Sum.inr (Sum.inr (Sum.inr (Sum.inr (7:Int))))))
  else some (Sum.inl (((w64 (x8.1.1+1)),()),())))
  else some (Sum.inr (Sum.inl ((),())))
def qaN (x:Zv41×ByteArray×Zv27×Int×Unit) (x4:Zv61×(Unit)):Option (Zv56 ⊕ (Zv60 ⊕ Int)) :=
  bif (decide (x4.1.1<((x.1.length:Nat):Int))) then(Option.bind (α:=Zv60 ⊕ (Zv56 ⊕ (Zv60 ⊕ Int))) (Option.bind (at? x.1 x4.1.1) fun d5 =>
  Option.bind (qmA d5.1) fun r6 =>
  bif (!r6) then some (Sum.inr (Sum.inr (Sum.inr (6:Int))))
  else bif (decide (((d5.2.1.size:Nat):Int)>40)) then some (Sum.inr (Sum.inr (Sum.inr (2:Int))))
  else Option.bind (qhZ d5.2.1 (ByteArray.mk #[34])) fun r7 =>
  bif (!r7) then some (Sum.inr (Sum.inr (Sum.inr (3:Int))))
  else Option.bind (α:=Zv60 ⊕ (Zv60 ⊕ (Zv56 ⊕ (Zv60 ⊕ Int)))) (iterW (qbm x4 x d5) (((0:Int),()),())) (Sum.elim (fun x10 =>
  some (Sum.inl ((),()))) some)) (Sum.elim (fun x11 =>
  some (Sum.inl (((w64 (x4.1.1+1)),()),()))) some))
  else some (Sum.inr (Sum.inl ((),())))
def qbk (x14:Zv61×(Unit)) (x:Zv41×ByteArray×Zv27×Int×Unit) (d15:Int×Zv55×ByteArray×Unit) (x18:Zv61×(Unit)):Option (Zv56 ⊕ (Zv60 ⊕ (Zv60 ⊕ (Zv56 ⊕ (Zv60 ⊕ Int))))) :=
  bif (decide (x18.1.1<x14.1.1)) then(Option.bind (at? x.2.2.1 x18.1.1) fun d19 =>
  Option.bind (gat (d19.1==d15.1) ((0:Int),(((0:Int),((0:Int),((0:Int),()))),(ByteArray.empty,()))) x.2.2.1 x18.1.1) fun d20 =>
  bif ((d19.1==d15.1)&&((d20.2.1.1==d15.2.1.1)&&((d20.2.1.2.1==d15.2.1.2.1)&&((d20.2.1.2.2.1==d15.2.1.2.2.1)&&true)))) then some (Sum.inr (Sum.inr (Sum.inr (Sum.inr (Sum.inr (7:Int))))))
  else some (Sum.inl (((w64 (x18.1.1+1)),()),())))
  else some (Sum.inr (Sum.inl ((),())))
def qaL (x:Zv41×ByteArray×Zv27×Int×Unit) (r:ByteArray×Int×Int×Zv22×Zv63×Bool×Bool×Zv39×Int×Int×Int×Unit) (x14:Zv61×(Unit)):Option (Zv56 ⊕ (Zv60 ⊕ Int)) :=
  bif (decide (x14.1.1<((x.2.2.1.length:Nat):Int))) then(Option.bind (α:=Zv60 ⊕ (Zv56 ⊕ (Zv60 ⊕ Int))) (Option.bind (at? x.2.2.1 x14.1.1) fun d15 =>
  bif (decide (((d15.2.2.1.size:Nat):Int)>60)) then some (Sum.inr (Sum.inr (Sum.inr (2:Int))))
  else Option.bind (qhZ d15.2.2.1 (ByteArray.mk #[123,125])) fun r16 =>
  bif (!r16) then some (Sum.inr (Sum.inr (Sum.inr (3:Int))))
  else Option.bind (gopt (((decide (x14.1.1>0))&&(decide (d15.1≥0)))&&(!((decide (d15.1<(-1:Int)))||(decide (d15.1≥x14.1.1))))) false (qhM x.2.2.1 d15.1 (w64 (x14.1.1-1)))) fun r17 =>
  bif ((((decide (d15.1<(-1:Int)))||(decide (d15.1≥x14.1.1)))||(((decide (x14.1.1>0))&&(decide (d15.1≥0)))&&(!r17)))||((x14.1.1==0)&&(d15.1 !=(-1:Int)))) then some (Sum.inr (Sum.inr (Sum.inr (3:Int))))
  else Option.bind (α:=Zv60 ⊕ (Zv60 ⊕ (Zv56 ⊕ (Zv60 ⊕ Int)))) (iterW (qbk x14 x d15) (((0:Int),()),())) (Sum.elim (fun x21 =>
  Option.bind (qpV x.2.2.1 x14.1.1) fun r22 =>
  Option.bind (qek r r22.1) fun r23 =>
  bif (r23.2.1 !=0) then some (Sum.inr (Sum.inr (Sum.inr r23.2.1)))
  else some (Sum.inl ((),()))) some)) (Sum.elim (fun x24 =>
  some (Sum.inl (((w64 (x14.1.1+1)),()),()))) some))
  else some (Sum.inr (Sum.inl ((),())))
def qaq (x:Zv41×ByteArray×Zv27×Int×Unit) (x26:Zv61×(Unit)):Option (Zv56 ⊕ (Zv60 ⊕ Int)) :=
  bif (decide (x26.1.1<((x.2.2.1.length:Nat):Int))) then(Option.bind (qh9 x.2.2.1 x26.1.1) fun r27 =>
  bif (decide (r27>20)) then some (Sum.inr (Sum.inr (2:Int)))
  else some (Sum.inl (((w64 (x26.1.1+1)),()),())))
  else some (Sum.inr (Sum.inl ((),())))
def qa2 (r:ByteArray×Int×Int×Zv22×Zv63×Bool×Bool×Zv39×Int×Int×Int×Unit) (x:Zv41×ByteArray×Zv27×Int×Unit):Option (Int) :=
  Option.bind (qek r ([]:List Zv55)) fun r3 =>
  bif (r3.2.1 !=0) then some r3.2.1
  else bif ((decide (((x.1.length:Nat):Int)>10))||(decide (((x.2.2.1.length:Nat):Int)>200))) then some (2:Int)
  else Option.bind (α:=Zv60 ⊕ Int) (iterW (qaN x) (((0:Int),()),())) (Sum.elim (fun x12 =>
  bif ((decide (x.2.2.2.1<0))||(decide (x.2.2.2.1>3))) then some (4:Int)
  else bif (decide (((x.2.1.size:Nat):Int)>60)) then some (2:Int)
  else Option.bind (qhZ x.2.1 (ByteArray.mk #[123,125])) fun r13 =>
  bif (!r13) then some (3:Int)
  else Option.bind (α:=Zv60 ⊕ Int) (iterW (qaL x r) (((0:Int),()),())) (Sum.elim (fun x25 =>
  Option.bind (α:=Zv60 ⊕ Int) (iterW (qaq x) (((0:Int),()),())) (Sum.elim (fun x28 =>
  some (0:Int)) some)) some)) some)
def qg5 (x:Zv41×ByteArray×Zv27×Int×Unit):Option Zv15 :=
  req (qj (0:Int) (if (30:Int)<((x.2.2.1.length:Nat):Int) then(30:Int) else((x.2.2.1.length:Nat):Int)) x.2.2.1.length) (some (x.1,(x.2.1,(((x.2.2.1.take ((if (30:Int)<((x.2.2.1.length:Nat):Int) then(30:Int) else((x.2.2.1.length:Nat):Int))).toNat).drop 0),x.2.2.2))))
end
noncomputable section
abbrev qhn {A1 A2 A3 A4 A5 A6 A7 A8 A9 A10 A11 A12:Type} (x0:A1×A2×A3×A4×A5×A6×A7×A8×A9×A10×A11×A12):=((x0.1,(x0.2.1,(x0.2.2.1,(x0.2.2.2.1,(x0.2.2.2.2.1,(x0.2.2.2.2.2.1,(x0.2.2.2.2.2.2.1,(x0.2.2.2.2.2.2.2.1,(x0.2.2.2.2.2.2.2.2.1,(x0.2.2.2.2.2.2.2.2.2.1,(x0.2.2.2.2.2.2.2.2.2.2.1,()))))))))))),(x0.2.2.2.2.2.2.2.2.2.2.2,()))
abbrev qap {A1 A2 A3 A4 A5 A6 A7 A8 A9 A10 A11 A12 A13 A14 A15:Type} (x0:(A1×A2×A3×A4×A5×A6×A7×A8×A9×A10×A11×A12)×A13×A14) (a0:A15):=((a0,()),((x0.1.1,(x0.1.2.1,(x0.1.2.2.1,(x0.1.2.2.2.1,(x0.1.2.2.2.2.1,(x0.1.2.2.2.2.2.1,(x0.1.2.2.2.2.2.2.1,(x0.1.2.2.2.2.2.2.2.1,(x0.1.2.2.2.2.2.2.2.2.1,(x0.1.2.2.2.2.2.2.2.2.2.1,(x0.1.2.2.2.2.2.2.2.2.2.2.1,x0.2.1))))))))))),()))
abbrev qmJ {A1 A2 A3 A4 A5 A6 A7 A8 A9 A10 A11 A12 A13 A14 A15 A16:Type} (x0:((A1×A2×A3×A4×A5×A6×A7×A8×A9×A10×A11×A12)×A13×A14)×A15) (a0:A16):=((x0.2,(a0,())),((x0.1.1.1,(x0.1.1.2.1,(x0.1.1.2.2.1,(x0.1.1.2.2.2.1,(x0.1.1.2.2.2.2.1,(x0.1.1.2.2.2.2.2.1,(x0.1.1.2.2.2.2.2.2.1,(x0.1.1.2.2.2.2.2.2.2.1,(x0.1.1.2.2.2.2.2.2.2.2.1,(x0.1.1.2.2.2.2.2.2.2.2.2.1,(x0.1.1.2.2.2.2.2.2.2.2.2.2.1,x0.1.2.1))))))))))),()))
abbrev qbG {A1 A2 A3 A4 A5 A6 A7 A8 A9 A10 A11 A12 A13 A14 A15 A16 A17:Type} (x0:A1×A2×A3×A4×A5×A6×A7×A8×A9×A10×A11×A12) (a0:A13) (a1:A14) (a2:A15) (a3:A16) (a4:A17):=(((x0.1,(x0.2.1,(x0.2.2.1,(x0.2.2.2.1,(x0.2.2.2.2.1,(x0.2.2.2.2.2.1,(x0.2.2.2.2.2.2.1,(x0.2.2.2.2.2.2.2.1,(x0.2.2.2.2.2.2.2.2.1,(x0.2.2.2.2.2.2.2.2.2.1,(x0.2.2.2.2.2.2.2.2.2.2.1,()))))))))))),(x0.2.2.2.2.2.2.2.2.2.2.2,())),((a0,((a1,(a2,())),a3)),(a4,())))
abbrev qm2 {A1 A2 A3 A4 A5 A6 A7 A8 A9 A10 A11 A12 A13 A14 A15:Type} (x0:(A1×A2)×(A3×A4×A5×A6×A7×A8×A9×A10×A11×A12×A13×A14)×A15):=(((x0.2.1.1,(x0.2.1.2.1,(x0.2.1.2.2.1,(x0.2.1.2.2.2.1,(x0.2.1.2.2.2.2.1,(x0.2.1.2.2.2.2.2.1,(x0.2.1.2.2.2.2.2.2.1,(x0.2.1.2.2.2.2.2.2.2.1,(x0.2.1.2.2.2.2.2.2.2.2.1,(x0.2.1.2.2.2.2.2.2.2.2.2.1,(x0.2.1.2.2.2.2.2.2.2.2.2.2.1,()))))))))))),(x0.2.1.2.2.2.2.2.2.2.2.2.2.2,())),x0.1.1)
abbrev qbH {A1 A2 A3 A4 A5 A6 A7 A8 A9 A10 A11 A12 A13 A14 A15 A16 A17 A18 A19 A20:Type} (x0:(A1×A2×A3×A4×A5×A6×A7×A8×A9×A10×A11×A12)×A13×(A14×A15×A16×A17)×A18) (a0:A19) (a1:A20):=((a0,()),((x0.1.1,(x0.1.2.1,(x0.1.2.2.1,(x0.1.2.2.2.1,(x0.1.2.2.2.2.1,(x0.1.2.2.2.2.2.1,(x0.1.2.2.2.2.2.2.1,(x0.1.2.2.2.2.2.2.2.1,(x0.1.2.2.2.2.2.2.2.2.1,(x0.1.2.2.2.2.2.2.2.2.2.1,(x0.1.2.2.2.2.2.2.2.2.2.2.1,(x0.2.1,(x0.2.2.1.1,(x0.2.2.1.2.1,(x0.2.2.1.2.2.1,x0.2.2.1.2.2.2))))))))))))))),(a1,())))
abbrev qnX {A1 A2 A3 A4 A5 A6 A7 A8 A9 A10 A11 A12 A13 A14 A15 A16 A17 A18 A19 A20:Type} (x0:(A1×A2)×(A3×A4×A5×A6×A7×A8×A9×A10×A11×A12×A13×A14×A15×A16×A17×A18)×A19×A20):=(((x0.2.1.1,(x0.2.1.2.1,(x0.2.1.2.2.1,(x0.2.1.2.2.2.1,(x0.2.1.2.2.2.2.1,(x0.2.1.2.2.2.2.2.1,(x0.2.1.2.2.2.2.2.2.1,(x0.2.1.2.2.2.2.2.2.2.1,(x0.2.1.2.2.2.2.2.2.2.2.1,(x0.2.1.2.2.2.2.2.2.2.2.2.1,(x0.2.1.2.2.2.2.2.2.2.2.2.2.1,()))))))))))),(x0.2.1.2.2.2.2.2.2.2.2.2.2.2.1,((x0.2.1.2.2.2.2.2.2.2.2.2.2.2.2.1,(x0.2.1.2.2.2.2.2.2.2.2.2.2.2.2.2.1,(x0.2.1.2.2.2.2.2.2.2.2.2.2.2.2.2.2.1,x0.2.1.2.2.2.2.2.2.2.2.2.2.2.2.2.2.2))),()))),(x0.2.2.1,x0.1.1))
abbrev qeD {A1 A2 A3 A4 A5 A6 A7 A8 A9 A10 A11 A12 A13 A14 A15 A16:Type} (x0:A1×A2×A3×A4×A5×A6×A7×A8×A9×A10×A11×A12×A13×A14×A15×A16):=((x0.1,(x0.2.1,(x0.2.2.1,(x0.2.2.2.1,(x0.2.2.2.2.1,(x0.2.2.2.2.2.1,(x0.2.2.2.2.2.2.1,(x0.2.2.2.2.2.2.2.1,(x0.2.2.2.2.2.2.2.2.1,(x0.2.2.2.2.2.2.2.2.2.1,(x0.2.2.2.2.2.2.2.2.2.2.1,()))))))))))),(x0.2.2.2.2.2.2.2.2.2.2.2.1,((x0.2.2.2.2.2.2.2.2.2.2.2.2.1,(x0.2.2.2.2.2.2.2.2.2.2.2.2.2.1,(x0.2.2.2.2.2.2.2.2.2.2.2.2.2.2.1,x0.2.2.2.2.2.2.2.2.2.2.2.2.2.2.2))),())))
abbrev qhw {A1 A2 A3 A4 A5 A6 A7 A8 A9 A10 A11 A12 A13 A14 A15 A16 A17 A18 A19 A20 A21:Type} (x0:((A1×A2×A3×A4×A5×A6×A7×A8×A9×A10×A11×A12)×A13×(A14×A15×A16×A17)×A18)×A19×A20) (a0:A21):=((a0,()),((x0.1.1.1,(x0.1.1.2.1,(x0.1.1.2.2.1,(x0.1.1.2.2.2.1,(x0.1.1.2.2.2.2.1,(x0.1.1.2.2.2.2.2.1,(x0.1.1.2.2.2.2.2.2.1,(x0.1.1.2.2.2.2.2.2.2.1,(x0.1.1.2.2.2.2.2.2.2.2.1,(x0.1.1.2.2.2.2.2.2.2.2.2.1,(x0.1.1.2.2.2.2.2.2.2.2.2.2.1,(x0.1.2.1,(x0.1.2.2.1.1,(x0.1.2.2.1.2.1,(x0.1.2.2.1.2.2.1,x0.1.2.2.1.2.2.2))))))))))))))),(x0.2.1,())))
abbrev qmh {A1 A2 A3 A4 A5 A6 A7 A8 A9 A10 A11 A12 A13 A14 A15 A16 A17 A18 A19 A20 A21 A22:Type} (x0:(A1×A2×A3×A4×A5×A6×A7×A8×A9×A10×A11×A12×A13×A14×A15×A16)×A17×A18) (a0:A19) (a1:A20) (a2:A21) (a3:A22):=(((x0.1.1,(x0.1.2.1,(x0.1.2.2.1,(x0.1.2.2.2.1,(x0.1.2.2.2.2.1,(x0.1.2.2.2.2.2.1,(x0.1.2.2.2.2.2.2.1,(x0.1.2.2.2.2.2.2.2.1,(x0.1.2.2.2.2.2.2.2.2.1,(x0.1.2.2.2.2.2.2.2.2.2.1,(x0.1.2.2.2.2.2.2.2.2.2.2.1,()))))))))))),(x0.1.2.2.2.2.2.2.2.2.2.2.2.1,((x0.1.2.2.2.2.2.2.2.2.2.2.2.2.1,(x0.1.2.2.2.2.2.2.2.2.2.2.2.2.2.1,(x0.1.2.2.2.2.2.2.2.2.2.2.2.2.2.2.1,x0.1.2.2.2.2.2.2.2.2.2.2.2.2.2.2.2))),()))),((),(x0.2.1,((a0,((a1,(a2,())),a3)),()))))
abbrev qmi {A1 A2 A3 A4 A5 A6 A7 A8 A9 A10 A11 A12 A13 A14 A15 A16 A17 A18 A19 A20 A21:Type} (x0:(A1×A2×A3×A4×A5×A6×A7×A8×A9×A10×A11×A12×A13×A14×A15×A16)×A17×A18) (a0:A19) (a1:A20) (a2:A21):=(((x0.1.1,(x0.1.2.1,(x0.1.2.2.1,(x0.1.2.2.2.1,(x0.1.2.2.2.2.1,(x0.1.2.2.2.2.2.1,(x0.1.2.2.2.2.2.2.1,(x0.1.2.2.2.2.2.2.2.1,(x0.1.2.2.2.2.2.2.2.2.1,(x0.1.2.2.2.2.2.2.2.2.2.1,(x0.1.2.2.2.2.2.2.2.2.2.2.1,()))))))))))),(x0.1.2.2.2.2.2.2.2.2.2.2.2.1,((x0.1.2.2.2.2.2.2.2.2.2.2.2.2.1,(x0.1.2.2.2.2.2.2.2.2.2.2.2.2.2.1,(a0,x0.1.2.2.2.2.2.2.2.2.2.2.2.2.2.2.2))),()))),((),(x0.2.1,(a1,(a2,())))))
abbrev qmd {A1 A2 A3 A4 A5 A6 A7 A8 A9 A10 A11 A12 A13 A14 A15 A16 A17 A18:Type} (x0:(A1×A2×A3×A4×A5×A6×A7×A8×A9×A10×A11×A12×A13×A14×A15×A16)×A17×A18):=((),((x0.1.1,(x0.1.2.1,(x0.1.2.2.1,(x0.1.2.2.2.1,(x0.1.2.2.2.2.1,(x0.1.2.2.2.2.2.1,(x0.1.2.2.2.2.2.2.1,(x0.1.2.2.2.2.2.2.2.1,(x0.1.2.2.2.2.2.2.2.2.1,(x0.1.2.2.2.2.2.2.2.2.2.1,(x0.1.2.2.2.2.2.2.2.2.2.2.1,(x0.1.2.2.2.2.2.2.2.2.2.2.2.1,(x0.1.2.2.2.2.2.2.2.2.2.2.2.2.1,(x0.1.2.2.2.2.2.2.2.2.2.2.2.2.2.1,(x0.1.2.2.2.2.2.2.2.2.2.2.2.2.2.2.1,x0.1.2.2.2.2.2.2.2.2.2.2.2.2.2.2.2))))))))))))))),(x0.2.1,())))
abbrev qmm {A1 A2 A3 A4 A5 A6 A7 A8 A9 A10 A11 A12 A13 A14 A15 A16 A17 A18:Type} (x0:(A1×A2×A3×A4×A5×A6×A7×A8×A9×A10×A11×A12×A13×A14×A15×A16)×A17×A18):=(((x0.1.1,(x0.1.2.1,(x0.1.2.2.1,(x0.1.2.2.2.1,(x0.1.2.2.2.2.1,(x0.1.2.2.2.2.2.1,(x0.1.2.2.2.2.2.2.1,(x0.1.2.2.2.2.2.2.2.1,(x0.1.2.2.2.2.2.2.2.2.1,(x0.1.2.2.2.2.2.2.2.2.2.1,(x0.1.2.2.2.2.2.2.2.2.2.2.1,()))))))))))),(x0.1.2.2.2.2.2.2.2.2.2.2.2.1,((x0.1.2.2.2.2.2.2.2.2.2.2.2.2.1,(x0.1.2.2.2.2.2.2.2.2.2.2.2.2.2.1,(x0.1.2.2.2.2.2.2.2.2.2.2.2.2.2.2.1,x0.1.2.2.2.2.2.2.2.2.2.2.2.2.2.2.2))),()))),(x0.2.1,()))
abbrev qma {A1 A2 A3 A4 A5 A6 A7 A8 A9 A10 A11 A12 A13 A14 A15 A16 A17 A18 A19:Type} (x0:(A1×A2×A3×A4×A5×A6×A7×A8×A9×A10×A11×A12)×A13×(A14×A15×A16×A17)×A18) (a0:A19):=((),((x0.1.1,(x0.1.2.1,(x0.1.2.2.1,(x0.1.2.2.2.1,(x0.1.2.2.2.2.1,(x0.1.2.2.2.2.2.1,(x0.1.2.2.2.2.2.2.1,(x0.1.2.2.2.2.2.2.2.1,(x0.1.2.2.2.2.2.2.2.2.1,(x0.1.2.2.2.2.2.2.2.2.2.1,(x0.1.2.2.2.2.2.2.2.2.2.2.1,(x0.2.1,(a0,(x0.2.2.1.2.1,(x0.2.2.1.2.2.1,x0.2.2.1.2.2.2))))))))))))))),()))
abbrev qmg {A1 A2 A3 A4 A5 A6 A7 A8 A9 A10 A11 A12 A13 A14 A15 A16 A17 A18:Type} (x0:(A1×A2×A3×A4×A5×A6×A7×A8×A9×A10×A11×A12)×A13×(A14×A15×A16×A17)×A18):=((),((x0.1.1,(x0.1.2.1,(x0.1.2.2.1,(x0.1.2.2.2.1,(x0.1.2.2.2.2.1,(x0.1.2.2.2.2.2.1,(x0.1.2.2.2.2.2.2.1,(x0.1.2.2.2.2.2.2.2.1,(x0.1.2.2.2.2.2.2.2.2.1,(x0.1.2.2.2.2.2.2.2.2.2.1,(x0.1.2.2.2.2.2.2.2.2.2.2.1,(x0.2.1,(x0.2.2.1.1,(x0.2.2.1.2.1,(x0.2.2.1.2.2.1,x0.2.2.1.2.2.2))))))))))))))),()))
def qan (w:Zv14×Zv15×Unit) (p:Zv63×Zv42×Int×Int×Unit) (n:Int):Option Zv5 :=
  Option.bind (at? w.2.1.2.2.1 n) fun d5 =>
  Option.bind (qaE w.1 p) fun r6 =>
  Option.bind (qc1 w.1 p r6 d5.2.1) fun r7 =>
  Option.bind (at? w.2.1.2.2.1 n) fun d8 =>
  Option.bind (bif (!(d8.2.2.1.toList==(ByteArray.mk #[]).toList)) then req (qk (ByteArray.mk #[123]) d8.2.2.1) (req (qk ((ByteArray.mk #[123])++d8.2.2.1) (ByteArray.mk #[125])) (req (room (([r7]).length+([(((ByteArray.mk #[123])++d8.2.2.1)++(ByteArray.mk #[125]))]).length) 16) (some ((([r7]++[(((ByteArray.mk #[123])++d8.2.2.1)++(ByteArray.mk #[125]))]),()),()))))
  else some (([r7],()),())) fun x9 =>
  some (w,x9.1.1)
def qF (r3:List Int) (p:Zv63×Zv42×Int×Int×Unit) (self:Zv1→Option Zv5) (x5:Zv45×Zv11):Option ((Zv45×Zv11) ⊕ (((List ByteArray)×Unit)×Zv11)) :=
  bif (decide (x5.1.2.1<((((r3.take (((r3.length:Nat):Int)).toNat).drop 1).length:Nat):Int))) then(Option.bind (at? ((r3.take (((r3.length:Nat):Int)).toNat).drop 1) x5.1.2.1) fun d6 =>
  Option.bind (agree (Option.bind (qan (qhn x5.2.1) p d6) fun r7 =>
  agree (Option.bind (at? r7.1.2.1.2.2.1 d6) fun d8 =>
  Option.bind (qo r7.1.1 p d8.2.1) fun r9 =>
  Option.bind (self (r7.1,(r9.1,((r9.2.1.1,(r9.2.1.2.1,())),r9.2.2)),d6,())) fun r10 =>
  req (room (r7.2.length+r10.2.length) 16) (some (qap r10.1 (r7.2++r10.2)))) (Option.bind (at? r7.1.2.1.2.2.1 d6) fun d11 =>
  Option.bind (qo r7.1.1 p d11.2.1) fun r12 =>
  Option.bind (self (r7.1,(r12.1,((r12.2.1.1,(r12.2.1.2.1,())),r12.2.2)),d6,())) fun r13 =>
  req (room (r7.2.length+r13.2.length) 16) (some (qap r13.1 (r7.2++r13.2))))) (Option.bind (qan (qhn x5.2.1) p d6) fun r14 =>
  Option.bind (at? r14.1.2.1.2.2.1 d6) fun d15 =>
  Option.bind (qo r14.1.1 p d15.2.1) fun r16 =>
  Option.bind (self (r14.1,(r16.1,((r16.2.1.1,(r16.2.1.2.1,())),r16.2.2)),d6,())) fun r17 =>
  req (room (r14.2.length+r17.2.length) 16) (some (qap r17.1 (r14.2++r17.2))))) fun x18 =>
  Option.bind (joinS x18.1.1 (ByteArray.mk #[32])) fun r19 =>
  req (qk (ByteArray.mk #[40]) r19) (req (qk ((ByteArray.mk #[40])++r19) (ByteArray.mk #[41])) (req (room (x5.1.1.length+([(((ByteArray.mk #[40])++r19)++(ByteArray.mk #[41]))]).length) 16) (some (Sum.inl (((x5.1.1++[(((ByteArray.mk #[40])++r19)++(ByteArray.mk #[41]))]),(w64 (x5.1.2.1+1)),()),(x18.2.1,())))))))
  else some (Sum.inr ((x5.1.1,()),(x5.2.1,())))
def qca (self:Zv1→Option Zv5) (w:Zv14×Zv15×Unit) (p:Zv63×Zv42×Int×Int×Unit) (parent:Int):Option Zv5 :=
  Option.bind (qh1 w.2.1 parent) fun r3 =>
  bif (((r3.length:Nat):Int)==0) then some (w,([]:List ByteArray))
  else req (inb (0:Int) r3.length) (Option.bind (qan w p (getD' r3 0 (0:Int))) fun r4 =>
  req (qj (1:Int) ((r3.length:Nat):Int) r3.length) (Option.bind (iterW (qF r3 p self) (qmJ r4 (0:Int))) fun x20 =>
  Option.bind (req (inb (0:Int) r3.length) (req (inb (0:Int) r3.length) (agree (agree (Option.bind (at? x20.2.1.2.2.2.2.2.2.2.2.2.2.2.2.2.1 (getD' r3 0 (0:Int))) fun d21 =>
  Option.bind (qo (x20.2.1.1,(x20.2.1.2.1,(x20.2.1.2.2.1,(x20.2.1.2.2.2.1,(x20.2.1.2.2.2.2.1,(x20.2.1.2.2.2.2.2.1,(x20.2.1.2.2.2.2.2.2.1,(x20.2.1.2.2.2.2.2.2.2.1,(x20.2.1.2.2.2.2.2.2.2.2.1,(x20.2.1.2.2.2.2.2.2.2.2.2.1,(x20.2.1.2.2.2.2.2.2.2.2.2.2.1,()))))))))))) p d21.2.1) fun r22 =>
  Option.bind (self (qbG x20.2.1 r22.1 r22.2.1.1 r22.2.1.2.1 r22.2.2 (getD' r3 0 (0:Int)))) fun r23 =>
  req (room (x20.1.1.length+r23.2.length) 16) (some (qap r23.1 (x20.1.1++r23.2)))) (Option.bind (at? x20.2.1.2.2.2.2.2.2.2.2.2.2.2.2.2.1 (getD' r3 0 (0:Int))) fun d24 =>
  Option.bind (qo (x20.2.1.1,(x20.2.1.2.1,(x20.2.1.2.2.1,(x20.2.1.2.2.2.1,(x20.2.1.2.2.2.2.1,(x20.2.1.2.2.2.2.2.1,(x20.2.1.2.2.2.2.2.2.1,(x20.2.1.2.2.2.2.2.2.2.1,(x20.2.1.2.2.2.2.2.2.2.2.1,(x20.2.1.2.2.2.2.2.2.2.2.2.1,(x20.2.1.2.2.2.2.2.2.2.2.2.2.1,()))))))))))) p d24.2.1) fun r25 =>
  Option.bind (self (qbG x20.2.1 r25.1 r25.2.1.1 r25.2.1.2.1 r25.2.2 (getD' r3 0 (0:Int)))) fun r26 =>
  req (room (x20.1.1.length+r26.2.length) 16) (some (qap r26.1 (x20.1.1++r26.2))))) (agree (Option.bind (at? x20.2.1.2.2.2.2.2.2.2.2.2.2.2.2.2.1 (getD' r3 0 (0:Int))) fun d27 =>
  Option.bind (qo (x20.2.1.1,(x20.2.1.2.1,(x20.2.1.2.2.1,(x20.2.1.2.2.2.1,(x20.2.1.2.2.2.2.1,(x20.2.1.2.2.2.2.2.1,(x20.2.1.2.2.2.2.2.2.1,(x20.2.1.2.2.2.2.2.2.2.1,(x20.2.1.2.2.2.2.2.2.2.2.1,(x20.2.1.2.2.2.2.2.2.2.2.2.1,(x20.2.1.2.2.2.2.2.2.2.2.2.2.1,()))))))))))) p d27.2.1) fun r28 =>
  Option.bind (self (qbG x20.2.1 r28.1 r28.2.1.1 r28.2.1.2.1 r28.2.2 (getD' r3 0 (0:Int)))) fun r29 =>
  req (room (x20.1.1.length+r29.2.length) 16) (some (qap r29.1 (x20.1.1++r29.2)))) (agree (Option.bind (at? x20.2.1.2.2.2.2.2.2.2.2.2.2.2.2.2.1 (getD' r3 0 (0:Int))) fun d30 =>
  Option.bind (qo (x20.2.1.1,(x20.2.1.2.1,(x20.2.1.2.2.1,(x20.2.1.2.2.2.1,(x20.2.1.2.2.2.2.1,(x20.2.1.2.2.2.2.2.1,(x20.2.1.2.2.2.2.2.2.1,(x20.2.1.2.2.2.2.2.2.2.1,(x20.2.1.2.2.2.2.2.2.2.2.1,(x20.2.1.2.2.2.2.2.2.2.2.2.1,(x20.2.1.2.2.2.2.2.2.2.2.2.2.1,()))))))))))) p d30.2.1) fun r31 =>
  Option.bind (self (qbG x20.2.1 r31.1 r31.2.1.1 r31.2.1.2.1 r31.2.2 (getD' r3 0 (0:Int)))) fun r32 =>
  req (room (x20.1.1.length+r32.2.length) 16) (some (qap r32.1 (x20.1.1++r32.2)))) (Option.bind (at? x20.2.1.2.2.2.2.2.2.2.2.2.2.2.2.2.1 (getD' r3 0 (0:Int))) fun d33 =>
  Option.bind (qo (x20.2.1.1,(x20.2.1.2.1,(x20.2.1.2.2.1,(x20.2.1.2.2.2.1,(x20.2.1.2.2.2.2.1,(x20.2.1.2.2.2.2.2.1,(x20.2.1.2.2.2.2.2.2.1,(x20.2.1.2.2.2.2.2.2.2.1,(x20.2.1.2.2.2.2.2.2.2.2.1,(x20.2.1.2.2.2.2.2.2.2.2.2.1,(x20.2.1.2.2.2.2.2.2.2.2.2.2.1,()))))))))))) p d33.2.1) fun r34 =>
  Option.bind (self (qbG x20.2.1 r34.1 r34.2.1.1 r34.2.1.2.1 r34.2.2 (getD' r3 0 (0:Int)))) fun r35 =>
  req (room (x20.1.1.length+r35.2.length) 16) (some (qap r35.1 (x20.1.1++r35.2))))))))) fun x36 =>
  some (qm2 x36)))
def qI (self:Zv1→Option Zv5) (x:Zv9×Zv23×Int×Unit):Option Zv5:=qca self x.1 x.2.1 x.2.2.1
def qbN (w:Zv14×Zv15×Unit) (p:Zv63×Zv42×Int×Int×Unit) (parent:Int):Option Zv5:=fixW qI (w,p,parent,())
def qet:Option (ByteArray×ByteArray×ByteArray×ByteArray×Unit) :=
  some ((ByteArray.mk #[42]),((ByteArray.mk #[49,45,48]),((ByteArray.mk #[48,45,49]),((ByteArray.mk #[49,47,50]),()))))
def qv:ByteArray×ByteArray×ByteArray×ByteArray×Unit :=
  ((ByteArray.mk #[42]),((ByteArray.mk #[49,45,48]),((ByteArray.mk #[48,45,49]),((ByteArray.mk #[49,47,50]),()))))
theorem qml:qet=some (qv):=by
  unfold qet qv
  first | rfl | simp only[qbq]
def qbL (x:Zv41×ByteArray×Zv27×Int×Unit) (x6:Zv61×Zv57):Option ((Zv61×Zv57) ⊕ Zv49) :=
  bif (decide (x6.1.1<((x.1.length:Nat):Int))) then(Option.bind (at? x.1 x6.1.1) fun d7 =>
  req (qk (ByteArray.mk #[91]) d7.1) (req (qk ((ByteArray.mk #[91])++d7.1) (ByteArray.mk #[32,34])) (req (qk (((ByteArray.mk #[91])++d7.1)++(ByteArray.mk #[32,34])) d7.2.1) (req (qk ((((ByteArray.mk #[91])++d7.1)++(ByteArray.mk #[32,34]))++d7.2.1) (ByteArray.mk #[34,93,10])) (req (room (x6.2.1.length+(((((ByteArray.mk #[91])++d7.1)++(ByteArray.mk #[32,34]))++d7.2.1)++(ByteArray.mk #[34,93,10])).size) 1) (req (Nat.blt 0 (x6.2.1++ql (((((ByteArray.mk #[91])++d7.1)++(ByteArray.mk #[32,34]))++d7.2.1)++(ByteArray.mk #[34,93,10]))).length) (some (Sum.inl (((w64 (x6.1.1+1)),()),((x6.2.1++ql (((((ByteArray.mk #[91])++d7.1)++(ByteArray.mk #[32,34]))++d7.2.1)++(ByteArray.mk #[34,93,10]))),()))))))))))
  else some (Sum.inr ((),(x6.2.1,())))
def qbT (r:ByteArray×Int×Int×Zv22×Zv63×Bool×Bool×Zv39×Int×Int×Int×Unit) (x:Zv41×ByteArray×Zv27×Int×Unit):Option (ByteArray×Int×Unit) :=
  Option.bind (qa7 r x) fun r5 =>
  bif (r5 !=0) then some ((ByteArray.mk #[]),(r5,()))
  else Option.bind (iterW (qbL x) (((0:Int),()),(([]:List Int),()))) fun x8 =>
  Option.bind (bif (!(x.2.1.toList==(ByteArray.mk #[]).toList)) then req (qk (ByteArray.mk #[123]) x.2.1) (req (qk ((ByteArray.mk #[123])++x.2.1) (ByteArray.mk #[125])) (req (room (([]:List ByteArray).length+([(((ByteArray.mk #[123])++x.2.1)++(ByteArray.mk #[125]))]).length) 16) (some (((([]:List ByteArray)++[(((ByteArray.mk #[123])++x.2.1)++(ByteArray.mk #[125]))]),()),()))))
  else some ((([]:List ByteArray),()),())) fun x9 =>
  Option.bind (qch r) fun r10 =>
  Option.bind (qbN (r,(x,())) (r10.1.1,((r10.1.2.1.1,(r10.1.2.1.2.1,())),r10.1.2.2)) (-1:Int)) fun r11 =>
  req (room (x9.1.1.length+r11.2.length) 16) (req (inb x.2.2.2.1 4) (req (room ((x9.1.1++r11.2).length+([(getD' [(qv).1,((qv).2).1,(((qv).2).2).1,((((qv).2).2).2).1] (x.2.2.2.1).toNat ByteArray.empty)]).length) 16) (Option.bind (joinS ((x9.1.1++r11.2)++[(getD' [(qv).1,((qv).2).1,(((qv).2).2).1,((((qv).2).2).2).1] (x.2.2.2.1).toNat ByteArray.empty)]) (ByteArray.mk #[32])) fun r12 =>
  req (qk r12 (ByteArray.mk #[10])) (req (room (x8.2.1.length+(r12++(ByteArray.mk #[10])).size) 1) (req (Nat.blt 0 (x8.2.1++ql (r12++(ByteArray.mk #[10]))).length) (bif (decide ((((x8.2.1++ql (r12++(ByteArray.mk #[10]))).length:Nat):Int)>8192)) then some ((ByteArray.mk #[]),((2:Int),()))
  else some ((strOf (x8.2.1++ql (r12++(ByteArray.mk #[10])))),((0:Int),()))))))))
def qgy:Option (Bool) :=
  Option.bind (qbT ((qT).1,(((qT).2).1,((((qT).2).2).1,(((((qT).2).2).2).1,((((((qT).2).2).2).2).1,(((((((qT).2).2).2).2).2).1,((((((((qT).2).2).2).2).2).2).1,(((((((((qT).2).2).2).2).2).2).2).1,((((((((((qT).2).2).2).2).2).2).2).2).1,(((((((((((qT).2).2).2).2).2).2).2).2).2).1,((((((((((((qT).2).2).2).2).2).2).2).2).2).2).1,()))))))))))) (([]:List Zv48),((ByteArray.mk #[]),([((-1:Int),((qkU (0:Int)),((ByteArray.mk #[]),())))],((0:Int),()))))) fun r2 =>
  some ((r2.2.1==0)&&(r2.1.toList==(ByteArray.mk #[83,64,97,49,32,42,10]).toList))
def qbZ (r:ByteArray×Int×Int×Zv22×Zv63×Bool×Bool×Zv39×Int×Int×Int×Unit) (l:List Zv33) (i:Int):Option Zv62 :=
  Option.bind (qpV l i) fun r6 =>
  Option.bind (qek r r6.1) fun r7 =>
  req (inb (w64 (((r7.1.length:Nat):Int)-2)) r7.1.length) (Option.bind (at? l i) fun d8 =>
  Option.bind (qfi r (getD' r7.1 (((w64 (((r7.1.length:Nat):Int)-2))).toNat) ([],(([],([],())),((0:Int),((0:Int),()))))) d8.2.1) fun r9 =>
  req (qk r9 (ByteArray.mk #[32])) (Option.bind (at? l i) fun d10 =>
  Option.bind (bif (!(d10.2.2.1.toList==(ByteArray.mk #[]).toList)) then(Option.bind (at? l i) fun d11 =>
  req (qk (ByteArray.mk #[123]) d11.2.2.1) (req (qk ((ByteArray.mk #[123])++d11.2.2.1) (ByteArray.mk #[125,32])) (req (qk (r9++(ByteArray.mk #[32])) (((ByteArray.mk #[123])++d11.2.2.1)++(ByteArray.mk #[125,32]))) (some ((((r9++(ByteArray.mk #[32]))++(((ByteArray.mk #[123])++d11.2.2.1)++(ByteArray.mk #[125,32]))),()),())))))
  else some (((r9++(ByteArray.mk #[32])),()),())) fun x12 =>
  some x12.1.1))
def qp (l:List Zv33) (node:Int) (r:ByteArray×Int×Int×Zv22×Zv63×Bool×Bool×Zv39×Int×Int×Int×Unit) (self:Zv12→Option Zv62) (x2:Zv50×(Unit)):Option ((Zv50×(Unit)) ⊕ ((Int×ByteArray×Unit)×(Unit))) :=
  bif (decide (x2.1.2.2.1<((l.length:Nat):Int))) then(Option.bind (Option.bind (at? l x2.1.2.2.1) fun d3 =>
  bif (d3.1 !=node) then some ((x2.1.1,x2.1.2.1,()),())
  else bif (decide (x2.1.1<0)) then(Option.bind (qbZ r l x2.1.2.2.1) fun r4 =>
  some ((x2.1.2.2.1,r4,()),()))
  else Option.bind (qbZ r l x2.1.2.2.1) fun r5 =>
  Option.bind (self (r,l,x2.1.2.2.1,())) fun r6 =>
  req (qk r5 r6) (req (qj (0:Int) (w64 ((((r5++r6).size:Nat):Int)-1)) (r5++r6).size) (req (qk (ByteArray.mk #[40]) ((r5++r6).extract 0 ((w64 ((((r5++r6).size:Nat):Int)-1))).toNat)) (req (qk ((ByteArray.mk #[40])++((r5++r6).extract 0 ((w64 ((((r5++r6).size:Nat):Int)-1))).toNat)) (ByteArray.mk #[41,32])) (req (qk x2.1.2.1 (((ByteArray.mk #[40])++((r5++r6).extract 0 ((w64 ((((r5++r6).size:Nat):Int)-1))).toNat))++(ByteArray.mk #[41,32]))) (some ((x2.1.1,(x2.1.2.1++(((ByteArray.mk #[40])++((r5++r6).extract 0 ((w64 ((((r5++r6).size:Nat):Int)-1))).toNat))++(ByteArray.mk #[41,32]))),()),()))))))) fun x7 =>
  some (Sum.inl ((x7.1.1,x7.1.2.1,(w64 (x2.1.2.2.1+1)),()),())))
  else some (Sum.inr ((x2.1.1,x2.1.2.1,()),()))
def qfH (self:Zv12→Option Zv62) (r:ByteArray×Int×Int×Zv22×Zv63×Bool×Bool×Zv39×Int×Int×Int×Unit) (l:List Zv33) (node:Int):Option Zv62 :=
  Option.bind (iterW (qp l node r self) (((-1:Int),(ByteArray.mk #[]),(0:Int),()),())) fun x8 =>
  bif (decide (x8.1.1<0)) then some (ByteArray.mk #[])
  else Option.bind (self (r,l,x8.1.1,())) fun r9 =>
  req (qk x8.1.2.1 r9) (some (x8.1.2.1++r9))
def qal (self:Zv12→Option Zv62) (x:Zv14×Zv27×Int×Unit):Option Zv62:=qfH self x.1 x.2.1 x.2.2.1
def qhH (r:ByteArray×Int×Int×Zv22×Zv63×Bool×Bool×Zv39×Int×Int×Int×Unit) (l:List Zv33) (node:Int):Option Zv62:=fixW qal (r,l,node,())
def qaA (x:Zv41×ByteArray×Zv27×Int×Unit) (x2:(ByteArray×Int×Unit)×(Unit)):Option (((ByteArray×Int×Unit)×(Unit)) ⊕ ((ByteArray×Unit)×(Unit))) :=
  bif (decide (x2.1.2.1<((x.1.length:Nat):Int))) then(Option.bind (at? x.1 x2.1.2.1) fun d3 =>
  req (qk (ByteArray.mk #[91]) d3.1) (req (qk ((ByteArray.mk #[91])++d3.1) (ByteArray.mk #[32,34])) (req (qk (((ByteArray.mk #[91])++d3.1)++(ByteArray.mk #[32,34])) d3.2.1) (req (qk ((((ByteArray.mk #[91])++d3.1)++(ByteArray.mk #[32,34]))++d3.2.1) (ByteArray.mk #[34,93,10])) (req (qk x2.1.1 (((((ByteArray.mk #[91])++d3.1)++(ByteArray.mk #[32,34]))++d3.2.1)++(ByteArray.mk #[34,93,10]))) (some (Sum.inl (((x2.1.1++(((((ByteArray.mk #[91])++d3.1)++(ByteArray.mk #[32,34]))++d3.2.1)++(ByteArray.mk #[34,93,10]))),(w64 (x2.1.2.1+1)),()),()))))))))
  else some (Sum.inr ((x2.1.1,()),()))
def qb1 (r:ByteArray×Int×Int×Zv22×Zv63×Bool×Bool×Zv39×Int×Int×Int×Unit) (x:Zv41×ByteArray×Zv27×Int×Unit):Option Zv62 :=
  Option.bind (iterW (qaA x) (((ByteArray.mk #[]),(0:Int),()),())) fun x4 =>
  Option.bind (bif (!(x.2.1.toList==(ByteArray.mk #[]).toList)) then req (qk (ByteArray.mk #[123]) x.2.1) (req (qk ((ByteArray.mk #[123])++x.2.1) (ByteArray.mk #[125,32])) (req (qk x4.1.1 (((ByteArray.mk #[123])++x.2.1)++(ByteArray.mk #[125,32]))) (some (((x4.1.1++(((ByteArray.mk #[123])++x.2.1)++(ByteArray.mk #[125,32]))),()),()))))
  else some ((x4.1.1,()),())) fun x5 =>
  Option.bind (qhH r x.2.2.1 (-1:Int)) fun r6 =>
  req (qk x5.1.1 r6) (req (inb x.2.2.2.1 ([(ByteArray.mk #[42]),(ByteArray.mk #[49,45,48]),(ByteArray.mk #[48,45,49]),(ByteArray.mk #[49,47,50])]).length) (req (qk (x5.1.1++r6) (getD' ([(ByteArray.mk #[42]),(ByteArray.mk #[49,45,48]),(ByteArray.mk #[48,45,49]),(ByteArray.mk #[49,47,50])]) ((x.2.2.2.1).toNat) ByteArray.empty)) (req (qk ((x5.1.1++r6)++(getD' ([(ByteArray.mk #[42]),(ByteArray.mk #[49,45,48]),(ByteArray.mk #[48,45,49]),(ByteArray.mk #[49,47,50])]) ((x.2.2.2.1).toNat) ByteArray.empty)) (ByteArray.mk #[10])) (some (((x5.1.1++r6)++(getD' ([(ByteArray.mk #[42]),(ByteArray.mk #[49,45,48]),(ByteArray.mk #[48,45,49]),(ByteArray.mk #[49,47,50])]) ((x.2.2.2.1).toNat) ByteArray.empty))++(ByteArray.mk #[10]))))))
def qK (y:Zv14×ByteArray×Zv15×Unit):Option (Zv7×Unit) :=
  Option.bind (qto y.2.1 (ByteArray.mk #[32,10])) fun r2 =>
  some ((y.1,(r2,((y.2.2.1.1,(y.2.2.1.2.1,(y.2.2.1.2.2.1,y.2.2.1.2.2.2))),()))),())
def qt (y:Zv14×ByteArray×Zv15×Unit) (c:Int):Option (Zv7×Bool) :=
  Option.bind (qK (y.1,(y.2.1,((y.2.2.1.1,(y.2.2.1.2.1,(y.2.2.1.2.2.1,y.2.2.1.2.2.2))),())))) fun r3 =>
  Option.bind (gopt (!(r3.1.2.1.toList==(ByteArray.mk #[]).toList)) 0 (strAt r3.1.2.1 (0:Int))) fun c4 =>
  bif ((r3.1.2.1.toList==(ByteArray.mk #[]).toList)||(((c4.toNat:Nat):Int)!=c)) then some ((r3.1.1,(r3.1.2.1,((r3.1.2.2.1.1,(r3.1.2.2.1.2.1,(r3.1.2.2.1.2.2.1,r3.1.2.2.1.2.2.2))),()))),false)
  else req (qj (1:Int) ((r3.1.2.1.size:Nat):Int) r3.1.2.1.size) (some ((r3.1.1,((r3.1.2.1.extract 1 (((r3.1.2.1.size:Nat):Int)).toNat),((r3.1.2.2.1.1,(r3.1.2.2.1.2.1,(r3.1.2.2.1.2.2.1,r3.1.2.2.1.2.2.2))),()))),true))
def qe2 (s:ByteArray):Option Zv62 :=
  Option.bind (qtR s) fun r2 =>
  some r2
def qZ (y:Zv14×ByteArray×Zv15×Unit) (end':ByteArray):Option Zv4 :=
  Option.bind (cutS y.2.1 end') fun r3 =>
  bif (!r3.2.2.1) then none
  else Option.bind (qe2 r3.1) fun r4 =>
  some ((y.1,(r3.2.1,((y.2.2.1.1,(y.2.2.1.2.1,(y.2.2.1.2.2.1,y.2.2.1.2.2.2))),()))),r4)
def qr (y:Zv14×ByteArray×Zv15×Unit):Option Zv4 :=
  Option.bind (qt (y.1,(y.2.1,((y.2.2.1.1,(y.2.2.1.2.1,(y.2.2.1.2.2.1,y.2.2.1.2.2.2))),()))) (123:Int)) fun r3 =>
  bif (!r3.2) then some ((r3.1.1,(r3.1.2.1,((r3.1.2.2.1.1,(r3.1.2.2.1.2.1,(r3.1.2.2.1.2.2.1,r3.1.2.2.1.2.2.2))),()))),(ByteArray.mk #[]))
  else Option.bind (qZ (r3.1.1,(r3.1.2.1,((r3.1.2.2.1.1,(r3.1.2.2.1.2.1,(r3.1.2.2.1.2.2.1,r3.1.2.2.1.2.2.2))),()))) (ByteArray.mk #[125])) fun r4 =>
  bif (r4.2.toList==(ByteArray.mk #[]).toList) then none
  else some ((r4.1.1,(r4.1.2.1,((r4.1.2.2.1.1,(r4.1.2.2.1.2.1,(r4.1.2.2.1.2.2.1,r4.1.2.2.1.2.2.2))),()))),r4.2)
def qJ (y:Zv14×ByteArray×Zv15×Unit):Option Zv4 :=
  Option.bind (qK (y.1,(y.2.1,((y.2.2.1.1,(y.2.2.1.2.1,(y.2.2.1.2.2.1,y.2.2.1.2.2.2))),())))) fun r3 =>
  Option.bind (qga r3.1.2.1 (ByteArray.mk #[32,10,40,41,123,125])) fun r4 =>
  Option.bind (bif (decide (r4<0)) then some ((((r3.1.2.1.size:Nat):Int),()),())
  else some ((r4,()),())) fun x5 =>
  req (qj (0:Int) x5.1.1 r3.1.2.1.size) (some ((r3.1.1,(r3.1.2.1,((r3.1.2.2.1.1,(r3.1.2.2.1.2.1,(r3.1.2.2.1.2.2.1,r3.1.2.2.1.2.2.2))),()))),(r3.1.2.1.extract 0 (x5.1.1).toNat)))
def qA (s:List ByteArray) (v:ByteArray) (x1:Zv61×(Unit)):Option (Zv56 ⊕ (Zv60 ⊕ Int)) :=
  bif (decide (x1.1.1<((s.length:Nat):Int))) then(Option.bind (at? s x1.1.1) fun d2 =>
  bif (v.toList==d2.toList) then some (Sum.inr (Sum.inr x1.1.1))
  else some (Sum.inl (((w64 (x1.1.1+1)),()),())))
  else some (Sum.inr (Sum.inl ((),())))
def qP (s:List ByteArray) (v:ByteArray):Option (Int) :=
  Option.bind (α:=Zv60 ⊕ Int) (iterW (qA s v) (((0:Int),()),())) (Sum.elim (fun x3 =>
  some (-1:Int)) some)
def qH (s:List ByteArray) (v:ByteArray):Option (Bool) :=
  Option.bind (qP s v) fun r2 =>
  some (decide (r2≥0))
def qas (y:Zv14×ByteArray×Zv15×Unit) (ns:List (Zv36×(Option (List Nat)))) (p:Zv63×Zv42×Int×Int×Unit):Option (Zv7×(List (Zv36×(Option (List Nat))))×Nat) :=
  Option.bind (qJ (y.1,(y.2.1,((y.2.2.1.1,(y.2.2.1.2.1,(y.2.2.1.2.2.1,y.2.2.1.2.2.2))),())))) fun r4 =>
  bif (r4.2.toList==(ByteArray.mk #[]).toList) then none
  else Option.bind (qc6 r4.1.1 p) fun r5 =>
  bif (r5 !=0) then none
  else Option.bind (qdD r4.1.1 p r4.2) fun r6 =>
  bif (r6.2.1 !=0) then none
  else req (qj ((r4.2.size:Nat):Int) ((r4.1.2.1.size:Nat):Int) r4.1.2.1.size) (Option.bind (agree (Option.bind (qr (r4.1.1,((r4.1.2.1.extract (((r4.2.size:Nat):Int)).toNat (((r4.1.2.1.size:Nat):Int)).toNat),((r4.1.2.2.1.1,(r4.1.2.2.1.2.1,(r4.1.2.2.1.2.2.1,r4.1.2.2.1.2.2.2))),())))) fun r7 =>
  Option.bind (some (addP ns (r6.1,(r7.2,())))) fun ns8 =>
  some (qbH r7.1 (ns.length+1) ns8)) (Option.bind (qr (r4.1.1,((r4.1.2.1.extract (((r4.2.size:Nat):Int)).toNat (((r4.1.2.1.size:Nat):Int)).toNat),((r4.1.2.2.1.1,(r4.1.2.2.1.2.1,(r4.1.2.2.1.2.2.1,r4.1.2.2.1.2.2.2))),())))) fun r9 =>
  Option.bind (some (addP ns (r6.1,(r9.2,())))) fun ns10 =>
  some (qbH r9.1 (ns.length+1) ns10))) fun x11 =>
  some (qnX x11))
def qG (p:Zv63×Zv42×Int×Int×Unit) (self:(Zv7×Unit×(List (Zv36×(Option (List Nat))))×Zv23×Unit)→Option (Zv7×(List (Zv36×(Option (List Nat))))×(List Nat))) (x10:((List Nat)×Unit)×(Zv10×(List (Zv36×(Option (List Nat))))×Unit)):Option ((((List Nat)×Unit)×(Zv10×(List (Zv36×(Option (List Nat))))×Unit)) ⊕ (((List Nat)×Unit)×(Zv10×(List (Zv36×(Option (List Nat))))×Unit))) :=
  Option.bind (qt (qeD x10.2.1) (40:Int)) fun r11 =>
  bif r11.2 then(Option.bind (qas (r11.1.1,(r11.1.2.1,((r11.1.2.2.1.1,(r11.1.2.2.1.2.1,(r11.1.2.2.1.2.2.1,r11.1.2.2.1.2.2.2))),()))) x10.2.2.1 p) fun r12 =>
  req (Nat.blt 0 r12.2.2) (Option.bind (qo r12.1.1 p (((ndP r12.2.1 (((0:Int),((0:Int),((0:Int),()))),(ByteArray.empty,())) r12.2.2).1).1,((((ndP r12.2.1 (((0:Int),((0:Int),((0:Int),()))),(ByteArray.empty,())) r12.2.2).1).2).1,(((((ndP r12.2.1 (((0:Int),((0:Int),((0:Int),()))),(ByteArray.empty,())) r12.2.2).1).2).2).1,())))) fun r13 =>
  Option.bind (self ((r12.1.1,(r12.1.2.1,((r12.1.2.2.1.1,(r12.1.2.2.1.2.1,(r12.1.2.2.1.2.2.1,r12.1.2.2.1.2.2.2))),()))),(),r12.2.1,(r13.1,((r13.2.1.1,(r13.2.1.2.1,())),r13.2.2)),())) fun r14 =>
  req (Nat.blt 0 r12.2.2) (Option.bind (some (putP r14.2.1 (((0:Int),((0:Int),((0:Int),()))),(ByteArray.empty,())) r12.2.2 r14.2.2)) fun ns15 =>
  Option.bind (qt (r14.1.1,(r14.1.2.1,((r14.1.2.2.1.1,(r14.1.2.2.1.2.1,(r14.1.2.2.1.2.2.1,r14.1.2.2.1.2.2.2))),()))) (41:Int)) fun r16 =>
  bif (!r16.2) then none
  else req (room (x10.1.1.length+([r12.2.2]).length) 8) (some (Sum.inl (qbH r16.1 (x10.1.1++[r12.2.2]) ns15))))))
  else some (Sum.inr (qbH r11.1 x10.1.1 x10.2.2.1))
def qa8 (self:(Zv7×Unit×(List (Zv36×(Option (List Nat))))×Zv23×Unit)→Option (Zv7×(List (Zv36×(Option (List Nat))))×(List Nat))) (y:Zv14×ByteArray×Zv15×Unit) (ns:List (Zv36×(Option (List Nat)))) (p:Zv63×Zv42×Int×Int×Unit):Option (Zv7×(List (Zv36×(Option (List Nat))))×(List Nat)) :=
  Option.bind (qJ (y.1,(y.2.1,((y.2.2.1.1,(y.2.2.1.2.1,(y.2.2.1.2.2.1,y.2.2.1.2.2.2))),())))) fun r6 =>
  Option.bind (bif (r6.2.toList==(ByteArray.mk #[]).toList) then some ((true,()),())
  else Option.bind (qH ([(ByteArray.mk #[42]),(ByteArray.mk #[49,45,48]),(ByteArray.mk #[48,45,49]),(ByteArray.mk #[49,47,50])]) r6.2) fun r7 =>
  some ((r7,()),())) fun x8 =>
  bif x8.1.1 then some ((r6.1.1,(r6.1.2.1,((r6.1.2.2.1.1,(r6.1.2.2.1.2.1,(r6.1.2.2.1.2.2.1,r6.1.2.2.1.2.2.2))),()))),ns,([]:List Nat))
  else Option.bind (qas (r6.1.1,(r6.1.2.1,((r6.1.2.2.1.1,(r6.1.2.2.1.2.1,(r6.1.2.2.1.2.2.1,r6.1.2.2.1.2.2.2))),()))) ns p) fun r9 =>
  Option.bind (iterW (qG p self) (qhw r9 ([r9.2.2]))) fun x17 =>
  req (Nat.blt 0 r9.2.2) (Option.bind (qo (x17.2.1.1,(x17.2.1.2.1,(x17.2.1.2.2.1,(x17.2.1.2.2.2.1,(x17.2.1.2.2.2.2.1,(x17.2.1.2.2.2.2.2.1,(x17.2.1.2.2.2.2.2.2.1,(x17.2.1.2.2.2.2.2.2.2.1,(x17.2.1.2.2.2.2.2.2.2.2.1,(x17.2.1.2.2.2.2.2.2.2.2.2.1,(x17.2.1.2.2.2.2.2.2.2.2.2.2.1,()))))))))))) p (((ndP x17.2.2.1 (((0:Int),((0:Int),((0:Int),()))),(ByteArray.empty,())) r9.2.2).1).1,((((ndP x17.2.2.1 (((0:Int),((0:Int),((0:Int),()))),(ByteArray.empty,())) r9.2.2).1).2).1,(((((ndP x17.2.2.1 (((0:Int),((0:Int),((0:Int),()))),(ByteArray.empty,())) r9.2.2).1).2).2).1,())))) fun r18 =>
  Option.bind (self (qmh x17.2 r18.1 r18.2.1.1 r18.2.1.2.1 r18.2.2)) fun r19 =>
  req (Nat.blt 0 r9.2.2) (Option.bind (some (putP r19.2.1 (((0:Int),((0:Int),((0:Int),()))),(ByteArray.empty,())) r9.2.2 r19.2.2)) fun ns20 =>
  some ((r19.1.1,(r19.1.2.1,((r19.1.2.2.1.1,(r19.1.2.2.1.2.1,(r19.1.2.2.1.2.2.1,r19.1.2.2.1.2.2.2))),()))),ns20,x17.1.1)))
def qC (self:(Zv7×Unit×(List (Zv36×(Option (List Nat))))×Zv23×Unit)→Option (Zv7×(List (Zv36×(Option (List Nat))))×(List Nat))) (x:Zv7×Unit×(List (Zv36×(Option (List Nat))))×Zv23×Unit):Option (Zv7×(List (Zv36×(Option (List Nat))))×(List Nat)):=qa8 self x.1 x.2.2.1 x.2.2.2.1
def qbU (y:Zv14×ByteArray×Zv15×Unit) (ns:List (Zv36×(Option (List Nat)))) (p:Zv63×Zv42×Int×Int×Unit):Option (Zv7×(List (Zv36×(Option (List Nat))))×(List Nat)):=fixW qC (y,(),ns,p,())
def qD (l:List Nat) (parent:Int) (self:(Zv7×Unit×(List ((Zv55×ByteArray×(List Nat)×Unit)×(Option (List Nat))))×(List Nat)×Int×Unit)→Option (Zv7×(List ((Zv55×ByteArray×(List Nat)×Unit)×(Option (List Nat))))×Unit)) (x1:Zv61×(Zv10×(List ((Zv55×ByteArray×(List Nat)×Unit)×(Option (List Nat))))×Unit)):Option ((Zv61×(Zv10×(List ((Zv55×ByteArray×(List Nat)×Unit)×(Option (List Nat))))×Unit)) ⊕ ((Unit)×(Zv10×(List ((Zv55×ByteArray×(List Nat)×Unit)×(Option (List Nat))))×Unit))) :=
  bif (decide (x1.1.1<((l.length:Nat):Int))) then(Option.bind (at? l x1.1.1) fun d2 =>
  req (Nat.blt 0 d2) (req (Nat.blt 0 d2) (req (room (x1.2.1.2.2.2.2.2.2.2.2.2.2.2.2.2.2.1.length+([(parent,((((ndP x1.2.2.1 (((0:Int),((0:Int),((0:Int),()))),(ByteArray.empty,([],()))) d2).1).1,((((ndP x1.2.2.1 (((0:Int),((0:Int),((0:Int),()))),(ByteArray.empty,([],()))) d2).1).2).1,(((((ndP x1.2.2.1 (((0:Int),((0:Int),((0:Int),()))),(ByteArray.empty,([],()))) d2).1).2).2).1,()))),(((ndP x1.2.2.1 (((0:Int),((0:Int),((0:Int),()))),(ByteArray.empty,([],()))) d2).2).1,())))]).length) 48) (req (Nat.blt 0 d2) (Option.bind (self (qmi x1.2 (x1.2.1.2.2.2.2.2.2.2.2.2.2.2.2.2.2.1++[(parent,((((ndP x1.2.2.1 (((0:Int),((0:Int),((0:Int),()))),(ByteArray.empty,([],()))) d2).1).1,((((ndP x1.2.2.1 (((0:Int),((0:Int),((0:Int),()))),(ByteArray.empty,([],()))) d2).1).2).1,(((((ndP x1.2.2.1 (((0:Int),((0:Int),((0:Int),()))),(ByteArray.empty,([],()))) d2).1).2).2).1,()))),(((ndP x1.2.2.1 (((0:Int),((0:Int),((0:Int),()))),(ByteArray.empty,([],()))) d2).2).1,())))]) ((((ndP x1.2.2.1 (((0:Int),((0:Int),((0:Int),()))),(ByteArray.empty,([],()))) d2).2).2).1) ((x1.2.1.2.2.2.2.2.2.2.2.2.2.2.2.2.2.1.length:Nat):Int))) fun r3 =>
  some (Sum.inl (qhw r3 (w64 (x1.1.1+1)))))))))
  else some (Sum.inr (qmd x1.2))
def qcJ (self:(Zv7×Unit×(List ((Zv55×ByteArray×(List Nat)×Unit)×(Option (List Nat))))×(List Nat)×Int×Unit)→Option (Zv7×(List ((Zv55×ByteArray×(List Nat)×Unit)×(Option (List Nat))))×Unit)) (y:Zv14×ByteArray×Zv15×Unit) (ns:List ((Zv55×ByteArray×(List Nat)×Unit)×(Option (List Nat)))) (l:List Nat) (parent:Int):Option (Zv7×(List ((Zv55×ByteArray×(List Nat)×Unit)×(Option (List Nat))))×Unit) :=
  Option.bind (iterW (qD l parent self) (qbH y (0:Int) ns)) fun x4 =>
  some (qmm x4.2)
def qQ (self:(Zv7×Unit×(List ((Zv55×ByteArray×(List Nat)×Unit)×(Option (List Nat))))×(List Nat)×Int×Unit)→Option (Zv7×(List ((Zv55×ByteArray×(List Nat)×Unit)×(Option (List Nat))))×Unit)) (x:Zv7×Unit×(List ((Zv55×ByteArray×(List Nat)×Unit)×(Option (List Nat))))×(List Nat)×Int×Unit):Option (Zv7×(List ((Zv55×ByteArray×(List Nat)×Unit)×(Option (List Nat))))×Unit):=qcJ self x.1 x.2.2.1 x.2.2.2.1 x.2.2.2.2.1
def qb7 (y:Zv14×ByteArray×Zv15×Unit) (ns:List ((Zv55×ByteArray×(List Nat)×Unit)×(Option (List Nat)))) (l:List Nat) (parent:Int):Option (Zv7×(List ((Zv55×ByteArray×(List Nat)×Unit)×(Option (List Nat))))×Unit):=fixW qQ (y,(),ns,l,parent,())
def qbR (x12:(Unit)×Zv8):Option (Zv6 ⊕ Zv6) :=
  Option.bind (qt (qeD x12.2.1) (91:Int)) fun r13 =>
  bif r13.2 then(Option.bind (qZ (r13.1.1,(r13.1.2.1,((r13.1.2.2.1.1,(r13.1.2.2.1.2.1,(r13.1.2.2.1.2.2.1,r13.1.2.2.1.2.2.2))),()))) (ByteArray.mk #[32,34])) fun r14 =>
  Option.bind (qZ (r14.1.1,(r14.1.2.1,((r14.1.2.2.1.1,(r14.1.2.2.1.2.1,(r14.1.2.2.1.2.2.1,r14.1.2.2.1.2.2.2))),()))) (ByteArray.mk #[34,93])) fun r15 =>
  req (room (r15.1.2.2.1.1.length+([(r14.2,(r15.2,()))]).length) 32) (some (Sum.inl (qma r15.1 (r15.1.2.2.1.1++[(r14.2,(r15.2,()))])))))
  else some (Sum.inr (qmg r13.1))
def qhR (r:ByteArray×Int×Int×Zv22×Zv63×Bool×Bool×Zv39×Int×Int×Int×Unit) (s:ByteArray):Option (Zv15×Int×Unit) :=
  Option.bind (qcZ r) fun r11 =>
  bif (r11 !=0) then some ((([]:List Zv48),((ByteArray.mk #[]),(([]:List Zv33),((0:Int),())))),(r11,()))
  else bif (decide (((s.size:Nat):Int)>8192)) then some ((([]:List Zv48),((ByteArray.mk #[]),(([]:List Zv33),((0:Int),())))),((2:Int),()))
  else Option.bind (iterW (qbR) ((),((r.1,(r.2.1,(r.2.2.1,(r.2.2.2.1,(r.2.2.2.2.1,(r.2.2.2.2.2.1,(r.2.2.2.2.2.2.1,(r.2.2.2.2.2.2.2.1,(r.2.2.2.2.2.2.2.2.1,(r.2.2.2.2.2.2.2.2.2.1,(r.2.2.2.2.2.2.2.2.2.2.1,(s,(([]:List Zv48),((ByteArray.mk #[]),(([]:List Zv33),((0:Int),())))))))))))))))),()))) fun x16 =>
  Option.bind (qr (qeD x16.2.1)) fun r17 =>
  Option.bind (qch r17.1.1) fun r18 =>
  Option.bind (qbU (r17.1.1,(r17.1.2.1,((r17.1.2.2.1.1,(r17.2,(r17.1.2.2.1.2.2.1,r17.1.2.2.1.2.2.2))),()))) ([]:List (Zv36×(Option (List Nat)))) (r18.1.1,((r18.1.2.1.1,(r18.1.2.1.2.1,())),r18.1.2.2))) fun r19 =>
  Option.bind (qJ (r19.1.1,(r19.1.2.1,((r19.1.2.2.1.1,(r19.1.2.2.1.2.1,(r19.1.2.2.1.2.2.1,r19.1.2.2.1.2.2.2))),())))) fun r20 =>
  Option.bind (qP ([(qv).1,((qv).2).1,(((qv).2).2).1,((((qv).2).2).2).1]:List ByteArray) r20.2) fun r21 =>
  bif (decide (r21<0)) then some ((([]:List Zv48),((ByteArray.mk #[]),(([]:List Zv33),((0:Int),())))),((5:Int),()))
  else req (qj ((r20.2.size:Nat):Int) ((r20.1.2.1.size:Nat):Int) r20.1.2.1.size) (Option.bind (qK (r20.1.1,((r20.1.2.1.extract (((r20.2.size:Nat):Int)).toNat (((r20.1.2.1.size:Nat):Int)).toNat),((r20.1.2.2.1.1,(r20.1.2.2.1.2.1,(r20.1.2.2.1.2.2.1,(r21,())))),())))) fun r22 =>
  bif (!(r22.1.2.1.toList==(ByteArray.mk #[]).toList)) then some ((([]:List Zv48),((ByteArray.mk #[]),(([]:List Zv33),((0:Int),())))),((5:Int),()))
  else Option.bind (some (List.map (fun (x:Zv36×Option (List Nat))=>((x.1.1,(x.1.2.1,(x.2.getD [],()))),(none:Option (List Nat)))) r19.2.1)) fun ns23 =>
  Option.bind (qb7 (r22.1.1,(r22.1.2.1,((r22.1.2.2.1.1,(r22.1.2.2.1.2.1,(r22.1.2.2.1.2.2.1,r22.1.2.2.1.2.2.2))),()))) ns23 r19.2.2 (-1:Int)) fun r24 =>
  Option.bind (qa7 r (r24.1.2.2.1.1,(r24.1.2.2.1.2.1,(r24.1.2.2.1.2.2.1,r24.1.2.2.1.2.2.2)))) fun r25 =>
  bif (r25 !=0) then some ((([]:List Zv48),((ByteArray.mk #[]),(([]:List Zv33),((0:Int),())))),(r25,()))
  else some ((r24.1.2.2.1.1,(r24.1.2.2.1.2.1,(r24.1.2.2.1.2.2.1,r24.1.2.2.1.2.2.2))),((0:Int),())))
def qdJ (r:ByteArray×Int×Int×Zv22×Zv63×Bool×Bool×Zv39×Int×Int×Int×Unit) (x:Zv41×ByteArray×Zv27×Int×Unit):Option (Bool) :=
  Option.bind (qgy) fun r9 =>
  bif (!r9) then some false
  else Option.bind (qg5 x) fun r10 =>
  bif (qhv r) then some true
  else Option.bind (qbT r r10) fun r11 =>
  Option.bind (qa2 r r10) fun r12 =>
  bif (r12 !=0) then some ((r11.2.1==r12)&&(r11.1.toList==(ByteArray.mk #[]).toList))
  else Option.bind (qb1 r r10) fun r13 =>
  bif (decide (((r13.size:Nat):Int)>8192)) then some ((r11.2.1==2)&&(r11.1.toList==(ByteArray.mk #[]).toList))
  else Option.bind (qhR r r13) fun r14 =>
  Option.bind (gopt (((r11.2.1==0)&&(r11.1.toList==r13.toList))&&(r14.2.1==0)) (0:Int) (qa2 r (r14.1.1,(r14.1.2.1,(r14.1.2.2.1,r14.1.2.2.2))))) fun r15 =>
  Option.bind (gopt ((((r11.2.1==0)&&(r11.1.toList==r13.toList))&&(r14.2.1==0))&&(r15==0)) ByteArray.empty (qb1 r (r14.1.1,(r14.1.2.1,(r14.1.2.2.1,r14.1.2.2.2))))) fun r16 =>
  some (((((r11.2.1==0)&&(r11.1.toList==r13.toList))&&(r14.2.1==0))&&(r15==0))&&(r16.toList==r13.toList))
end
end Go.Proofs.YthidcmjpbokeeaaGreatDoor
namespace Go.Den
open Go.Eng Go.Sort Go.Proofs Go.Shelf Go.Lib
set_option linter.unusedVariables false
set_option linter.unusedSectionVars false
set_option linter.unusedSimpArgs false
instance (τ:Ty):Inhabited (D τ):=⟨dflt τ⟩

theorem qtN {α:Type} [Inhabited α] (enc:α→List Value) (k:Nat) (hk:∀x,(enc x).length=k):∀(l:List α) (t:Nat),t<l.length*k→(l.map enc).flatten[t]?=some ((enc l[t / k]!)[t % k]!)
  | [],t,h=>by simp at h
  | x::l,t,h=>by
    rw[List.map_cons,List.flatten_cons];have k0:0<k:=by
      rcases Nat.eq_zero_or_pos k with e | e
      · subst e;simp at h
      · exact e
    by_cases ht:t<k
    · rw[List.getElem?_append_left (by rw[hk];exact ht),Nat.div_eq_of_lt ht,Nat.mod_eq_of_lt ht];simp[hk,ht]
    · rw[List.getElem?_append_right (by rw[hk];omega),hk,qtN enc k hk l (t-k) (by rw[List.length_cons,Nat.add_mul] at h;omega)];obtain⟨u,rfl⟩:∃u,t=u+k:=⟨t-k,by omega⟩;rw[Nat.add_sub_cancel,Nat.add_div_right _ k0,Nat.add_mod_right];simp
theorem flen {α:Type} (enc:α→List Value) (k:Nat) (hk:∀x,(enc x).length=k):∀l:List α,((l.map enc).flatten).length=l.length*k
  | []=>by simp
  | x::l=>by rw[List.map_cons,List.flatten_cons,List.length_append,hk,flen enc k hk l,List.length_cons,Nat.add_mul];omega
theorem qpr {α:Type} [Inhabited α] (enc:α→List Value) (k:Nat) (hk:∀x,(enc x).length=k) (l:List α):flatK enc k l.toArray=((l.map enc).flatten).toArray:=by
  have hl:=flen enc k hk l;refine ext_get! (by simp[hl]) fun t ht=>?_
  have ht':t<l.toArray.size*k:=by simpa using ht
  rw[get_flatK _ _ _ _ ht'];have:=qtN enc k hk l t (by simpa using ht');simp[this]

variable [CT : Ctx]
theorem qi6 {w:World} {S:Sp}:∀(τ:Ty) (x:D τ),τ.flat=true→Rep w S τ x [] (qaV τ x)
  | .int k,x,_=>⟨rfl,rfl⟩
  | .bool,x,_=>⟨rfl,rfl⟩
  | .str,x,_=>⟨rfl,rfl⟩
  | .nil,x,_=>⟨rfl,rfl⟩
  | .sl e,x,h=>by cases h
  | .osl i e,x,h=>by cases h
  | .obx _,x,h=>by cases h
  | .err,x,h=>by cases h
  | .bld _ _,x,h=>by cases h
  | .st f r,x,h=>by
    simp only[Ty.flat,Bool.and_eq_true] at h;exact⟨_,_,[],[],rfl,rfl,qi6 f x.1 h.1,qi6 r x.2 h.2⟩
theorem qr1 {w:World} {S:Sp} {τ:Ty} (hf:τ.flat=true):∀ {xs:List (D τ)} {us:List Value},RepL (fun x c=>Rep w S τ x [] c) xs us→us=(xs.map (qaV τ)).flatten
  | [],us,h=>h
  | x::xs,us,⟨c,r,e,h1,h2⟩=>by
    rw[e,qjH τ hf h1,qr1 hf h2];rfl
theorem qrc {w:World} {S:Sp} {τ:Ty} (hf:τ.flat=true):∀(xs:List (D τ)),RepL (fun x c=>Rep w S τ x [] c) xs (xs.map (qaV τ)).flatten
  | []=>rfl
  | x::xs=>⟨_,_,rfl,qi6 τ x hf,qrc hf xs⟩
theorem chg_grow {w w':World} (h:Chg (CT:=⟨[],[],true,[],none,none⟩) [] w w'):∃q os',w'=grow (w.drewN q) os':=by
  refine⟨w'.drawn-w.drawn,w'.heap.extract w.heap.size w'.heap.size,?_⟩;obtain⟨heap,tape,drawn,os,output⟩:=w;obtain⟨heap',tape',drawn',os',output'⟩:=w';obtain⟨h1,h2,h3,h4,h5,h6⟩:=h;simp only at h1 h2 h3 h4 h5 h6;subst h1 h2 h3;have h6:=h6 trivial;have:heap'=heap++heap'.extract heap.size heap'.size:=by
    apply Array.ext_getElem?;intro j;rw[Array.getElem?_append];by_cases hj:j<heap.size
    · rw[if_pos hj];exact h5 j hj (by simp)
    · rw[if_neg hj,Array.getElem?_extract];by_cases hj2:j<heap'.size
      · rw[if_pos (by omega)];congr 1;omega
      · rw[if_neg (by omega),Array.getElem?_eq_none (by omega)]
  show World.mk heap' tape' drawn' os' output'=World.mk (heap++heap'.extract heap.size heap'.size) tape' (drawn+(drawn'-drawn)) os' output';rw[←this];congr 1;omega

section
variable {P : Program} {ρ : Ren}
theorem qta (L:SlLaysF0.n6 P ρ) {f:FuncId} (hf6:ρ.f 6=f) {τ:Ty} {i:TypeId} (hi:ρ.t 24=i) (hflat:τ.flat=true) (hagg:τ.isAgg=true) (aE:∀w,(isAgg i).run P w = .ok true w) (zE:∀w,(Go.sizeOf i).run P w = .ok τ.size w) {g:FuncId} {res:List Ty} {φ:DL [τ,τ]→Option Int} {tot:Option (DL [τ,τ]→Int)}
    (hc:ConOK (CT:=⟨[],[],true,[],none,none⟩) P g ⟨[τ,τ],true,res,.int .i64,φ,tot⟩) (cf:D τ→D τ→Int) (hcf:∀x y,φ (x,y,())=some (cf x y)) (hO:SWO (ltOf cf)) (hT:∀x y,(ltOf cf) x y=false→(ltOf cf) y x=false→x=y) (eg:∀args w,(callFunc g args).run P w = .ok (.enter g args) w) :
    SrtOK P f ⟨i,τ,some g,fun xs=>xs.mergeSort fun x y=>!(ltOf cf) y x⟩:=by
  subst hf6;subst hi;refine⟨hflat,fun xs=>List.length_mergeSort xs,fun w S v M xs us hlen hown hrep=>?_⟩;simp only at hown hrep ⊢;have hsz:∀x:D τ,(qaV τ x).length=τ.size:=fun x=>Rep.length τ (qi6 (w:=w) (S:=S) τ x hflat);have hus:=qr1 hflat hrep;rcases hown with ⟨rfl,⟨ao,rfl⟩,h3,h4⟩ | ⟨b,cap,cur,rfl,rfl,hb,hcap,hcap2,hcs,htake⟩
  · have hxs:xs=[]:=List.length_eq_zero_iff.1 h3;subst hxs;refine(AnyF.slices_SortFunc_none L ao 0 _ w).mono ?_
    rintro e w' ⟨rfl,rfl⟩
    exact⟨rfl,Chg.refl _ _,us,.inl ⟨rfl,⟨ao,rfl⟩,rfl,h4⟩,by subst h4;simp[RepL]⟩
  · have hrow:=hb;obtain⟨fz,hb,hfz⟩:=hb;have hcmp:CmpLays P g #[] (qaV τ) τ.size cf b 0 xs.toArray.size w:=fun m os dk hdk x y=>by
      have:=ConOK.calls (CT:=⟨[],[],true,[],none,none⟩) hc (sortWorldK (qaV τ) τ.size w b 0 m dk os) ⟨fun _=>False,fun _=>none⟩ (#[.agg (qaV τ x).toArray,.agg (qaV τ y).toArray] ++ #[]) (x,y,()) (cf x y) (fun _ h=>h.elim) (tabR_nil (CT:=⟨[],[],true,[],none,none⟩) rfl rfl)
        ⟨_,_,rfl,⟨qaV τ x,qi6 (CT:=⟨[],[],true,[],none,none⟩) τ x hflat,by simp[oneV,hagg]⟩,_,_,rfl,⟨qaV τ y,qi6 (CT:=⟨[],[],true,[],none,none⟩) τ y hflat,by simp[oneV,hagg]⟩,rfl⟩ (hcf x y)
      refine this.mono ?_
      rintro e w' ⟨v,rfl,hch,M',cs,_,_,hr,hv⟩
      refine⟨?_,chg_grow hch⟩;rw[hv,hr.2];rfl
    have hblk:b<w.heap.size:=(Array.getElem?_eq_some_iff.1 hb).1
    have hul:us.length=xs.length*τ.size:=by rw[hus];exact flen _ _ hsz xs
    have hnc:xs.length*τ.size≤cur.size:=by rw[hcs];exact Nat.mul_le_mul_right _ hcap
    have hH:HoldsK (qaV τ) τ.size w b 0 xs.toArray:=by
      intro j hj;rw[size_flatK] at hj;rw[qpr _ _ hsz,←hus]
      have hj':j<us.length:=by rw[hul];simpa using hj
      refine⟨?_,by rw[Nat.zero_add];exact hrow.fro (by omega)⟩;simp only[World.cell?,hb,Nat.zero_add];have:cur[j]?=us[j]?:=by
        rw[←htake,List.getElem?_take,if_pos (by rw[←hul];exact hj'),Array.getElem?_toList]
      simp[this,hj']
    have:=AnyQ.slices_SortFunc_total L τ.size aE zE (qaV τ) hsz (fun x v hv=>Rep.one τ (qi6 (w:=w) (S:=S) τ x hflat) v hv) cf hO g #[] b 0 cap xs.toArray w eg hcmp hH hblk (by simpa using hlen) hT;simp only[List.size_toArray] at this;refine this.mono ?_
    rintro e w' ⟨rfl,n,os,rfl⟩
    have hl:=List.length_mergeSort (le:=fun x y=>!ltOf cf y x) xs;generalize hys:xs.mergeSort (fun x y=>!ltOf cf y x)=ys at hl ⊢;simp only[hys]
    have hyl:((ys.map (qaV τ)).flatten).length=xs.length*τ.size:=by rw[flen _ _ hsz ys,hl]
    have hheap:∀j,j<w.heap.size→(sortWorldK (qaV τ) τ.size w b 0 n ys.toArray os).heap[j]?=if b=j then some (.cells (putCells id 0 (flatK (qaV τ) τ.size ys.toArray) cur) (ρ.t 24) fz) else w.heap[j]?:=fun j hj=>by
      simp only[sortWorldK,putRowK,putRow,grow,mapBlock,Sort.ahead];rw[Array.getElem?_append_left (by simpa using hj),Array.getElem?_modify];by_cases e:b=j
      · subst e;simp[hb,onCells]
      · simp[e]
    refine⟨trivial,⟨rfl,rfl,rfl,?_,fun j hj hn=>?_,?_⟩,_,.inr ⟨b,cap,putCells id 0 (flatK (qaV τ) τ.size ys.toArray) cur,rfl,rfl,?_,hcap,hcap2,?_,rfl⟩,?_⟩
    · simp[sortWorldK,putRowK,putRow,grow,mapBlock,Sort.ahead]
    · rw[hheap j hj,if_neg (fun e=>hn (by simp[e]))]
    · simp[sortWorldK,putRowK,putRow,grow,mapBlock,Sort.ahead]
    · exact⟨fz,by rw[hheap b hblk,if_pos rfl],by simpa[putCells] using hfz⟩
    · simp[putCells,hcs]
    · have:(putCells id 0 (flatK (qaV τ) τ.size ys.toArray) cur).toList.take (xs.length*τ.size)=(ys.map (qaV τ)).flatten:=by
        apply List.ext_getElem?;intro j;rw[List.getElem?_take];by_cases hj:j<xs.length*τ.size
        · rw[if_pos hj,Array.getElem?_toList,qpr _ _ hsz]
          have h1:j<cur.size:=by omega
          simp[putCells,Array.getElem?_mapIdx,h1,hyl,hj]
        · rw[if_neg hj,List.getElem?_eq_none (by rw[hyl];omega)]
      rw[this];exact qrc hflat ys
end
end Go.Den
namespace Go.Den
set_option linter.unusedVariables false
set_option linter.unusedSimpArgs false

theorem qlp {T α:Type} {f:T→Option (T ⊕ α)}:∀ {n m:Nat} {x:T} {r:α},iterN f n x=some r→n≤m→iterN f m x=some r
  | 0,_,_,_,h,_=>by simp[iterN] at h
  | n+1,0,_,_,_,h=>by omega
  | n+1,m+1,x,r,h,hm=>by
    simp only[iterN] at h ⊢
    match hf:f x with
    | none=>simp[hf] at h
    | some (.inr q)=>simp only[hf] at h ⊢;exact h
    | some (.inl y)=>simp only[hf] at h ⊢;exact qlp h (by omega)
theorem qmE {T α:Type} {f:T→Option (T ⊕ α)} {n:Nat} {x:T} {r:α} (h:iterN f n x=some r):iterW f x=some r:=by
  have hx:∃n,(iterN f n x).isSome=true:=⟨n,by rw[h];rfl⟩;unfold iterW;rw[dif_pos hx];obtain⟨q,hq⟩:=Option.isSome_iff_exists.1 (Classical.choose_spec hx);rw[hq];rcases Nat.le_total n (Classical.choose hx) with hl | hl
  · rw[←hq,qlp h hl]
  · rw[←h,qlp hq hl]
theorem qnr {T α:Type} {f:T→Option (T ⊕ α)} {x:T} {r:α} (h:iterW f x=some r):∃n,iterN f n x=some r:=by
  unfold iterW at h;split at h
  · exact⟨_,h⟩
  · cases h
theorem qn {T α:Type} {f:T→Option (T ⊕ α)} {x y:T} (h:f x=some (.inl y)):iterW f x=iterW f y:=by
  cases hy:iterW f y with
  | some r =>
    obtain⟨n,hn⟩:=qnr hy;exact qmE (n:=n+1) (by simp[iterN,h,hn])
  | none =>
    cases hx:iterW f x with
    | none=>rfl
    | some r =>
      obtain⟨n,hn⟩:=qnr hx
      cases n with
      | zero=>simp[iterN] at hn
      | succ n =>
        simp only[iterN,h] at hn;rw[qmE hn] at hy;cases hy
theorem qg {T α:Type} {f:T→Option (T ⊕ α)} {x:T} {r:α} (h:f x=some (.inr r)):iterW f x=some r:=qmE (n:=1) (by simp[iterN,h])
theorem qk8 {T α:Type} {f:T→Option (T ⊕ α)} (I:T→Prop) (μ:T→Nat) (Q:α→Prop)
    (h:∀x,I x→(∃y,f x=some (.inl y)∧I y∧μ y<μ x)∨(∃r,f x=some (.inr r)∧Q r)):∀x,I x→∃r,iterW f x=some r∧Q r:=by
  have key:∀(n:Nat) x,μ x<n→I x→∃r,iterW f x=some r∧Q r:=by
    intro n
    induction n with
    | zero=>intro x hx;omega
    | succ n ih =>
      intro x hx hi;rcases h x hi with ⟨y,h1,h2,h3⟩ | ⟨r,h1,h2⟩
      · rw[qn h1];exact ih y (by omega) h2
      · exact⟨r,qg h1,h2⟩
  exact fun x hi=>key _ x (Nat.lt_succ_self _) hi
theorem qqF {T α:Type} {f:T→Option (T ⊕ α)} (I:T→Prop) (μ:T→Nat) (g:T→α)
    (h:∀x,I x→(∃y,f x=some (.inl y)∧I y∧μ y<μ x∧g y=g x)∨f x=some (.inr (g x))):∀x,I x→iterW f x=some (g x):=by
  have key:∀(n:Nat) x,μ x<n→I x→iterW f x=some (g x):=by
    intro n
    induction n with
    | zero=>intro x hx;omega
    | succ n ih =>
      intro x hx hi;rcases h x hi with ⟨y,h1,h2,h3,h4⟩ | h1
      · rw[qn h1,ih y (by omega) h2,h4]
      · exact qg h1
  exact fun x hi=>key _ x (Nat.lt_succ_self _) hi
theorem qbD {T α:Type} {f:T→Option (T ⊕ α)} (n:Nat) (st:Nat→T) (r:α) (hs:∀i,i<n→f (st i)=some (.inl (st (i+1)))) (he:f (st n)=some (.inr r)):iterW f (st 0)=some r:=by
  have key:∀k,k≤n→iterW f (st (n-k))=some r:=by
    intro k
    induction k with
    | zero=>intro _;exact qg he
    | succ k ih =>
      intro hk;have:=hs (n-(k+1)) (by omega);rw[show n-(k+1)+1=n-k by omega] at this;rw[qn this];exact ih (by omega)
  have:=key n (Nat.le_refl _)
  rwa [Nat.sub_self] at this
theorem qY {α β:Type} (xs:List α) (p:α→Bool) (f:((Int×Unit)×Unit)→Option (((Int×Unit)×Unit) ⊕ β)) (A B:β)
    (h1:∀i (hi:i<xs.length),f (((i:Int),()),())=bif p xs[i] then some (.inr A) else some (.inl ((((i+1:Nat):Int),()),()))) (h2:f (((xs.length:Int),()),())=some (.inr B)) :
    iterW f ((0,()),())=some (bif xs.any p then A else B):=by
  have key:∀k i,i+k=xs.length→iterW f (((i:Int),()),())=some (bif (xs.drop i).any p then A else B):=by
    intro k
    induction k with
    | zero =>
      intro i hi
      have:i=xs.length:=by omega
      subst this;rw[qg h2];simp
    | succ k ih =>
      intro i hi
      have hl:i<xs.length:=by omega
      have hs:=h1 i hl;rw[List.drop_eq_getElem_cons hl]
      cases hp:p xs[i] with
      | true =>
        rw[hp] at hs;rw[qg hs];simp only[List.any_cons,hp,Bool.true_or,cond_true]
      | false =>
        rw[hp] at hs;rw[qn hs,ih (i+1) (by omega)];simp only[List.any_cons,hp,Bool.false_or]
  have:=key xs.length 0 (by omega);simpa using this
def scan {β:Type} (e:Nat→Option β) (B:β):Nat→Nat→β
  | _,0=>B
  | i,k+1=>match e i with
    | some b=>b
    | none=>scan e B (i+1) k
theorem qo0 {β:Type} (n:Nat) (f:((Int×Unit)×Unit)→Option (((Int×Unit)×Unit) ⊕ β)) (e:Nat→Option β) (B:β)
    (h1:∀i,i<n→f (((i:Int),()),())=match e i with
      | some b=>some (.inr b)
      | none=>some (.inl ((((i+1:Nat):Int),()),()))) (h2:f (((n:Int),()),())=some (.inr B)) :
    iterW f ((0,()),())=some (scan e B 0 n):=by
  have key:∀k i,i+k=n→iterW f (((i:Int),()),())=some (scan e B i k):=by
    intro k
    induction k with
    | zero =>
      intro i hi
      have:i=n:=by omega
      subst this;exact qg h2
    | succ k ih =>
      intro i hi;have hs:=h1 i (by omega);unfold scan
      match he:e i with
      | some b=>rw[he] at hs;exact qg hs
      | none=>rw[he] at hs;rw[qn hs];exact ih (i+1) (by omega)
  exact key n 0 (by omega)
theorem qe {n:Int} (h1 : -9223372036854775808≤n) (h2:n≤9223372036854775807):w64 n=n:=by
  simp[w64,IntKind.wrap,IntKind.signed,IntKind.bits];omega
theorem qae {n b:Nat} (h:n*b≤140737488355328):room n b=true:=Nat.ble_eq_true_of_le h
theorem beq_f {α:Type} [BEq α] [LawfulBEq α] {a b:α} (h:¬a=b):(a==b)=false:=by simpa using h
theorem bne_t {α:Type} [BEq α] [LawfulBEq α] {a b:α} (h:¬a=b):(a !=b)=true:=by simpa using h
theorem beq_t {α:Type} [BEq α] [LawfulBEq α] {a b:α} (h:a=b):(a==b)=true:=by simpa using h
theorem bne_f {α:Type} [BEq α] [LawfulBEq α] {a b:α} (h:a=b):(a !=b)=false:=by simpa using h
theorem qa {α:Type} (x:Option α):req true x=x:=rfl
theorem at?_eq {α:Type} (xs:List α) (i:Int) (h0:0≤i) (h1:i<(xs.length:Int)):at? xs i=some (xs[i.toNat]'(by omega)):=by
  simp[at?,h0,List.getElem?_eq_getElem (show i.toNat<xs.length by omega)]
theorem inb_iff {i:Int} {n:Nat}:inb i n=true↔0≤i∧i<(n:Int):=by simp[inb]
def Le {α:Type} (a b:Option α):Prop:=∀r,a=some r→b=some r
theorem Le.refl {α:Type} (a:Option α):Le a a:=fun _ h=>h
theorem Le.bind {α β:Type} {a b:Option α} {f g:α→Option β} (h:Le a b) (hf:∀x,Le (f x) (g x)):Le (Option.bind a f) (Option.bind b g):=fun r hr=>by
  obtain⟨x,h1,h2⟩:=Option.bind_eq_some_iff.1 hr;rw[h x h1];exact hf x r h2
theorem Le.elim {α β γ:Type} {f g:α→Option γ} {f' g':β→Option γ} (h:∀x,Le (f x) (g x)) (h':∀x,Le (f' x) (g' x)):∀x,Le (Sum.elim f f' x) (Sum.elim g g' x)
  | .inl x=>h x
  | .inr x=>h' x
theorem Le.cond {α:Type} {c:Bool} {a b a' b':Option α} (h:Le a a') (h':Le b b'):Le (bif c then a else b) (bif c then a' else b'):=by
  cases c
  · exact h'
  · exact h
theorem Le.req {α:Type} {c:Bool} {a b:Option α} (h:Le a b):Le (req c a) (req c b):=by
  cases c
  · exact Le.refl _
  · exact h
theorem Le.gopt {α:Type} {c:Bool} {d:α} {a b:Option α} (h:Le a b):Le (gopt c d a) (gopt c d b):=by
  cases c
  · exact Le.refl _
  · exact h
theorem Le.map {α β:Type} {f:α→β} {a b:Option α} (h:Le a b):Le (Option.map f a) (Option.map f b):=fun r hr=>by
  obtain⟨x,h1,h2⟩:=Option.map_eq_some_iff.1 hr;rw[h x h1,←h2];rfl
theorem Le.iter {T α:Type} {f g:T→Option (T ⊕ α)} (h:∀x,Le (f x) (g x)) (n:Nat) (x:T):Le (iterN f n x) (iterW g x):=by
  have key:∀n x,Le (iterN f n x) (iterN g n x):=by
    intro n
    induction n with
    | zero=>intro x;exact Le.refl _
    | succ n ih =>
      intro x r hr;simp only[iterN] at hr ⊢
      match hf:f x with
      | none=>rw[hf] at hr;cases hr
      | some (.inl y)=>rw[hf] at hr;rw[h x _ hf];exact ih y r hr
      | some (.inr q)=>rw[hf] at hr;rw[h x _ hf];exact hr
  exact fun r hr=>qmE (key n x r hr)
def Mono {T α:Type} (G:(T→Option α)→T→Option α):Prop:=∀φ ψ,(∀x,Le (φ x) (ψ x))→∀x,Le (G φ x) (G ψ x)
theorem Le.fix {T α:Type} {F G:(T→Option α)→T→Option α} (h:∀φ ψ,(∀x,Le (φ x) (ψ x))→∀x,Le (F φ x) (G ψ x)) (hG:Mono G) (n:Nat) (x:T):Le (fixN F n x) (fixW G x):=by
  have key:∀n x,Le (fixN F n x) (fixN G n x):=by
    intro n
    induction n with
    | zero=>intro x;exact Le.refl _
    | succ n ih=>intro x;exact h _ _ ih x
  have up:∀n x,Le (fixN G n x) (fixN G (n+1) x):=by
    intro n
    induction n with
    | zero=>intro x r hr;cases hr
    | succ n ih=>intro x;exact hG _ _ ih x
  have mono:∀k n x,Le (fixN G n x) (fixN G (n+k) x):=by
    intro k
    induction k with
    | zero=>intro n x;exact Le.refl _
    | succ k ih=>intro n x r hr;exact up _ x r (ih n x r hr)
  intro r hr;have h1:=key n x r hr;have hx:∃n,(fixN G n x).isSome=true:=⟨n,by rw[h1];rfl⟩;unfold fixW;rw[dif_pos hx];obtain⟨q,hq⟩:=Option.isSome_iff_exists.1 (Classical.choose_spec hx);rw[hq];rcases Nat.le_total n (Classical.choose hx) with hl | hl
  · have:=mono (Classical.choose hx-n) n x r h1;rw[show n+(Classical.choose hx-n)=Classical.choose hx by omega,hq] at this;exact this
  · have:=mono (n-Classical.choose hx) (Classical.choose hx) x q hq;rw[show Classical.choose hx+(n-Classical.choose hx)=n by omega,h1] at this;exact this.symm
end Go.Den
namespace Go.Den
open Go.Eng Go.Proofs Go.Shelf Go.RowKit
set_option linter.unusedVariables false
set_option linter.unusedSectionVars false
set_option linter.unusedSimpArgs false
variable [CT : Ctx]
variable {P : Program} {ρ : Ren}

theorem ck_of (L:Lays.n240 P ρ) (X:Builder.X72 P ρ):CkOK P (ρ.f 240) (ρ.t 72):=by
  intro w b p v hheap hp;rcases hp with rfl | rfl
  · refine(Any.Builder_copyCheck_fresh L X b w (by simp[World.cell?,hheap]) (by simp[World.shape?,hheap]) (by simp[World.frozen?,hheap])).mono ?_
    rintro e w' ⟨rfl,rfl⟩
    have hs:=setCell_eq_setRow w b 0 #[.pointer none,v] (ρ.t 72) (0,0) (.pointer (some ⟨b,0,none⟩)) hheap;rw[hs];exact⟨rfl,qen,setRow_heap w b _ _ (ρ.t 72) (0,0) hheap⟩
  · refine(Any.Builder_copyCheck_used L X b w (by simp[World.cell?,hheap])).mono ?_
    rintro e w' ⟨rfl,rfl⟩
    exact⟨rfl,Chg.refl _ _,hheap⟩
theorem qrB (w:World):∀(l:List Int) (a:Addr) (acc:ByteArray),(∀(j:Nat) x,l[j]?=some x→w.cell? (a.add j)=some (.int .u8 x))→(loadBytes a acc l.length).run P w = .ok (l.foldl (fun r n=>r.push (UInt8.ofNat n.toNat)) acc) w
  | [],a,acc,_=>by simp[loadBytes]
  | x::l,a,acc,h=>by
    have h0:w.cell? a=some (.int .u8 x):=by
      have:=h 0 x rfl;simpa[Addr.add] using this
    have ih:=qrB w l (a.add 1) (acc.push (UInt8.ofNat x.toNat)) (fun j y hy=>by
      have:=h (j+1) y (by simpa using hy);rw[qp4,Nat.add_comm]
      exact this)
    simp only[List.length_cons,loadBytes,Sem.run_bind,run_load,h0,Result.andThen];exact ih
theorem quQ (w:World) (pt it ty e:TypeId) (hp:P.underlying pt=some (.pointer e)) (hc:P.cellsOf e=1) (g cells:Nat) (hsh:w.shape? g=some (e,cells)) (l:List Int) (h0:l≠[]) (hn:l.length≤cells) (h63:l.length≤9223372036854775807)
    (hcell:∀(j:Nat) x,l[j]?=some x→w.cell? ((⟨g,0,none⟩:Addr).add j)=some (.int .u8 x)) :
    (Builtin.unsafeString_ #[pt,it] ty #[.pointer (some ⟨g,0,none⟩),.int .i64 l.length]).run P w = .ok (Value.string (strOf l)) (w.freeze ⟨g,0,none⟩ l.length):=by
  have hl:l.length≠0:=by simpa using h0
  have hlb:=qrB (P:=P) w l ⟨g,0,none⟩ .empty hcell;have hlies:=Lib.liesAt_bytes (P:=P) hc (cells / P.cellsOf e) l.length (by rw[hc];simpa using hn)
  have h63':¬(9223372036854775807:Int)<(l.length:Int):=by omega
  have hmax:IntKind.i64.max=9223372036854775807:=rfl
  have hneg:¬(l.length:Int)<0:=by omega
  have hstr:strOf l=l.foldl (fun r n=>r.push (UInt8.ofNat n.toNat)) ByteArray.empty:=rfl;rw[hstr];refine(congrArg (fun s=>Sem.run P s w) (show Builtin.unsafeString_ #[pt,it] ty #[.pointer (some ⟨g,0,none⟩),.int .i64 l.length]=(Go.asInt (.int .i64 l.length) >>= _) from rfl)).trans ?_;simp[Go.asInt,asIntOf,hmax,h63',hneg,hl,variablesAt,hsh,Go.elemOf,run_underlying hp,hlies,hlb]
theorem quS (w:World) (g n:Nat):Chg [g] w (w.drew.freeze ⟨g,0,none⟩ n):=by
  by_cases h0:n=0
  · subst h0;exact(Chg.drewN w 1).mono (by simp)
  · unfold World.freeze;rw[if_neg h0];refine⟨rfl,rfl,rfl,by simp,fun k hk hn=>?_,fun _=>Nat.le_succ _⟩;have hne:¬g=k:=fun e=>hn (by simp[e]);simp[Array.getElem?_modify,hne];rfl
set_option maxHeartbeats 2000000 in
set_option maxRecDepth 100000 in
theorem bs_row (L:Lays.n169 P ρ) (X:Builder.Extra P ρ) (w:World) (b g n cap:Nat) (p r:Value) (W:World) (hch:Chg [g] w W) (hbk:w.heap[b]?=some (.cells #[p,.slice (some ⟨g,0,none⟩) n cap] (ρ.t 72) (0,0))) (hcap:cap≠0)
    (hUS:(Builtin.unsafeString_ #[(ρ.t 127),(ρ.t 3)] (ρ.t 9) #[.pointer (some ⟨g,0,none⟩),.int .i64 n]).run P w.drew = .ok r W) :
    Calls P (ρ.f 169) #[.pointer (some ⟨b,0,none⟩)] w fun e w'=>e = .returned r∧Chg [g] w w':=by
  have c1:w.drew.cell? ⟨b,1,none⟩=some (.slice (some ⟨g,0,none⟩) n cap):=by
    have:w.drew.heap[b]?=some (.cells #[p,.slice (some ⟨g,0,none⟩) n cap] (ρ.t 72) (0,0)):=hbk;rw[Lib.cell_of_heap this];rfl
  have hSD:(Builtin.unsafeSliceData_ #[(ρ.t 37)] (ρ.t 127) #[.slice (some ⟨g,0,none⟩) n cap]).run P w.drew = .ok (.pointer (some ⟨g,0,none⟩)) w.drew:=Lib.run_unsafeSliceData_row _ _ _ _ _ _ hcap;have mixed:=L.mixed;have t72:=L.t72;have a72:=L.a72;have z72:=L.z72;have v72:=L.v72;have u72:=run_underlying L.t72;have t70:=L.t70;have a70:=L.a70;have z70:=L.z70;have v70:=L.v70;have u70:=run_underlying L.t70;have t37:=L.t37;have a37:=L.a37;have z37:=L.z37;have v37:=L.v37;have u37:=run_underlying L.t37;have t127:=L.t127;have a127:=L.a127;have z127:=L.z127;have v127:=L.v127;have u127:=run_underlying L.t127;have t3:=L.t3;have a3:=L.a3;have z3:=L.z3;have v3:=L.v3;have u3:=run_underlying L.t3;have t9:=L.t9;have a9:=L.a9;have z9:=L.z9;have v9:=L.v9;have u9:=run_underlying L.t9
  have t5:=X.t5;have a5:=X.a5;have z5:=X.z5;have v5:=X.v5;have u5:=run_underlying X.t5;clear hcap
  go_enter L.f169,Body.n169_ntmps ρ
  go_wp2
  go_region_o
  all_goals (go_wp2;go_ret;exact⟨rfl,hch⟩)
set_option maxHeartbeats 2000000 in
set_option maxRecDepth 100000 in
theorem bs_nil (L:Lays.n169 P ρ) (X:Builder.Extra P ρ) (w:World) (b:Nat) (p:Value) (hbk:w.heap[b]?=some (.cells #[p,.slice none 0 0] (ρ.t 72) (0,0))) :
    Calls P (ρ.f 169) #[.pointer (some ⟨b,0,none⟩)] w fun e w'=>e = .returned (.string .empty)∧Chg [] w w':=by
  have hUS:=Any.unsafeString_none L X;have c1:w.drew.cell? ⟨b,1,none⟩=some (.slice none 0 0):=by
    have:w.drew.heap[b]?=some (.cells #[p,.slice none 0 0] (ρ.t 72) (0,0)):=hbk;rw[Lib.cell_of_heap this];rfl
  have hSD:(Builtin.unsafeSliceData_ #[(ρ.t 37)] (ρ.t 127) #[.slice none 0 0]).run P w.drew = .ok (.pointer none) w.drew:=rfl;have hch:Chg [] w w.drew:=Chg.drewN w 1;have mixed:=L.mixed;have t72:=L.t72;have a72:=L.a72;have z72:=L.z72;have v72:=L.v72;have u72:=run_underlying L.t72;have t70:=L.t70;have a70:=L.a70;have z70:=L.z70;have v70:=L.v70;have u70:=run_underlying L.t70;have t37:=L.t37;have a37:=L.a37;have z37:=L.z37;have v37:=L.v37;have u37:=run_underlying L.t37;have t127:=L.t127;have a127:=L.a127;have z127:=L.z127;have v127:=L.v127;have u127:=run_underlying L.t127;have t3:=L.t3;have a3:=L.a3;have z3:=L.z3;have v3:=L.v3;have u3:=run_underlying L.t3;have t9:=L.t9;have a9:=L.a9;have z9:=L.z9;have v9:=L.v9;have u9:=run_underlying L.t9
  have t5:=X.t5;have a5:=X.a5;have z5:=X.z5;have v5:=X.v5;have u5:=run_underlying X.t5
  go_enter L.f169,Body.n169_ntmps ρ
  go_wp2
  go_region_o
  all_goals (go_wp2;go_ret;exact⟨rfl,hch⟩)
theorem bs_of (L:Lays.n169 P ρ) (X:Builder.Extra P ρ):BsOK P (ρ.f 169) (ρ.t 72) (ρ.t 5):=by
  intro w b p v M xs hheap hne hown hb;rcases hown with ⟨rfl,⟨ao,rfl⟩,h0,h4⟩ | ⟨g,cap,cur,rfl,rfl,hh,h4,h5,h6,h7⟩
  · have hx:xs=[]:=List.length_eq_zero_iff.1 h0;subst hx;have:ao=none:=by
      rcases hne with h | ⟨a,n,c,h,hc⟩
      · simp at h;exact h
      · simp at h;exact absurd h.2.2.symm hc
    subst this;exact bs_nil L X w b p hheap
  · by_cases hx:xs=[]
    · subst hx;have hcap:cap≠0:=by
        rcases hne with h | ⟨a,n,c,h,hc⟩
        · simp at h
        · simp at h;rw[h.2.2];exact hc
      refine bs_row L X w b g 0 cap p (.string .empty) w.drew ((Chg.drewN w 1).mono (by simp)) hheap hcap ?_;exact Any.unsafeString_none L X w.drew (some ⟨g,0,none⟩)
    · have hpos:0<xs.length:=List.length_pos_iff.2 hx;rw[Nat.mul_one] at h6 h7;obtain⟨fz,hg,_⟩:=hh;refine bs_row L X w b g xs.length cap p (.string (strOf xs)) (w.drew.freeze ⟨g,0,none⟩ xs.length) (quS w g _) hheap (by omega) ?_;refine quQ w.drew (ρ.t 127) (ρ.t 3) (ρ.t 9) (ρ.t 5) L.t127 X.cellsByte g cur.size (by have hg':w.drew.heap[g]?=some (.cells cur (ρ.t 5) fz):=hg;simp[World.shape?,hg']) xs hx (by omega) (by unfold maxLen at h5;omega) ?_;intro j x hj;have hlt:j<xs.length:=(List.getElem?_eq_some_iff.1 hj).1;rw[adr_add,Nat.zero_add];have hg':w.drew.heap[g]?=some (.cells cur (ρ.t 5) fz):=hg;simp only[World.cell?,hg'];have:cur.toList[j]?=some (.int .u8 x):=by
        have h8:(cur.toList.take xs.length)[j]?=(xs.map (Value.int .u8))[j]?:=by rw[h7]
        rw[List.getElem?_take,if_pos hlt,List.getElem?_map,hj] at h8;exact h8
      simpa using this
end Go.Den
namespace Go.Den
set_option linter.unusedVariables false
def rngB:(τ:Ty)→D τ→Bool
  | .int k,(n:Int)=>decide (k.min≤n)&&decide (n≤k.max)
  | .bool,_=>true
  | .str,(s:ByteArray)=>Nat.ble s.size maxLen
  | .sl e,(xs:List (D e))=>Nat.ble xs.length maxLen&&xs.all (rngB e)
  | .osl _ e,(xs:List (D e))=>Nat.ble xs.length maxLen&&xs.all (rngB e)
  | .obx e,x=>rngB e x
  | .onl _ _,_=>true
  | .err,_=>true
  | .bld _ _,_=>true
  | .nil,_=>true
  | .ref,_=>true
  | .ifc _ _,_=>true
  | .omp _ _,_=>true
  | .st f r,x=>rngB f x.1&&rngB r x.2
theorem qjl:∀(τ:Ty) (x:D τ),rngB τ x=true→Rng τ x
  | .int k,n,h=>by
    simp only[rngB,Bool.and_eq_true,decide_eq_true_eq] at h
    cases k<;>exact h
  | .bool,_,_=>trivial
  | .str,s,h=>Nat.le_of_ble_eq_true h
  | .sl e,xs,h=>by
    simp only[rngB,Bool.and_eq_true] at h;exact⟨Nat.le_of_ble_eq_true h.1,fun x hx=>qjl e x (List.all_eq_true.1 h.2 x hx)⟩
  | .osl _ e,xs,h=>by
    simp only[rngB,Bool.and_eq_true] at h;exact⟨Nat.le_of_ble_eq_true h.1,fun x hx=>qjl e x (List.all_eq_true.1 h.2 x hx)⟩
  | .obx e,x,h=>qjl e x h
  | .onl _ _,_,_=>trivial
  | .err,_,_=>trivial
  | .bld _ _,_,_=>trivial
  | .nil,_,_=>trivial
  | .ref,_,_=>trivial
  | .ifc _ _,_,_=>trivial
  | .omp _ _,_,_=>trivial
  | .st f r,x,h=>by
    simp only[rngB,Bool.and_eq_true] at h;exact⟨qjl f x.1 h.1,qjl r x.2 h.2⟩
set_option linter.unusedSimpArgs false

def foldN {A:Type} (g:Nat→A→A):Nat→A→A
  | 0,a=>a
  | n+1,a=>g n (foldN g n a)
theorem qm0 {A R:Type} (n:Nat) (f:((A×Int×Unit)×Unit)→Option (((A×Int×Unit)×Unit) ⊕ R)) (g:Nat→A→A) (fin:A→R) (I:Nat→A→Prop) (a0:A) (h0:I 0 a0)
    (hs:∀i,i<n→∀a,I i a→f ((a,(i:Int),()),())=some (.inl ((g i a,((i:Int)+1),()),()))∧I (i+1) (g i a)) (he:∀a,I n a→f ((a,(n:Int),()),())=some (.inr (fin a))) :
    iterW f ((a0,(0:Int),()),())=some (fin (foldN g n a0)):=by
  have hI:∀i,i≤n→I i (foldN g i a0):=fun i=>by
    induction i with
    | zero=>intro _;exact h0
    | succ i ih=>intro hi;exact(hs i (by omega) _ (ih (by omega))).2
  have:=qbD (f:=f) n (fun i=>((foldN g i a0,(i:Int),()),())) (fin (foldN g n a0)) (fun i hi=>by
    rw[(hs i hi _ (hI i (by omega))).1]
    simp[foldN]) (he _ (hI n (Nat.le_refl _)))
  exact this
theorem qq7 {A:Type} (F:Nat→List A):∀(n:Nat) (a:List A),foldN (fun i a=>a++F i) n a=a++(List.range n).flatMap F
  | 0,a=>by simp[foldN]
  | n+1,a=>by rw[foldN,qq7 F n,List.range_succ];simp
theorem qh3 {A R:Type} (n B:Nat) (f:(((List A)×Int×Unit)×Unit)→Option ((((List A)×Int×Unit)×Unit) ⊕ R)) (F:Nat→List A) (fin:List A→R) (a0:List A) (hF:∀i,i<n→(F i).length≤B)
    (hs:∀i,i<n→∀a:List A,a.length≤a0.length+i*B→f ((a,(i:Int),()),())=some (.inl ((a++F i,((i:Int)+1),()),()))) (he:∀a,f ((a,(n:Int),()),())=some (.inr (fin a))) :
    iterW f ((a0,(0:Int),()),())=some (fin (a0++(List.range n).flatMap F)):=by
  rw[←qq7];refine qm0 n f (fun i a=>a++F i) fin (fun i a=>a.length≤a0.length+i*B) a0 (by simp) (fun i hi a ha=>⟨hs i hi a ha,?_⟩) (fun a _=>he a);have:=hF i hi;rw[List.length_append,Nat.add_mul];omega
theorem qbI {A C:Type} (F:C→List A) (B:Nat):∀l:List C,(∀x∈l,(F x).length≤B)→(l.flatMap F).length≤l.length*B
  | [],_=>by simp
  | x::l,h=>by
    have:=qbI F B l (fun y hy=>h y (List.mem_cons_of_mem _ hy));have:=h x List.mem_cons_self;rw[List.flatMap_cons,List.length_append,List.length_cons,Nat.add_mul];omega
theorem qrN {A:Type} (xs:List A) (q:A→Bool) (b0:Bool):∀n,n≤xs.length→foldN (fun i b=>b&&((xs[i]?).map q).getD true) n b0=(b0&&(xs.take n).all q)
  | 0,_=>by simp[foldN]
  | n+1,h=>by
    have hn:n<xs.length:=by omega
    rw[foldN,qrN xs q b0 n (by omega),List.getElem?_eq_getElem hn,List.take_succ_eq_append_getElem hn,List.all_append];simp[Bool.and_assoc]
theorem iter_all {A R:Type} (xs:List A) (q:A→Bool) (f:((Bool×Int×Unit)×Unit)→Option (((Bool×Int×Unit)×Unit) ⊕ R)) (fin:Bool→R) (b0:Bool)
    (hs:∀(i:Nat) (hi:i<xs.length) (b:Bool),f ((b,(i:Int),()),())=some (.inl ((b&&q xs[i],((i:Int)+1),()),()))) (he:∀b,f ((b,(xs.length:Int),()),())=some (.inr (fin b))) :
    iterW f ((b0,(0:Int),()),())=some (fin (b0&&xs.all q)):=by
  have:=qrN xs q b0 xs.length (Nat.le_refl _);rw[List.take_length] at this;rw[←this];refine qm0 xs.length f _ fin (fun _ _=>True) b0 trivial (fun i hi b _=>⟨?_,trivial⟩) (fun b _=>he b);rw[hs i hi b,List.getElem?_eq_getElem hi];rfl
theorem qlm {A R:Type} (xs:List A) (q:A→Bool) (f:((Int×Int×Unit)×Unit)→Option (((Int×Int×Unit)×Unit) ⊕ R)) (fin:Int→R)
    (hs:∀(i:Nat) (hi:i<xs.length) (c:Int),0≤c→c≤i→f ((c,(i:Int),()),())=some (.inl (((bif q xs[i] then c+1 else c),((i:Int)+1),()),()))) (he:∀c,f ((c,(xs.length:Int),()),())=some (.inr (fin c))) :
    iterW f (((0:Int),(0:Int),()),())=some (fin ((xs.countP q:Nat):Int)):=by
  have hf:∀n,n≤xs.length→foldN (fun i (c:Int)=>bif ((xs[i]?).map q).getD false then c+1 else c) n 0=(((xs.take n).countP q:Nat):Int):=fun n=>by
    induction n with
    | zero=>intro _;simp[foldN]
    | succ n ih =>
      intro h
      have hn:n<xs.length:=by omega
      rw[foldN,ih (by omega),List.getElem?_eq_getElem hn,List.take_succ_eq_append_getElem hn,List.countP_append];simp only[Option.map_some,Option.getD_some,List.countP_cons,List.countP_nil]
      cases q xs[n]<;>simp
  have:=hf xs.length (Nat.le_refl _);rw[List.take_length] at this;rw[←this];refine qm0 xs.length f _ fin (fun i c=>0≤c∧c≤i) 0 (by simp) (fun i hi c hc=>⟨?_,?_⟩) (fun b _=>he b)
  · rw[hs i hi c hc.1 hc.2,List.getElem?_eq_getElem hi];rfl
  · cases ((xs[i]?).map q).getD false<;>simp<;>omega
theorem Le.iterW {T α:Type} {f g:T→Option (T ⊕ α)} (h:∀x,Le (f x) (g x)) (x:T):Le (Go.Den.iterW f x) (Go.Den.iterW g x):=fun r hr=>by
  obtain⟨n,hn⟩:=qnr hr;exact Le.iter h n x r hn
theorem Le.agreeW {α:Type} {a b a' b':Option α} (h:Le a a') (h':Le b b'):Le (Go.Den.agree a b) (Go.Den.agree a' b'):=fun r hr=>by
  unfold Go.Den.agree at hr ⊢;split at hr
  · rename_i e;rw[h r hr,h' r (e▸hr),if_pos rfl]
  · cases hr
theorem fixW_ind {T α:Type} {G:(T→Option α)→T→Option α} (hG:Mono G) (I:T→Prop) (μ:T→Nat) (s:T→α)
    (h:∀φ x,I x→(∀y,I y→μ y<μ x→φ y=some (s y))→G φ x=some (s x)):∀x,I x→fixW G x=some (s x):=by
  have a2:∀n x,I x→μ x<n→fixN G n x=some (s x):=by
    intro n
    induction n with
    | zero=>intro x _ hl;omega
    | succ n ih=>intro x hx hl;exact h _ x hx fun y hy hm=>ih y hy (by omega)
  intro x hx;exact Le.fix (fun φ ψ hs y=>hG φ ψ hs y) hG (μ x+1) x _ (a2 _ x hx (Nat.lt_succ_self _))
end Go.Den
namespace Go.Proofs.YthidcmjpbokeeaaGreatDoor
open Go.Den
set_option linter.unusedVariables false
set_option maxRecDepth 100000
theorem qfK (self self':Zv1→Option Zv5) (hself:∀x,Le (self x) (self' x)) (r3:List Int) (p:Zv63×Zv42×Int×Int×Unit) (x5:Zv45×Zv11):Le (qF r3 p self x5) (qF r3 p self' x5):=by
  unfold qF
  repeat (first | exact Le.refl _ | assumption | apply hself | apply Le.cond | apply Le.req | apply Le.gopt | apply Le.map | apply Le.agreeW | refine Le.iterW (fun _=>?_) _ | refine Le.bind ?_ (Le.elim (fun _=>?_) (fun _=>?_)) | refine Le.bind ?_ (fun _=>?_))
theorem qcV:Mono qI:=by
  intro self self' hself x
  unfold qI qca
  repeat (first | exact Le.refl _ | assumption | apply qfK | apply hself | apply Le.cond | apply Le.req | apply Le.gopt | apply Le.map | apply Le.agreeW | refine Le.iterW (fun _=>?_) _ | refine Le.bind ?_ (Le.elim (fun _=>?_) (fun _=>?_)) | refine Le.bind ?_ (fun _=>?_))
theorem qia (self self':Zv12→Option Zv62) (hself:∀x,Le (self x) (self' x)) (l:List Zv33) (node:Int) (r:ByteArray×Int×Int×Zv22×Zv63×Bool×Bool×Zv39×Int×Int×Int×Unit) (x2:Zv50×(Unit)):Le (qp l node r self x2) (qp l node r self' x2):=by
  unfold qp
  repeat (first | exact Le.refl _ | assumption | apply hself | apply Le.cond | apply Le.req | apply Le.gopt | apply Le.map | apply Le.agreeW | refine Le.iterW (fun _=>?_) _ | refine Le.bind ?_ (Le.elim (fun _=>?_) (fun _=>?_)) | refine Le.bind ?_ (fun _=>?_))
theorem qfY:Mono qal:=by
  intro self self' hself x
  unfold qal qfH
  repeat (first | exact Le.refl _ | assumption | apply qia | apply hself | apply Le.cond | apply Le.req | apply Le.gopt | apply Le.map | apply Le.agreeW | refine Le.iterW (fun _=>?_) _ | refine Le.bind ?_ (Le.elim (fun _=>?_) (fun _=>?_)) | refine Le.bind ?_ (fun _=>?_))
theorem qfE (self self':(Zv7×Unit×(List (Zv36×(Option (List Nat))))×Zv23×Unit)→Option (Zv7×(List (Zv36×(Option (List Nat))))×(List Nat))) (hself:∀x,Le (self x) (self' x)) (p:Zv63×Zv42×Int×Int×Unit) (x10:((List Nat)×Unit)×(Zv10×(List (Zv36×(Option (List Nat))))×Unit)):Le (qG p self x10) (qG p self' x10):=by
  unfold qG
  repeat (first | exact Le.refl _ | assumption | apply hself | apply Le.cond | apply Le.req | apply Le.gopt | apply Le.map | apply Le.agreeW | refine Le.iterW (fun _=>?_) _ | refine Le.bind ?_ (Le.elim (fun _=>?_) (fun _=>?_)) | refine Le.bind ?_ (fun _=>?_))
theorem qcT:Mono qC:=by
  intro self self' hself x
  unfold qC qa8
  repeat (first | exact Le.refl _ | assumption | apply qfE | apply hself | apply Le.cond | apply Le.req | apply Le.gopt | apply Le.map | apply Le.agreeW | refine Le.iterW (fun _=>?_) _ | refine Le.bind ?_ (Le.elim (fun _=>?_) (fun _=>?_)) | refine Le.bind ?_ (fun _=>?_))
theorem qfS (self self':(Zv7×Unit×(List ((Zv55×ByteArray×(List Nat)×Unit)×(Option (List Nat))))×(List Nat)×Int×Unit)→Option (Zv7×(List ((Zv55×ByteArray×(List Nat)×Unit)×(Option (List Nat))))×Unit)) (hself:∀x,Le (self x) (self' x)) (l:List Nat) (parent:Int) (x1:Zv61×(Zv10×(List ((Zv55×ByteArray×(List Nat)×Unit)×(Option (List Nat))))×Unit)):Le (qD l parent self x1) (qD l parent self' x1):=by
  unfold qD
  repeat (first | exact Le.refl _ | assumption | apply hself | apply Le.cond | apply Le.req | apply Le.gopt | apply Le.map | apply Le.agreeW | refine Le.iterW (fun _=>?_) _ | refine Le.bind ?_ (Le.elim (fun _=>?_) (fun _=>?_)) | refine Le.bind ?_ (fun _=>?_))
theorem qdp:Mono qQ:=by
  intro self self' hself x
  unfold qQ qcJ
  repeat (first | exact Le.refl _ | assumption | apply qfS | apply hself | apply Le.cond | apply Le.req | apply Le.gopt | apply Le.map | apply Le.agreeW | refine Le.iterW (fun _=>?_) _ | refine Le.bind ?_ (Le.elim (fun _=>?_) (fun _=>?_)) | refine Le.bind ?_ (fun _=>?_))
set_option linter.unusedSimpArgs false

abbrev Way:=Int×Int×Int×Int×Unit
abbrev Piece:=Int×Int×Int×(List Way)×Unit
abbrev End:=Int×Int×Int×Bool×Unit
abbrev Rules:=ByteArray×Int×Int×(List Piece)×(List Int)×Bool×Bool×(List End)×Int×Int×Int×Unit
abbrev Rules.name (r:Rules):ByteArray:=r.1
abbrev Rules.width (r:Rules):Int:=r.2.1
abbrev Rules.height (r:Rules):Int:=r.2.2.1
abbrev Rules.pieces (r:Rules):List Piece:=r.2.2.2.1
abbrev Rules.start (r:Rules):List Int:=r.2.2.2.2.1
abbrev Rules.falls (r:Rules):Bool:=r.2.2.2.2.2.1
abbrev Rules.keeps (r:Rules):Bool:=r.2.2.2.2.2.2.1
abbrev Rules.ends (r:Rules):List End:=r.2.2.2.2.2.2.2.1
abbrev Rules.blocked (r:Rules):Int:=r.2.2.2.2.2.2.2.2.1
abbrev Rules.quiet (r:Rules):Int:=r.2.2.2.2.2.2.2.2.2.1
abbrev Rules.repeats (r:Rules):Int:=r.2.2.2.2.2.2.2.2.2.2.1
abbrev tyWay:Ty := .st (.int .i64) (.st (.int .i64) (.st (.int .i64) (.st (.int .i64) .nil)))
abbrev tyPiece:Ty := .st (.int .u8) (.st (.int .i64) (.st (.int .i64) (.st (.sl tyWay) .nil)))
abbrev tyEnd:Ty := .st (.int .i64) (.st (.int .i64) (.st (.int .i64) (.st .bool .nil)))
abbrev qR:Ty := .st .str (.st (.int .i64) (.st (.int .i64) (.st (.sl tyPiece) (.st (.sl (.int .i64)) (.st .bool (.st .bool (.st (.sl tyEnd) (.st (.int .i64) (.st (.int .i64) (.st (.int .i64) .nil))))))))))

def nz (x:Int):Option Int:=if x=0 then none else some x
def qau (f:Nat→Int) (n:Nat):Int:=scan (fun i=>nz (f i)) 0 0 n
theorem qbs {f:Nat→Int} {n:Nat} (h:qau f n=0):∀i,i<n→f i=0:=by
  have key:∀(k i:Nat),scan (fun i=>nz (f i)) 0 i k=0→∀j,i≤j→j<i+k→f j=0:=by
    intro k
    induction k with
    | zero=>intro i _ j h1 h2;omega
    | succ k ih =>
      intro i hs j h1 h2;unfold scan at hs;by_cases c:f i=0
      · simp only[nz,if_pos c] at hs;rcases Nat.eq_or_lt_of_le h1 with e | e
        · rw[←e];exact c
        · exact ih (i+1) hs j e (by omega)
      · simp only[nz,if_neg c] at hs;exact absurd hs c
  exact fun i hi=>key n 0 h i (Nat.zero_le _) (by omega)
theorem qq2 {γ:Type} (n:Nat) (f:((Int×Unit)×Unit)→Option (((Int×Unit)×Unit) ⊕ (γ ⊕ Int))) (err:Nat→Int) (u:γ) (z:Option Int)
    (h1:∀i,i<n→f (((i:Int),()),())=if err i=0 then some (.inl ((((i+1:Nat):Int),()),())) else some (.inr (.inr (err i)))) (h2:f (((n:Int),()),())=some (.inr (.inl u))) :
    Option.bind (iterW f ((0,()),())) (Sum.elim (fun _=>z) some)=if qau err n=0 then z else some (qau err n):=by
  have key:∀k i,i+k=n→Option.bind (iterW f (((i:Int),()),())) (Sum.elim (fun _=>z) some)=if scan (fun i=>nz (err i)) 0 i k=0 then z else some (scan (fun i=>nz (err i)) 0 i k):=by
    intro k
    induction k with
    | zero =>
      intro i hi
      have:i=n:=by omega
      subst this;rw[qg h2];rfl
    | succ k ih =>
      intro i hi;have hs:=h1 i (by omega);unfold scan;by_cases c:err i=0
      · rw[if_pos c] at hs;rw[qn hs,ih (i+1) (by omega)]
        have:nz (err i)=none:=by simp only[nz,if_pos c]
        rw[this]
      · rw[if_neg c] at hs;rw[qg hs]
        have:nz (err i)=some (err i):=by simp only[nz,if_neg c]
        simp only[this,if_neg c];rfl
  exact key n 0 (by omega)
def ch (s:ByteArray) (i:Nat):Nat:=((s[i]?).getD 0).toNat
theorem qtA (s:ByteArray) (i:Nat) (h:i<s.size):∃c:UInt8,strAt s (i:Int)=some c∧c.toNat=ch s i:=by
  refine⟨(s[i]?).getD 0,?_,rfl⟩
  have h0:decide ((0:Int)≤(i:Int))=true:=by simp
  have:s[i]?=some s[i]:=getElem?_pos s i h;unfold strAt;rw[h0,cond_true,Int.toNat_natCast,this];rfl
theorem ch_lt (s:ByteArray) (i:Nat):ch s i<256:=UInt8.toNat_lt _
def qdH (s:ByteArray) (i:Nat):Bool:=!(decide (65≤ch s i∧ch s i≤90)||decide (i≠0∧48≤ch s i∧ch s i≤57))
def qdT (s:ByteArray):Bool:=!((List.range s.size).any (qdH s))&&decide (1≤s.size∧s.size≤8)
theorem qni (s:ByteArray):(s.toList==(ByteArray.mk #[]).toList)=decide (s.size=0):=by
  rw[ByteArray.toList_eq,ByteArray.toList_eq];obtain⟨⟨l⟩⟩:=s;rw[Bool.eq_iff_iff,beq_iff_eq,decide_eq_true_eq];exact List.length_eq_zero_iff.symm
theorem qq5 (s:ByteArray) (hs:s.size≤9223372036854775807):qhb s=some (qdT s):=by
  unfold qhb qdT
  have hL:=qY (List.range s.size) (qdH s) (qfl s) (.inr false) (.inl ((),())) (fun i hi=>by
    have hi':i<s.size:=by simpa using hi
    obtain⟨c,h1,h2⟩:=qtA s i hi';have hlt:=ch_lt s i;unfold qfl
    have h3:(i:Int)<(s.size:Int):=by omega
    have hg:∀b,gopt b 0 (some c)=some (bif b then c else 0):=fun b=>by cases b<;>rfl
    simp only[h3,decide_true,cond_true,h1,Option.bind_some,hg,List.getElem_range,qe (n:=(i:Int)+1) (by omega) (by omega)]
    have hb:qdH s i = !(decide (65≤c.toNat∧c.toNat≤90)||decide (i≠0∧48≤c.toNat∧c.toNat≤57)):=by unfold qdH;rw[h2]
    rw[hb];generalize hn:c.toNat=n at *
    have e0:((i:Int)==0)=decide (i=0):=by rw[Bool.eq_iff_iff];simp
    rw[e0];by_cases c1:65≤n
    · have a1:decide ((n:Int)≥65)=true:=by simp only[decide_eq_true_eq];omega
      simp only[a1,cond_true,Bool.true_and,hn];by_cases c2:n≤90
      · have a2:decide ((n:Int)≤90)=true:=by simp only[decide_eq_true_eq];omega
        simp[a2,c1,c2]
      · have a2:decide ((n:Int)≤90)=false:=by simp only[decide_eq_false_iff_not];omega
        have a3:decide ((n:Int)<48)=false:=by simp only[decide_eq_false_iff_not];omega
        have a4:decide ((n:Int)>57)=true:=by simp only[decide_eq_true_eq];omega
        have a5:¬n≤57:=by omega
        by_cases c3:i=0
        · simp[a2,c1,c2,c3]
        · simp[a2,a3,a4,a5,c1,c2,c3,hn]
    · have a1:decide ((n:Int)≥65)=false:=by simp only[decide_eq_false_iff_not];omega
      by_cases c3:i=0
      · simp[a1,c1,c3]
      · by_cases c4:48≤n
        · have a3:decide ((n:Int)<48)=false:=by simp only[decide_eq_false_iff_not];omega
          by_cases c5:n≤57
          · have a4:decide ((n:Int)>57)=false:=by simp only[decide_eq_false_iff_not];omega
            simp[a1,a3,a4,c1,c3,c4,c5,hn]
          · have a4:decide ((n:Int)>57)=true:=by simp only[decide_eq_true_eq];omega
            simp[a1,a3,a4,c1,c3,c4,c5,hn]
        · have a3:decide ((n:Int)<48)=true:=by simp only[decide_eq_true_eq];omega
          simp[a1,a3,c1,c3,c4,hn]) (by unfold qfl;simp)
  rw[hL,qni]
  cases (List.range s.size).any (qdH s) with
  | true=>rfl
  | false =>
    simp only[cond_false,Option.bind_some,Sum.elim_inl,Bool.not_false,Bool.true_and,Option.some.injEq];rw[Bool.eq_iff_iff];simp only[Bool.and_eq_true,Bool.not_eq_true',decide_eq_false_iff_not,decide_eq_true_eq];omega
def qoZ (w:Way):Bool:=((((!(qb w.1 (-7:Int) (7:Int)))||(!(qb w.2.1 (-7:Int) (7:Int))))||((w.1==(0:Int))&&(w.2.1==(0:Int))))||(!(qb w.2.2.1 (1:Int) (7:Int))))||(!(qb w.2.2.2.1 (0:Int) (2:Int)))
def pErr (l:List Piece) (i:Nat):Int:=match l[i]? with
  | none=>0
  | some p=>bif decide (p.1<65)||decide (p.1>90) then 6 else bif (l.take i).any (fun q=>q.1==p.1) then 7
    else bif (!(qb p.2.1 0 64))||(!(qb p.2.2.1 0 ((l.length:Nat):Int))) then 4 else bif decide (((p.2.2.2.1.length:Nat):Int)>16) then 2 else bif p.2.2.2.1.any qoZ then 4 else 0
theorem take_len {α:Type} (l:List α) {i:Nat} (h:i≤l.length):((l.take i).drop 0).length=i:=by simp;omega
theorem qsz (r:Rules):qgA r=some (if r.pieces.length=0 then 8 else if 6<r.pieces.length then 2 else qau (pErr r.pieces) r.pieces.length):=by
  unfold qgA;by_cases c0:r.pieces.length=0
  · have:(((r.pieces.length:Nat):Int)==0)=true:=beq_t (by omega);rw[this,if_pos c0];rfl
  · have:(((r.pieces.length:Nat):Int)==0)=false:=beq_f (by omega);rw[this,if_neg c0,cond_false];by_cases c1:6<r.pieces.length
    · have:decide (((r.pieces.length:Nat):Int)>6)=true:=by simp only[decide_eq_true_eq];omega
      rw[this,if_pos c1];rfl
    · have:decide (((r.pieces.length:Nat):Int)>6)=false:=by simp only[decide_eq_false_iff_not];omega
      rw[this,if_neg c1,cond_false];rw[qq2 r.pieces.length (qde r) (pErr r.pieces) ((),()) (some 0) (fun i hi=>?_) (by unfold qde;simp)]
      · split
        · rename_i h;rw[h]
        · rfl
      · unfold qde
        have h1:(i:Int)<(r.pieces.length:Int):=by omega
        have hg:r.pieces[i]?=some r.pieces[i]:=List.getElem?_eq_getElem hi
        have hb:qj 0 (i:Int) r.pieces.length=true:=by unfold qj;simp only[Bool.and_eq_true,decide_eq_true_eq];omega
        simp only[h1,decide_true,cond_true,at?_eq r.pieces (i:Int) (by omega) h1,Option.bind_some,Int.toNat_natCast,hb,qa,qe (n:=(i:Int)+1) (by omega) (by omega)];unfold pErr;rw[hg];generalize hp:r.pieces[i]=p;simp only
        cases hA:(decide (p.1<65)||decide (p.1>90)) with
        | true=>simp
        | false =>
          have hL2:=qY ((r.pieces.take i).drop 0) (fun q=>q.1==p.1) (qdk r (((i:Int),()),()) p) (.inr (.inr (.inr (.inr (7:Int))))) (.inl ((),())) (fun j hj=>by
            have hj':j<i:=by rw[take_len _ (by omega)] at hj;exact hj
            unfold qdk
            have h2:(j:Int)<((((r.pieces.take i).drop 0).length:Nat):Int):=by omega
            have h3:(j:Int)≥0:=by omega
            simp only[Int.toNat_natCast,h2,decide_true,cond_true,at?_eq ((r.pieces.take i).drop 0) (j:Int) (by omega) h2,Option.bind_some,h3,qe (n:=(j:Int)+1) (by omega) (by omega)]
            rfl) (by unfold qdk;simp)
          rw[hL2];simp only[List.drop_zero,cond_false,Option.bind_some]
          cases hB:(r.pieces.take i).any (fun q=>q.1==p.1) with
          | true=>simp
          | false =>
            simp only[cond_false,Sum.elim_inl]
            cases hC:((!(qb p.2.1 0 64))||(!(qb p.2.2.1 0 ((r.pieces.length:Nat):Int)))) with
            | true=>simp
            | false =>
              simp only[cond_false];by_cases cD:((p.2.2.2.1.length:Nat):Int)>16
              · simp[cD]
              · have hL4:=qY p.2.2.2.1 qoZ (qdb p) (.inr (.inr (.inr (.inr (4:Int))))) (.inl ((),())) (fun j hj=>by
                  unfold qdb
                  have h2:(j:Int)<((p.2.2.2.1.length:Nat):Int):=by omega
                  simp only[h2,decide_true,cond_true,at?_eq p.2.2.2.1 (j:Int) (by omega) h2,Option.bind_some,Int.toNat_natCast,qe (n:=(j:Int)+1) (by omega) (by omega)]
                  rfl) (by unfold qdb;simp)
                simp only[cD,decide_false,cond_false,hL4,Option.bind_some]
                cases p.2.2.2.1.any qoZ<;>simp
def sErr (r:Rules) (i:Nat):Int:=bif qb (r.start.getD i 0) 0 (2*((r.pieces.length:Nat):Int)) then 0 else 4
def eErr (r:Rules) (i:Nat):Int:=match r.ends[i]? with
  | none=>0
  | some x=>bif !(qb x.1 0 2) then 1 else
    bif (!(bif x.1==1 then x.2.2.1==0 else qb x.2.2.1 1 64))||(!(bif x.1==0 then x.2.1==0 else qb x.2.1 0 (((r.pieces.length:Nat):Int)-1))) then 4 else 0
def qtd (r:Rules):Int:=bif (((!(qb r.blocked (0:Int) (2:Int)))||(!(qb r.quiet (0:Int) (200:Int))))||((r.repeats !=(0:Int))&&(!(qb r.repeats (2:Int) (5:Int))))) then 4 else 0
def qlh (r:Rules):Int:=if 6<r.ends.length then 2 else qau (eErr r) r.ends.length
def qu (r:Rules):Int :=
  if qdT r.name=false then 6 else
  if ¬((1≤r.width∧r.width≤8)∧1≤r.height∧r.height≤8) then 4 else
  if r.pieces.length=0 then 8 else if 6<r.pieces.length then 2 else
  if qau (pErr r.pieces) r.pieces.length≠0 then qau (pErr r.pieces) r.pieces.length else
  if ((r.start.length:Nat):Int)≠r.width*r.height then 3 else
  if qau (sErr r) r.start.length≠0 then qau (sErr r) r.start.length else
  if qlh r≠0 then qlh r else qtd r
theorem within_iff {n a b:Int}:qb n a b=true↔a≤n∧n≤b:=by unfold qb;simp
theorem qnx (r:Rules) (hl:r.pieces.length≤1000):qbJ r=some (qlh r):=by
  unfold qbJ qlh;by_cases c:6<r.ends.length
  · have:decide (((r.ends.length:Nat):Int)>6)=true:=by simp only[decide_eq_true_eq];omega
    rw[this,if_pos c];rfl
  · have:decide (((r.ends.length:Nat):Int)>6)=false:=by simp only[decide_eq_false_iff_not];omega
    rw[this,if_neg c,cond_false];rw[qq2 r.ends.length (qbn r) (eErr r) ((),()) (some 0) (fun i hi=>?_) (by unfold qbn;simp)]
    · split
      · rename_i h;rw[h]
      · rfl
    · unfold qbn eErr
      have h1:(i:Int)<(r.ends.length:Int):=by omega
      have hg:r.ends[i]?=some r.ends[i]:=List.getElem?_eq_getElem hi;rw[hg];simp only[h1,decide_true,cond_true,at?_eq r.ends (i:Int) (by omega) h1,Option.bind_some,Int.toNat_natCast,qe (n:=(i:Int)+1) (by omega) (by omega),qe (n:=((r.pieces.length:Nat):Int)-1) (by omega) (by omega)];generalize r.ends[i]=x;by_cases k0:x.1=0
      · have:qb x.1 0 2=true:=within_iff.2 (by omega);have k1:(x.1==1)=false:=beq_f (by omega);simp only[this,beq_t k0,k1,cond_true,cond_false,Option.bind_some,Sum.elim_inl,Bool.not_true]
        cases qb x.2.2.1 1 64<;>cases (x.2.1==0)<;>simp
      · by_cases k1:x.1=1
        · have:qb x.1 0 2=true:=within_iff.2 (by omega);simp only[this,beq_f k0,beq_t k1,cond_true,cond_false,Option.bind_some,Sum.elim_inl,Bool.not_true]
          cases (x.2.2.1==0)<;>cases qb x.2.1 0 (((r.pieces.length:Nat):Int)-1)<;>simp
        · by_cases k2:x.1=2
          · have:qb x.1 0 2=true:=within_iff.2 (by omega);simp only[this,beq_f k0,beq_f k1,beq_t k2,cond_true,cond_false,Option.bind_some,Sum.elim_inl,Bool.not_true]
            cases qb x.2.2.1 1 64<;>cases qb x.2.1 0 (((r.pieces.length:Nat):Int)-1)<;>simp
          · have:qb x.1 0 2=false:=by
              rw[Bool.eq_false_iff];intro h;have:=within_iff.1 h;omega
            simp only[this,beq_f k0,beq_f k1,beq_f k2,cond_true,cond_false,Option.bind_some,Sum.elim_inr,Bool.not_false];rfl
theorem qhS (r:Rules) (hr:Rng qR r):qcZ r=some (qu r):=by
  have hname:r.name.size≤9223372036854775807:=Nat.le_trans hr.1 (by decide);have hstart:r.start.length≤9223372036854775807:=Nat.le_trans hr.2.2.2.2.1.1 (by decide);have hP:r.2.2.2.1.length=r.pieces.length:=rfl;have hW:r.2.1*r.2.2.1=r.width*r.height:=rfl;have hE:r.2.2.2.2.2.2.2.1.length=r.ends.length:=rfl;unfold qcZ qu;rw[qq5 r.name hname,qsz r];simp only[Option.bind_some]
  cases qdT r.name with
  | false=>rfl
  | true =>
    simp only[Bool.not_true,cond_false,Bool.true_eq_false,if_false];by_cases cw:(1≤r.width∧r.width≤8)∧1≤r.height∧r.height≤8
    · have e1:((!(qb r.2.1 1 8))||(!(qb r.2.2.1 1 8)))=false:=by
        rw[within_iff.2 cw.1,within_iff.2 cw.2];rfl
      have e2:¬ ¬((1≤r.width∧r.width≤8)∧1≤r.height∧r.height≤8):=fun h=>h cw;simp only[e1,if_neg e2,cond_false];by_cases c0:r.pieces.length=0
      · simp only[if_pos c0];rfl
      · by_cases c6:6<r.pieces.length
        · simp only[if_neg c0,if_pos c6];rfl
        · simp only[if_neg c0,if_neg c6];by_cases cp:qau (pErr r.pieces) r.pieces.length=0
          · have hwh:w64 (r.2.1*r.2.2.1)=r.width*r.height:=by
              have h1:r.width*r.height≤8*8:=Int.mul_le_mul cw.1.2 cw.2.2 (by omega) (by omega);have h2:0≤r.width*r.height:=Int.mul_nonneg (by omega) (by omega);exact qe (by omega) (by omega)
            rw[cp,if_neg (fun h=>h rfl),hwh];simp only[bne_self_eq_false,cond_false];by_cases cs:((r.start.length:Nat):Int)=r.width*r.height
            · rw[bne_f cs,if_neg (fun h=>h cs),cond_false];rw[qq2 r.start.length (qd8 r) (sErr r) ((),()) _ (fun i hi=>?_) (by unfold qd8;simp)]
              · rw[qnx r (by omega)];by_cases cse:qau (sErr r) r.start.length=0
                · rw[if_pos cse,if_neg (fun h=>h cse)];simp only[Option.bind_some];by_cases ce:qlh r=0
                  · rw[ce,if_neg (fun h=>h rfl)];simp only[bne_self_eq_false,cond_false];unfold qtd;exact qbq _ _ _
                  · rw[if_pos ce,bne_t ce];rfl
                · rw[if_neg cse,if_pos cse]
              · unfold qd8 sErr
                have h1:(i:Int)<(r.start.length:Int):=by omega
                have h3:(i:Int)≥0:=by omega
                have hgd:r.start.getD i 0=r.start[i]:=by simp[List.getD_eq_getElem?_getD,List.getElem?_eq_getElem hi]
                simp only[h1,decide_true,cond_true,at?_eq r.start (i:Int) (by omega) h1,Option.bind_some,Int.toNat_natCast,h3,qe (n:=(i:Int)+1) (by omega) (by omega),qe (n:=2*((r.pieces.length:Nat):Int)) (by omega) (by omega),hgd]
                cases qb r.start[i] 0 (2*((r.pieces.length:Nat):Int))<;>simp
            · rw[bne_t cs,if_pos cs];rfl
          · rw[bne_t cp,if_pos cp];rfl
    · have e1:((!(qb r.2.1 1 8))||(!(qb r.2.2.1 1 8)))=true:=by
        rw[Bool.or_eq_true,Bool.not_eq_true',Bool.not_eq_true'];by_cases k:qb r.2.1 1 8=true
        · right;rw[Bool.eq_false_iff];intro k2;exact cw ⟨within_iff.1 k,within_iff.1 k2⟩
        · left;exact Bool.eq_false_iff.2 k
      rw[e1,if_pos cw];rfl

abbrev Place:=(List Int)×((List Int)×(List Int)×Unit)×Int×Int×Unit
abbrev Place.cells (p:Place):List Int:=p.1
abbrev Place.h0 (p:Place):List Int:=p.2.1.1
abbrev Place.h1 (p:Place):List Int:=p.2.1.2.1
abbrev Place.turn (p:Place):Int:=p.2.2.1
abbrev Place.quiet (p:Place):Int:=p.2.2.2.1
theorem agree_self {α:Type} (x:Option α):agree x x=x:=by simp[agree]
theorem qfz (s:List Int) (h:s.length≤1000000):qS s=some s:=by
  unfold qS;have:room (([]:List Int).length+s.length) 8=true:=qae (by simp;omega);rw[this]
  cases s with
  | nil=>simp[qa,agree_self]
  | cons a l=>simp[qa]
theorem concat2 (a b:List Int) (ha:a.length≤1000) (hb:b.length≤1000):qb6 [a,b]=some (a++b):=by
  have w1:w64 (0+((a.length:Nat):Int))=(a.length:Int):=by rw[Int.zero_add];exact qe (by omega) (by omega)
  have w2:w64 ((a.length:Int)+((b.length:Nat):Int))=((a.length+b.length:Nat):Int):=by rw[qe (by omega) (by omega)];omega
  have w3:w64 ((0:Int)+1)=1:=by decide
  have w4:w64 ((1:Int)+1)=2:=by decide
  have g0:at? [a,b] 0=some a:=rfl;have g1:at? [a,b] 1=some b:=rfl;have l1:iterW (qac [a,b]) (((0:Int),(0:Int),()),())=some (((((a.length+b.length:Nat):Int)),()),()):=by
    have s0:qac [a,b] (((0:Int),(0:Int),()),())=some (.inl ((((a.length:Nat):Int),(1:Int),()),())):=by
      unfold qac;simp only[g0,w1,w3,Option.bind_some];rw[show decide (((a.length:Nat):Int)<0)=false by simp];rfl
    have s1:qac [a,b] ((((a.length:Nat):Int),(1:Int),()),())=some (.inl ((((a.length+b.length:Nat):Int),(2:Int),()),())):=by
      unfold qac;simp only[g1,w2,w4,Option.bind_some];rw[show decide (((a.length+b.length:Nat):Int)<0)=false by simp;omega];rfl
    have s2:qac [a,b] ((((a.length+b.length:Nat):Int),(2:Int),()),())=some (.inr ((((a.length+b.length:Nat):Int),()),())):=rfl;rw[qn s0,qn s1,qg s2]
  have l2:iterW (qad [a,b]) ((([]:List Int),(0:Int),()),())=some ((a++b,()),()):=by
    have s0:qad [a,b] ((([]:List Int),(0:Int),()),())=some (.inl ((a,(1:Int),()),())):=by
      unfold qad;simp only[g0,w3,Option.bind_some];rw[qae (by simp;omega)];rfl
    have s1:qad [a,b] ((a,(1:Int),()),())=some (.inl ((a++b,(2:Int),()),())):=by
      unfold qad;simp only[g1,w4,Option.bind_some];rw[qae (by omega)];rfl
    have s2:qad [a,b] ((a++b,(2:Int),()),())=some (.inr ((a++b,()),())):=rfl;rw[qn s0,qn s1,qg s2]
  unfold qb6;simp only[l1,Option.bind_some];rw[show decide (((a.length+b.length:Nat):Int)<0)=false by simp;omega]
  have w5:w64 (((a.length+b.length:Nat):Int)-0)=((a.length+b.length:Nat):Int):=by rw[Int.sub_zero];exact qe (by omega) (by omega)
  simp only[w5,cond_false];by_cases c:a.length+b.length=0
  · rw[c];simp only[Int.natCast_zero,show decide ((0:Int)>0)=false by decide,cond_false,Option.bind_some];rw[l2];rfl
  · have c1:decide (((a.length+b.length:Nat):Int)>0)=true:=by simp;omega
    have c2:decide (0<((a.length+b.length:Nat):Int))=true:=by simp;omega
    have c3:room ((((a.length+b.length:Nat):Int)).toNat) 8=true:=qae (by omega)
    have c4:∀l:List Int,qj 0 0 l.length=true:=fun l=>by simp[qj]
    simp only[c1,c2,c3,c4,cond_true,Bool.and_self,qa,Option.bind_some,List.take_zero];rw[l2];rfl

def outC (r:Rules) (d:Int):Bool:=decide (d<0)||decide (d>2*((r.pieces.length:Nat):Int))
def outH (d:Int):Bool:=decide (d<0)||decide (d>1000)
def outT (p:Place):Bool:=(((p.turn !=0)&&(p.turn !=1))||decide (p.quiet<0))||decide (p.quiet>200)
def qgt (r:Rules) (p:Place):Bool:=p.cells.any (outC r)||((p.h0++p.h1).any outH||outT p)
def qjk (r:Rules) (p:Place):Bool:=((((p.cells.length:Nat):Int)!=r.width*r.height)||(((p.h0.length:Nat):Int)!=((r.pieces.length:Nat):Int)))||(((p.h1.length:Nat):Int)!=((r.pieces.length:Nat):Int))
def qaa (r:Rules) (p:Place):Int:=if qu r≠0 then qu r else bif qjk r p then 3 else bif qgt r p then 4 else 0

structure VR0 (r:Rules):Prop where
  w1:1≤r.width
  w8:r.width≤8
  h1:1≤r.height
  h8:r.height≤8
  t1:1≤r.pieces.length
  t6:r.pieces.length≤6
  hand:∀q∈r.pieces,0≤q.2.1∧q.2.1≤64
  prom:∀q∈r.pieces,0≤q.2.2.1∧q.2.2.1≤((r.pieces.length:Nat):Int)
  ways:∀q∈r.pieces,q.2.2.2.1.length≤16
  way:∀q∈r.pieces,∀w∈q.2.2.2.1,(-7≤w.1∧w.1≤7)∧(-7≤w.2.1∧w.2.1≤7)∧¬(w.1=0∧w.2.1=0)∧(1≤w.2.2.1∧w.2.2.1≤7)∧(0≤w.2.2.2.1∧w.2.2.2.1≤2)
  start:((r.start.length:Nat):Int)=r.width*r.height
  startC:∀c∈r.start,0≤c∧c≤2*((r.pieces.length:Nat):Int)
  ends6:r.ends.length≤6
  ends:∀x∈r.ends,(0≤x.1∧x.1≤2)∧(if x.1=1 then x.2.2.1=0 else 1≤x.2.2.1∧x.2.2.1≤64)∧(if x.1=0 then x.2.1=0 else 0≤x.2.1∧x.2.1≤((r.pieces.length:Nat):Int)-1)
  blocked:0≤r.blocked∧r.blocked≤2
  quiet:0≤r.quiet∧r.quiet≤200
  repeats:r.repeats=0∨(2≤r.repeats∧r.repeats≤5)
structure Valid (r:Rules) (p:Place):Prop where
  r0:VR0 r
  cells:((p.cells.length:Nat):Int)=r.width*r.height
  l0:p.h0.length=r.pieces.length
  l1:p.h1.length=r.pieces.length
  cell:∀c∈p.cells,0≤c∧c≤2*((r.pieces.length:Nat):Int)
  hand0:∀c∈p.h0,0≤c∧c≤1000
  hand1:∀c∈p.h1,0≤c∧c≤1000
  turn:p.turn=0∨p.turn=1
  quiet:0≤p.quiet∧p.quiet≤200

theorem qsl {α:Type} {l:List α} {x:α} (h:x∈l):∃i,i<l.length∧l[i]?=some x:=by
  obtain⟨i,hi,e⟩:=List.mem_iff_getElem.1 h;exact⟨i,hi,by rw[List.getElem?_eq_getElem hi,e]⟩
theorem qcb {r:Rules} (h:qu r=0):VR0 r:=by
  unfold qu at h;split at h
  · cases h
  split at h
  · cases h
  rename_i _ h2;have h2:=Decidable.not_not.1 h2;split at h
  · cases h
  rename_i h3;split at h
  · cases h
  rename_i h4;split at h
  · rename_i h5;exact absurd h h5
  rename_i h5;have h5:=qbs (Decidable.not_not.1 h5);split at h
  · cases h
  rename_i h6;have h6:=Decidable.not_not.1 h6;split at h
  · rename_i h7;exact absurd h h7
  rename_i h7;have h7:=qbs (Decidable.not_not.1 h7);split at h
  · rename_i h8;exact absurd h h8
  rename_i h8;have h8:=Decidable.not_not.1 h8;unfold qlh at h8;split at h8
  · cases h8
  rename_i h9;have h8:=qbs h8;have hp:∀q∈r.pieces,(0≤q.2.1∧q.2.1≤64)∧(0≤q.2.2.1∧q.2.2.1≤((r.pieces.length:Nat):Int))∧q.2.2.2.1.length≤16∧q.2.2.2.1.any qoZ=false:=fun q hq=>by
    obtain⟨i,hi,e⟩:=qsl hq;have:=h5 i hi;unfold pErr at this;rw[e] at this;simp only at this;cases c1:(decide (q.1<65)||decide (q.1>90))
    · cases c2:(r.pieces.take i).any (fun q'=>q'.1==q.1)
      · cases c3:((!(qb q.2.1 0 64))||(!(qb q.2.2.1 0 ((r.pieces.length:Nat):Int))))
        · cases c4:decide (((q.2.2.2.1.length:Nat):Int)>16)
          · cases c5:q.2.2.2.1.any qoZ
            · simp only[Bool.or_eq_false_iff,Bool.not_eq_false'] at c3;simp only[decide_eq_false_iff_not] at c4;exact⟨within_iff.1 c3.1,within_iff.1 c3.2,by omega,rfl⟩
            · simp[c1,c2,c3,c4,c5] at this
          · simp[c1,c2,c3,c4] at this
        · simp[c1,c2,c3] at this
      · simp[c1,c2] at this
    · simp[c1] at this
  refine⟨h2.1.1,h2.1.2,h2.2.1,h2.2.2,by omega,by omega,fun q hq=>(hp q hq).1,fun q hq=>(hp q hq).2.1,fun q hq=>(hp q hq).2.2.1,fun q hq w hw=>?_,h6,fun c hc=>?_,by omega,fun x hx=>?_,?_,?_,?_⟩
  · have:=(hp q hq).2.2.2;rw[List.any_eq_false] at this;have:=this w hw;unfold qoZ at this;simp only[Bool.not_eq_true,Bool.or_eq_false_iff,Bool.not_eq_false',within_iff,Bool.and_eq_false_iff,beq_eq_false_iff_ne] at this;refine⟨this.1.1.1.1,this.1.1.1.2,fun h=>?_,this.1.2,this.2⟩;rcases this.1.1.2 with h' | h'
    · exact h' h.1
    · exact h' h.2
  · obtain⟨i,hi,e⟩:=qsl hc;have:=h7 i hi;unfold sErr at this;rw[List.getD_eq_getElem?_getD,e] at this;cases c1:qb c 0 (2*((r.pieces.length:Nat):Int))
    · simp[c1] at this
    · exact within_iff.1 c1
  · obtain⟨i,hi,e⟩:=qsl hx;have:=h8 i hi;unfold eErr at this;rw[e] at this;simp only at this;cases c1:qb x.1 0 2
    · simp[c1] at this
    · cases c2:(!(bif x.1==1 then x.2.2.1==0 else qb x.2.2.1 1 64))||(!(bif x.1==0 then x.2.1==0 else qb x.2.1 0 (((r.pieces.length:Nat):Int)-1)))
      · simp only[Bool.or_eq_false_iff,Bool.not_eq_false'] at c2;refine⟨within_iff.1 c1,?_,?_⟩
        · have:=c2.1;by_cases e1:x.1=1
          · rw[if_pos e1];simpa[e1] using this
          · rw[if_neg e1];rw[beq_f e1,cond_false] at this;exact within_iff.1 this
        · have:=c2.2;by_cases e1:x.1=0
          · rw[if_pos e1];simpa[e1] using this
          · rw[if_neg e1];rw[beq_f e1,cond_false] at this;exact within_iff.1 this
      · simp[c1,c2] at this
  all_goals
    unfold qtd at h;cases c1:(((!(qb r.blocked (0:Int) (2:Int)))||(!(qb r.quiet (0:Int) (200:Int))))||((r.repeats !=(0:Int))&&(!(qb r.repeats (2:Int) (5:Int)))))
    · simp only[Bool.or_eq_false_iff,Bool.not_eq_false',within_iff,Bool.and_eq_false_iff,bne_eq_false_iff_eq] at c1
      first
      | exact c1.1.1
      | exact c1.1.2
      | exact c1.2
    · simp[c1] at h
theorem VR0.area {r:Rules} (h:VR0 r):1≤r.width*r.height∧r.width*r.height≤64:=by
  have h1:r.width*r.height≤8*8:=Int.mul_le_mul h.w8 h.h8 (by have:=h.h1;omega) (by omega);have h2:1*1≤r.width*r.height:=Int.mul_le_mul h.w1 h.h1 (by omega) (by have:=h.w1;omega);omega
theorem quO (r:Rules) (p:Place) (hr:VR0 r) (hn:p.1.length≤9223372036854775807):qhX r p=some (bif qjk r p then 3 else bif qgt r p then 4 else 0):=by
  have ha:=hr.area;have ht:=hr.t6;unfold qhX qjk;rw[show r.2.1*r.2.2.1=r.width*r.height from rfl,qe (n:=r.width*r.height) (by omega) (by omega)]
  cases hb:((((((p.1.length:Nat):Int)!=r.width*r.height)||(((p.2.1.1.length:Nat):Int)!=((r.2.2.2.1.length:Nat):Int)))||(((p.2.1.2.1.length:Nat):Int)!=((r.2.2.2.1.length:Nat):Int)))) with
  | true=>rfl
  | false =>
    simp only[Bool.or_eq_false_iff,bne_eq_false_iff_eq] at hb;obtain⟨⟨b1,b2⟩,b3⟩:=hb;have ht':r.2.2.2.1.length≤6:=ht;rw[cond_false,cond_false,concat2 _ _ (by omega) (by omega),Option.bind_some];unfold qgt
    have hl2:(p.2.1.1++p.2.1.2.1).length≤2000:=by simp;omega
    show _=some (bif (p.1.any (outC r)||((p.2.1.1++p.2.1.2.1).any outH||outT p)) then(4:Int) else 0);generalize p.2.1.1++p.2.1.2.1=l at hl2;have i1:iterW (qcx p r l) (((0:Int),()),())=some (bif p.1.any (outC r) then .inr ((true,()),()) else .inl ((),())):=by
      refine qY p.1 (outC r) (qcx p r l) (.inr ((true,()),())) (.inl ((),())) (fun i hi=>?_) ?_
      · unfold qcx;simp only[show decide ((i:Int)<((p.1.length:Nat):Int))=true by simp;omega,cond_true];rw[at?_eq _ _ (by omega) (by omega)];simp only[Option.bind_some,Int.toNat_natCast,List.getElem?_eq_getElem hi];rw[qe (n:=(i:Int)+1) (by omega) (by omega),show decide ((i:Int)≥0)=true by simp];rw[qe (n:=(2:Int)*((r.2.2.2.1.length:Nat):Int)) (by omega) (by omega)];unfold outC;generalize (decide (p.1[i]<(0:Int))||decide (p.1[i]>((2:Int)*((r.2.2.2.1.length:Nat):Int))))=q
        cases q<;>rfl
      · unfold qcx;simp
    have i2:iterW (qcq l p) (((0:Int),()),())=some (bif l.any outH then .inr ((true,()),()) else .inl ((),())):=by
      refine qY l outH (qcq l p) (.inr ((true,()),())) (.inl ((),())) (fun i hi=>?_) ?_
      · unfold qcq;simp only[show decide ((i:Int)<((l.length:Nat):Int))=true by simp;omega,cond_true,Int.toNat_natCast,show inb (i:Int) l.length=true from inb_iff.2 ⟨by omega,by omega⟩,qa,show decide ((i:Int)≥0)=true by simp];rw[qe (n:=(i:Int)+1) (by omega) (by omega)]
        have e:getD' l i (0:Int)=l[i]:=by simp[getD',hi]
        have e':outH l[i]=(decide (getD' l i (0:Int)<(0:Int))||decide (getD' l i (0:Int)>(1000:Int))):=by rw[e];rfl
        rw[e'];generalize (decide (getD' l i (0:Int)<(0:Int))||decide (getD' l i (0:Int)>(1000:Int)))=q
        cases q<;>simp
      · unfold qcq;simp
    have e4:iterW (qjQ p r l) (((0:Int),()),())=_:=i1;have e6:iterW (qj8 l p) (((0:Int),()),())=_:=i2;simp only[i1,i2,e4,e6,agree_self,Option.bind_some];unfold outT;cases p.1.any (outC r)
    · cases l.any outH
      · simp only[cond_false,Sum.elim_inl,Option.bind_some,Bool.false_or];exact(qbq _ _ _)
      · rfl
    · rfl
theorem qoC (r:Rules) (p:Place) (hr:Rng qR r) (hn:p.1.length≤9223372036854775807):qf9 r p=some (qaa r p):=by
  unfold qf9 qaa;rw[qhS r hr,Option.bind_some];by_cases c:qu r=0
  · rw[bne_f c,cond_false,if_neg (by simpa using c),quO r p (qcb c) hn];rfl
  · rw[bne_t c,cond_true,if_pos c]
theorem qkI {r:Rules} {p:Place} (h:qaa r p=0):Valid r p:=by
  unfold qaa at h;split at h
  · rename_i c;exact absurd h c
  rename_i c;have hv:=qcb (Decidable.not_not.1 c);cases c1:qjk r p
  · rw[c1,cond_false] at h;cases c2:qgt r p
    · unfold qjk at c1;unfold qgt outT at c2;simp only[Bool.or_eq_false_iff,bne_eq_false_iff_eq,List.any_eq_false,Bool.and_eq_false_iff,decide_eq_false_iff_not,List.mem_append,outC,outH,decide_eq_true_eq,Bool.not_eq_true] at c1 c2;obtain⟨⟨a1,a2⟩,a3⟩:=c1;obtain⟨b1,b2,⟨b3,b4⟩,b5⟩:=c2;exact⟨hv,a1,by omega,by omega,fun c hc=>by have:=b1 c hc;omega,fun c hc=>by have:=b2 c (.inl hc);omega,fun c hc=>by have:=b2 c (.inr hc);omega,b3,by omega⟩
    · rw[c2] at h;cases h
  · rw[c1] at h;cases h

abbrev RWay:=Int×Int×Int×Int×Unit
def cellI (p:Place) (s:Int):Int:=p.cells.getD s.toNat 0
def onB (r:Rules) (x y:Int):Bool:=decide (0≤x∧x<r.width∧0≤y∧y<r.height)
def sq (r:Rules) (x y:Int):Int:=y*r.width+x
def enemy (p:Place) (c:Int):Bool:=decide (c>0)&&((c-1).tmod 2 !=p.turn)
def mineB (p:Place) (c:Int):Bool:=decide (c>0)&&((c-1).tmod 2==p.turn)
def takes (p:Place) (w:RWay) (c:Int):Bool:=((c==0)&&(w.2.2.2.1 !=2))||(enemy p c&&(w.2.2.2.1 !=0))
def dyOf (p:Place) (w:RWay):Int:=if p.turn=1 then-w.2.1 else w.2.1
def wayL (r:Rules) (p:Place) (w:RWay):Nat→Int→Int→List Int
  | 0,_,_=>[]
  | n+1,x,y=>bif onB r (x+w.1) (y+dyOf p w) then(bif takes p w (cellI p (sq r (x+w.1) (y+dyOf p w))) then [sq r (x+w.1) (y+dyOf p w)] else [])++(bif cellI p (sq r (x+w.1) (y+dyOf p w))==0 then wayL r p w n (x+w.1) (y+dyOf p w) else []) else []
def wayS (r:Rules) (p:Place) (s:Int) (w:RWay):List Int:=wayL r p w w.2.2.1.toNat (s.tmod r.width) (s.tdiv r.width)

def WayOk (w:RWay):Prop:=(-7≤w.1∧w.1≤7)∧(-7≤w.2.1∧w.2.1≤7)∧¬(w.1=0∧w.2.1=0)∧(1≤w.2.2.1∧w.2.2.1≤7)∧(0≤w.2.2.2.1∧w.2.2.2.1≤2)
theorem Valid.wayOk {r:Rules} {p:Place} (h:Valid r p) {q:Piece} (hq:q∈r.pieces) {w:RWay} (hw:w∈q.2.2.2.1):WayOk w:=h.r0.way q hq w hw
theorem dyOf_rng {p:Place} {w:RWay} (h:WayOk w) : -7≤dyOf p w∧dyOf p w≤7:=by
  unfold dyOf;obtain⟨_,h1,_⟩:=h;split<;>omega
theorem onB_iff {r:Rules} {x y:Int}:onB r x y=true↔0≤x∧x<r.width∧0≤y∧y<r.height:=by simp[onB]
theorem qpL {y W H:Int} (hW:0≤W) (h0:0≤y) (h1:y<H):0≤y*W∧y*W≤W*H-W:=by
  refine⟨Int.mul_nonneg h0 hW,?_⟩;have:=Int.mul_le_mul_of_nonneg_right (show y≤H-1 by omega) hW;rw[Int.sub_mul,Int.one_mul,Int.mul_comm H W] at this;exact this
theorem quj {r:Rules} (hr:VR0 r) {x y:Int} (h:onB r x y=true):0≤sq r x y∧sq r x y<r.width*r.height:=by
  obtain⟨h1,h2,h3,h4⟩:=onB_iff.1 h;have:=qpL (show 0≤r.width by have:=hr.w1;omega) h3 h4;unfold sq;omega
theorem qcA {p:Place} {s:Int} (h0:0≤s) (h1:s<((p.cells.length:Nat):Int)):at? p.1 s=some (cellI p s):=by
  rw[at?_eq p.1 s h0 h1];unfold cellI;have h1':s<((p.1.length:Nat):Int):=h1;rw[List.getD_eq_getElem?_getD,List.getElem?_eq_getElem (by show s.toNat<p.1.length;omega)];rfl
theorem qmF {r:Rules} {p:Place} (h:Valid r p) (s:Int):0≤cellI p s∧cellI p s≤2*((r.pieces.length:Nat):Int):=by
  unfold cellI;rw[List.getD_eq_getElem?_getD]
  cases e:p.cells[s.toNat]? with
  | none=>simp;omega
  | some c=>exact h.cell c (List.mem_of_getElem? e)
theorem qkZ {r:Rules} {p:Place} (h:Valid r p) (s:Int):0≤cellI p s∧cellI p s≤12:=by
  have:=qmF h s;have:=h.r0.t6;omega
theorem qtL (r:Rules) (p:Place) (w:RWay):∀(n:Nat) (x y:Int),(wayL r p w n x y).length≤n
  | 0,x,y=>by simp[wayL]
  | n+1,x,y=>by
    unfold wayL;have:=qtL r p w n (x+w.1) (y+dyOf p w);cases onB r (x+w.1) (y+dyOf p w)
    · simp
    · cases takes p w (cellI p (sq r (x+w.1) (y+dyOf p w)))<;>cases (cellI p (sq r (x+w.1) (y+dyOf p w))==0)<;>simp<;>omega
theorem qt5 {r:Rules} {p:Place} {w:RWay} {t:Int}:∀ {n:Nat} {x y:Int},t∈wayL r p w n x y→∃j:Int,1≤j∧onB r (x+j*w.1) (y+j*dyOf p w)=true∧t=sq r (x+j*w.1) (y+j*dyOf p w)
  | 0,x,y,h=>by simp[wayL] at h
  | n+1,x,y,h=>by
    unfold wayL at h
    cases hb:onB r (x+w.1) (y+dyOf p w) with
    | false=>simp[hb] at h
    | true =>
      rw[hb,cond_true] at h;rcases List.mem_append.1 h with h | h
      · refine⟨1,by omega,by simpa using hb,?_⟩
        cases ht:takes p w (cellI p (sq r (x+w.1) (y+dyOf p w)))<;>simp[ht] at h
        simpa using h
      · cases hc:(cellI p (sq r (x+w.1) (y+dyOf p w))==0)<;>simp[hc] at h
        obtain⟨j,h1,h2,h3⟩:=qt5 h
        have e1:x+w.1+j*w.1=x+(j+1)*w.1:=by rw[Int.add_mul];omega
        have e2:y+dyOf p w+j*dyOf p w=y+(j+1)*dyOf p w:=by rw[Int.add_mul];omega
        rw[e1,e2] at h2 h3;exact⟨j+1,by omega,h2,h3⟩
theorem qnJ {r:Rules} {p:Place} (h:VR0 r) {w:RWay} {n:Nat} {x y t:Int} (ht:t∈wayL r p w n x y):0≤t∧t<r.width*r.height:=by
  obtain⟨j,h1,h2,h3⟩:=qt5 ht;rw[h3];exact quj h h2
theorem qpy {r:Rules} (hr:VR0 r) {s:Int} (h0:0≤s) (h1:s<r.width*r.height):(0≤s.tmod r.width∧s.tmod r.width<r.width)∧0≤s.tdiv r.width∧s.tdiv r.width<r.height:=by
  have hw:=hr.w1;rw[Int.tmod_eq_emod_of_nonneg h0,Int.tdiv_eq_ediv_of_nonneg h0];refine⟨⟨Int.emod_nonneg _ (by omega),Int.emod_lt_of_pos _ (by omega)⟩,Int.ediv_nonneg h0 (by omega),Int.ediv_lt_of_lt_mul (by omega) (by rw[Int.mul_comm];exact h1)⟩
theorem qvi {r:Rules} {p:Place} (h:Valid r p) {w:RWay} (hw:WayOk w) (s:Int) :
    ((((w.2.2.2.1==(0:Int))&&(cellI p s==(0:Int)))||((w.2.2.2.1==(1:Int))&&((cellI p s==(0:Int))||((decide (cellI p s>(0:Int)))&&(((w64 (cellI p s-(1:Int))).tmod (2:Int))!=p.2.2.1)))))||((w.2.2.2.1==(2:Int))&&((decide (cellI p s>(0:Int)))&&(((w64 (cellI p s-(1:Int))).tmod (2:Int))!=p.2.2.1))))=takes p w (cellI p s):=by
  have hc:=qkZ h s;rw[qe (n:=cellI p s-1) (by omega) (by omega)];obtain⟨_,_,_,_,h5⟩:=hw
  have h6:w.2.2.2.1=0∨w.2.2.2.1=1∨w.2.2.2.1=2:=by omega
  unfold takes enemy;rw[show p.turn=p.2.2.1 from rfl];generalize hA:(cellI p s==0)=A;have hA':A=true→decide (cellI p s>0)=false:=fun h=>by
    subst hA;rw[beq_iff_eq] at h;simp[h]
  generalize decide (cellI p s>0)=B at hA';generalize ((cellI p s-1).tmod 2 !=p.2.2.1)=C
  rcases h6 with h6 | h6 | h6<;>rw[h6]<;>cases A<;>cases B<;>cases C<;>simp_all
theorem qup {r:Rules} {p:Place} (h:Valid r p) {w:RWay} (hw:WayOk w):∀(n:Nat) (out:List Int) (x y k:Int),0≤k→k+n=w.2.2.1→out.length≤k.toNat→(0≤x∧x<r.width)→(0≤y∧y<r.height) →
    iterW (qda w r ((dyOf p w,()),()) p) ((out,x,y,k,()),())=some ((out++wayL r p w n x y,()),())
  | 0,out,x,y,k,h0,hk,ho,hx,hy=>by
    refine qg ?_;unfold qda
    have:decide (k<w.2.2.1)=false:=by simp;omega
    simp only[this,cond_false,wayL,List.append_nil]
  | n+1,out,x,y,k,h0,hk,ho,hx,hy=>by
    have hr:=h.r0;have hd:=dyOf_rng (p:=p) hw;obtain⟨hdx,_,_,hm,_⟩:=hw;have:=hr.w8;have:=hr.h8;have:=hr.w1;have:=hr.h1;have ha:=hr.area
    have hlt:decide (k<w.2.2.1)=true:=by simp;omega
    have wx:w64 (x+w.1)=x+w.1:=qe (by omega) (by omega);have wy:w64 (y+dyOf p w)=y+dyOf p w:=qe (by omega) (by omega);have wk:w64 (k+1)=k+1:=qe (by omega) (by omega);have hoff:((((decide (x+w.1<(0:Int)))||(decide (x+w.1≥r.2.1)))||(decide (y+dyOf p w<(0:Int))))||(decide (y+dyOf p w≥r.2.2.1))) = !onB r (x+w.1) (y+dyOf p w):=by
      rw[Bool.eq_iff_iff];simp only[Bool.or_eq_true,decide_eq_true_eq,Bool.not_eq_true',onB,decide_eq_false_iff_not];show((x+w.1<0∨x+w.1≥r.width)∨y+dyOf p w<0)∨y+dyOf p w≥r.height↔_;omega
    unfold wayL
    cases hb:onB r (x+w.1) (y+dyOf p w) with
    | false =>
      refine qg ?_;unfold qda;simp only[hlt,cond_true,wx,wy,hoff,hb,Bool.not_false,cond_false,List.append_nil]
    | true =>
      have hs:=quj hr hb;obtain⟨b1,b2,b3,b4⟩:=onB_iff.1 hb;have hmul:=qpL (show 0≤r.width by omega) b3 b4;have w1:w64 ((y+dyOf p w)*r.2.1)=(y+dyOf p w)*r.2.1:=qe (by show _≤(y+dyOf p w)*r.width;omega) (by show(y+dyOf p w)*r.width≤_;omega);have w2:w64 ((y+dyOf p w)*r.2.1+(x+w.1))=sq r (x+w.1) (y+dyOf p w):=qe (by show _≤sq r (x+w.1) (y+dyOf p w);omega) (by show sq r (x+w.1) (y+dyOf p w)≤_;omega);have hat:=qcA (p:=p) hs.1 (by rw[h.cells];exact hs.2);have hlen:=h.cells
      have hstep:qda w r ((dyOf p w,()),()) p ((out,x,y,k,()),())=(bif cellI p (sq r (x+w.1) (y+dyOf p w))!=0 then some (.inr ((out++(bif takes p w (cellI p (sq r (x+w.1) (y+dyOf p w))) then [sq r (x+w.1) (y+dyOf p w)] else []),()),())) else some (.inl ((out++(bif takes p w (cellI p (sq r (x+w.1) (y+dyOf p w))) then [sq r (x+w.1) (y+dyOf p w)] else []),x+w.1,y+dyOf p w,k+1,()),()))):=by
        unfold qda
        simp only[hlt,cond_true,wx,wy,hoff,hb,Bool.not_true,cond_false,w1,w2,wk,hat,Option.bind_some,qvi h ⟨hdx,‹_›,‹_›,hm,‹_›⟩,show ∀b,imp b true=true from fun b=>by cases b<;>rfl,qa]
        have hroom:room (out.length+[sq r (x+w.1) (y+dyOf p w)].length) 8=true:=qae (by simp;omega);cases takes p w (cellI p (sq r (x+w.1) (y+dyOf p w)))
        · simp
        · simp only[cond_true,hroom,qa,Option.bind_some]
      cases hc:(cellI p (sq r (x+w.1) (y+dyOf p w))==0) with
      | true =>
        have hne:(cellI p (sq r (x+w.1) (y+dyOf p w))!=0)=false:=by simp only[bne,hc];rfl
        rw[hne,cond_false] at hstep
        rw[qn hstep,qup h ⟨hdx,‹_›,‹_›,hm,‹_›⟩ n _ (x+w.1) (y+dyOf p w) (k+1) (by omega) (by omega) (by
          have:(bif takes p w (cellI p (sq r (x+w.1) (y+dyOf p w))) then [sq r (x+w.1) (y+dyOf p w)] else []).length≤1:=by cases takes p w (cellI p (sq r (x+w.1) (y+dyOf p w)))<;>simp
          rw[List.length_append];omega) ⟨b1,b2⟩ ⟨b3,b4⟩]
        simp[List.append_assoc]
      | false =>
        have hne:(cellI p (sq r (x+w.1) (y+dyOf p w))!=0)=true:=by simp only[bne,hc];rfl
        rw[hne,cond_true] at hstep;rw[qg hstep];simp
theorem way_spec {r:Rules} {p:Place} (h:Valid r p) {w:RWay} (hw:WayOk w) {s:Int} (h0:0≤s) (h1:s<r.width*r.height):qmD r p s w=some (wayS r p s w):=by
  have hr:=h.r0;have hd:=qpy hr h0 h1;have:=hr.w8;have:=hr.h8;have:=hr.w1;have:=hr.h1;obtain⟨hdx,hdy,hnz,hm,htk⟩:=id hw;unfold qmD wayS;have hq:(r.2.1 !=0)=true:=bne_t (by show ¬r.width=0;omega);have wdy:(bif (p.2.2.1==(1:Int)) then some (((w64 (0-w.2.1)),()),()) else some ((w.2.1,()),()))=some ((dyOf p w,()),()):=by
    unfold dyOf;by_cases e:p.turn=1
    · rw[if_pos e,beq_t e,cond_true,qe (by omega) (by omega)];simp
    · rw[if_neg e,beq_f e,cond_false]
  have wq:w64 (s.tdiv r.2.1)=s.tdiv r.2.1:=qe (by show _≤s.tdiv r.width;omega) (by show s.tdiv r.width≤_;omega);rw[wdy,Option.bind_some,hq,qa,qa,wq,qup h hw w.2.2.1.toNat [] _ _ 0 (by omega) (by omega) (by simp) hd.1 hd.2];simp

theorem qmI (x y:Mv):mvLt x y=true↔x.1<y.1∨x.1=y.1∧(x.2.1<y.2.1∨x.2.1=y.2.1∧x.2.2.1<y.2.2.1):=by simp[mvLt]
theorem lt_f (x y:Mv):mvLt x y=false↔¬(x.1<y.1∨x.1=y.1∧(x.2.1<y.2.1∨x.2.1=y.2.1∧x.2.2.1<y.2.2.1)):=by rw[←qmI,Bool.not_eq_true]
theorem mv_eq {x y:Mv} (h1:x.1=y.1) (h2:x.2.1=y.2.1) (h3:x.2.2.1=y.2.2.1):x=y:=by
  obtain⟨a,b,c,⟨⟩⟩:=x;obtain⟨a',b',c',⟨⟩⟩:=y;simp only at h1 h2 h3;subst h1 h2 h3;rfl
theorem mv_beq (x y:Mv):((x.1==y.1)&&((x.2.1==y.2.1)&&((x.2.2.1==y.2.2.1)&&true)))=decide (x=y):=by
  rw[Bool.eq_iff_iff];simp only[Bool.and_eq_true,beq_iff_eq,decide_eq_true_eq,and_true];constructor
  · rintro ⟨h1,h2,h3⟩;exact mv_eq h1 h2 h3
  · rintro rfl;exact⟨rfl,rfl,rfl⟩

def dd1 (a:Mv):List Mv→List Mv
  | []=>[]
  | x::xs=>if x=a then dd1 a xs else x::dd1 x xs
def dd:List Mv→List Mv
  | []=>[]
  | x::xs=>x::dd1 x xs
theorem qqz (y:Mv):∀(l:List Mv) (a:Mv),dd1 a (l++[y])=dd1 a l++(if (a::l).getLast (by simp)=y then [] else [y])
  | [],a=>by simp only[List.nil_append,dd1,List.getLast_singleton];by_cases h:y=a<;>simp[h,eq_comm]
  | x::xs,a=>by
    simp only[List.cons_append,dd1];by_cases h:x=a
    · subst h;rw[if_pos rfl,if_pos rfl,qqz y xs x];congr 2
    · rw[if_neg h,if_neg h,qqz y xs x,List.cons_append];congr 2
theorem dd_snoc {l:List Mv} (hl:l≠[]) (y:Mv):dd (l++[y])=dd l++(if l.getLast hl=y then [] else [y]):=by
  cases l with
  | nil=>exact absurd rfl hl
  | cons x xs=>simp only[List.cons_append,dd,qqz]
theorem qqn (z:Mv):∀(l:List Mv) (a:Mv),z∈a::dd1 a l↔z∈a::l
  | [],a=>by simp[dd1]
  | x::xs,a=>by
    simp only[dd1];by_cases h:x=a
    · subst h;rw[if_pos rfl,qqn z xs x];simp
    · rw[if_neg h,List.mem_cons,qqn z xs x,←List.mem_cons]
theorem dd_mem (z:Mv) (l:List Mv):z∈dd l↔z∈l:=by
  cases l with
  | nil=>simp[dd]
  | cons x xs=>exact qqn z xs x
theorem dd1_lt:∀(l:List Mv) (a:Mv),(a::l).Pairwise (fun x y=>(!mvLt y x)=true)→(a::dd1 a l).Pairwise (fun x y=>mvLt x y=true)
  | [],a,h=>by simp[dd1]
  | x::xs,a,h=>by
    simp only[dd1];rw[List.pairwise_cons] at h;by_cases e:x=a
    · subst e;rw[if_pos rfl];exact dd1_lt xs x h.2
    · rw[if_neg e,List.pairwise_cons];refine⟨fun z hz=>?_,dd1_lt xs x h.2⟩;have hz':=(qqn z xs x).1 hz;have h1:=h.1 x (by simp);have hax:mvLt a x=true:=by
        rw[Bool.not_eq_true',lt_f] at h1;rw[qmI];by_cases c1:a.1=x.1
        · by_cases c2:a.2.1=x.2.1
          · by_cases c3:a.2.2.1=x.2.2.1
            · exact absurd (mv_eq c1 c2 c3).symm e
            · omega
          · omega
        · omega
      rcases List.mem_cons.1 hz' with rfl | hz2
      · exact hax
      · have h2:=(List.pairwise_cons.1 h.2).1 z hz2;rw[Bool.not_eq_true',lt_f] at h2;rw[qmI] at hax ⊢;omega
theorem dd_lt {l:List Mv} (h:l.Pairwise (fun x y=>(!mvLt y x)=true)):(dd l).Pairwise (fun x y=>mvLt x y=true):=by
  cases l with
  | nil=>simp[dd]
  | cons x xs=>exact dd1_lt xs x h
theorem sort_pw (l:List Mv):(qbu l).Pairwise (fun x y=>(!mvLt y x)=true):=by
  unfold qbu;apply List.pairwise_mergeSort
  · intro a b c h1 h2;rw[Bool.not_eq_true',lt_f] at *;omega
  · intro a b;rw[Bool.or_eq_true,Bool.not_eq_true',Bool.not_eq_true',lt_f,lt_f];omega
theorem sort_mem (z:Mv) (l:List Mv):z∈qbu l↔z∈l:=(List.mergeSort_perm l _).mem_iff
theorem sort_len (l:List Mv):(qbu l).length=l.length:=List.length_mergeSort l
theorem lt_irrefl (x:Mv):mvLt x x=false:=by rw[lt_f];omega
theorem qrh:∀ {l m:List Mv},l.Pairwise (fun x y=>mvLt x y=true)→m.Pairwise (fun x y=>mvLt x y=true)→(∀z,z∈l↔z∈m)→l=m
  | [],[],_,_,_=>rfl
  | [],y::m,_,_,h=>by have:=(h y).2 (by simp);simp at this
  | x::l,[],_,_,h=>by have:=(h x).1 (by simp);simp at this
  | x::l,y::m,hl,hm,h=>by
    rw[List.pairwise_cons] at hl hm;have e:x=y:=by
      rcases List.mem_cons.1 ((h x).1 (by simp)) with e | e
      · exact e
      · rcases List.mem_cons.1 ((h y).2 (by simp)) with e2 | e2
        · exact e2.symm
        · have a:=hm.1 x e;have b:=hl.1 y e2;rw[qmI] at a b;omega
    subst e;congr 1;refine qrh hl.2 hm.2 fun z=>⟨fun hz=>?_,fun hz=>?_⟩
    · rcases List.mem_cons.1 ((h z).1 (by simp[hz])) with e | e
      · subst e;have:=hl.1 z hz;rw[lt_irrefl] at this;cases this
      · exact e
    · rcases List.mem_cons.1 ((h z).2 (by simp[hz])) with e | e
      · subst e;have:=hm.1 z hz;rw[lt_irrefl] at this;cases this
      · exact e

abbrev d0:Mv:=((0:Int),((0:Int),((0:Int),())))
theorem que {xs:List Mv} {j:Nat} (h:j<xs.length):xs.take (j+1)=xs.take j++[getD' xs j d0]:=by
  rw[List.take_succ_eq_append_getElem h];simp[getD',h]
theorem dd_take {xs:List Mv} {j:Nat} (h:j<xs.length) (hj:1≤j):dd (xs.take (j+1))=dd (xs.take j)++(if getD' xs (j-1) d0=getD' xs j d0 then [] else [getD' xs j d0]):=by
  have hne:xs.take j≠[]:=by
    intro e;have:=congrArg List.length e;rw[List.length_take] at this;simp only[List.length_nil] at this;omega
  rw[que h,dd_snoc hne];have:(xs.take j).getLast hne=getD' xs (j-1) d0:=by
    rw[List.getLast_eq_getElem];simp only[List.getElem_take,List.length_take,getD'];rw[List.getD_eq_getElem?_getD,List.getElem?_eq_getElem (by omega)];simp only[Option.getD_some];congr 1;omega
  rw[this]
theorem compact5 (xs:List Mv) (k0:Nat) (hk0:1≤k0) (hk1:k0<xs.length) (hx:xs.length≤1000000) (hd:dd (xs.take (k0+1))=xs.take k0) :
    ∃r,iterW (qhh (((k0:Int),()),(xs,()))) (((k0:Int),(1:Int),()),(xs,()))=some r∧(∃k:Nat,r.1.1=(k:Int)∧k≤xs.length∧r.2.1.length=xs.length∧r.2.1.take k=dd xs):=by
  refine qk8 (fun x=>∃(k k2:Nat),x.1.1=(k:Int)∧x.1.2.1=(k2:Int)∧1≤k2∧k0+k2≤xs.length∧k0≤k∧k+1≤k0+k2∧x.2.1.length=xs.length∧(∀j,k0+k2≤j+1→getD' x.2.1 j d0=getD' xs j d0)∧x.2.1.take k=dd (xs.take (k0+k2))) (fun x=>xs.length-x.1.2.1.toNat) _ ?_ _ ⟨k0,1,rfl,rfl,by omega,by omega,by omega,by omega,rfl,fun _ _=>rfl,by rw[hd]⟩
  rintro ⟨⟨k,k2,⟨⟩⟩,ys,⟨⟩⟩ ⟨K,K2,e1,e2,h1,h2,h3,h4,h5,h6,h7⟩
  simp only at e1 e2 h5 h6 h7;subst e1 e2;unfold qhh;simp only[Int.toNat_natCast];by_cases hlt:K2<xs.length-k0
  · left
    have c1:decide ((K2:Int)<((xs.length-k0:Nat):Int))=true:=by simp;omega
    have c2:inb (K2:Int) (xs.length-k0)=true:=inb_iff.2 ⟨by omega,by omega⟩
    have w1:w64 ((K2:Int)-1)=((K2-1:Nat):Int):=by rw[qe (by omega) (by omega)];omega
    have c3:inb ((K2-1:Nat):Int) (xs.length-k0)=true:=inb_iff.2 ⟨by omega,by omega⟩
    have w2:w64 ((K2:Int)+1)=((K2+1:Nat):Int):=by rw[qe (by omega) (by omega)];omega
    have w3:w64 ((K:Int)+1)=((K+1:Nat):Int):=by rw[qe (by omega) (by omega)];omega
    have c4:inb (K:Int) ys.length=true:=inb_iff.2 ⟨by omega,by omega⟩;have g1:getD' ys (k0+K2) d0=getD' xs (k0+K2) d0:=h6 _ (by omega);have g2:getD' ys (k0+(K2-1)) d0=getD' xs (k0+(K2-1)) d0:=h6 _ (by omega);have hdd:=dd_take (xs:=xs) (j:=k0+K2) (by omega) (by omega);simp only[c1,cond_true,c2,qa,w1,Int.toNat_natCast,c3,w2,w3,c4,mv_beq,g1,g2];by_cases he:getD' xs (k0+K2) d0=getD' xs (k0+(K2-1)) d0
    · refine⟨(((K:Int),((K2+1:Nat):Int),()),(ys,())),by simp[he],⟨K,K2+1,rfl,rfl,by omega,by omega,by omega,by omega,h5,fun j hj=>h6 j (by omega),?_⟩,by simp;omega⟩;rw[show k0+(K2+1)=k0+K2+1 by omega,hdd,if_pos (by rw[he];congr 1;omega),List.append_nil];exact h7
    · refine⟨((((K+1:Nat):Int),((K2+1:Nat):Int),()),(ys.set K (getD' xs (k0+K2) d0),())),by simp[he],⟨K+1,K2+1,rfl,rfl,by omega,by omega,by omega,by omega,by simp[h5],fun j hj=>?_,?_⟩,by simp;omega⟩
      · rw[←h6 j (by omega)];simp only[getD'];simp only[List.getD_eq_getElem?_getD];rw[List.getElem?_set_ne (by omega)]
      · rw[show k0+(K2+1)=k0+K2+1 by omega,hdd,if_neg (by intro e;apply he;rw[←e];congr 1;omega),←h7];rw[List.take_succ_eq_append_getElem (by simp;omega)];simp[List.take_set_of_le]
  · right
    have c1:decide ((K2:Int)<((xs.length-k0:Nat):Int))=false:=by simp;omega
    refine⟨(((K:Int),()),(ys,())),by simp only[c1,cond_false],K,rfl,by omega,h5,?_⟩;rw[h7,show k0+K2=xs.length by omega,List.take_length]
theorem compact4 (xs:List Mv) (hx:xs.length≤1000000) (h2:2≤xs.length) :
    (Option.bind (α:=((Unit)×((List Mv)×Unit)) ⊕ (((List Mv)×Unit)×(Unit))) (iterW qfm (((1:Int),()),(xs,()))) (Sum.elim (fun x23=>some ((x23.2.1,()),())) some))=some ((dd xs,()),()):=by
  obtain⟨r,hr,hq⟩:=qk8 (f:=qfm) (fun x=>∃k:Nat,x=(((k:Int),()),(xs,()))∧1≤k∧k≤xs.length∧dd (xs.take k)=xs.take k) (fun x=>xs.length-x.1.1.toNat) (fun r=>r = .inl ((),(xs,()))∧dd xs=xs∨r = .inr ((dd xs,()),())) (by
    rintro x ⟨k,rfl,h1,h3,h4⟩
    unfold qfm;simp only[Int.toNat_natCast];by_cases hlt:k<xs.length
    · have c1:decide ((k:Int)<((xs.length:Nat):Int))=true:=by simp;omega
      have c2:inb (k:Int) xs.length=true:=inb_iff.2 ⟨by omega,by omega⟩
      have w1:w64 ((k:Int)-1)=((k-1:Nat):Int):=by rw[qe (by omega) (by omega)];omega
      have c3:inb ((k-1:Nat):Int) xs.length=true:=inb_iff.2 ⟨by omega,by omega⟩
      have w2:w64 ((k:Int)+1)=((k+1:Nat):Int):=by rw[qe (by omega) (by omega)];omega
      have c4:qj (k:Int) ((xs.length:Nat):Int) xs.length=true:=by simp[qj];omega
      have hdd:=dd_take hlt h1;simp only[c1,cond_true,c2,qa,w1,Int.toNat_natCast,c3,c4,mv_beq];by_cases he:getD' xs k d0=getD' xs (k-1) d0
      · right;rw[if_pos he.symm,List.append_nil,h4] at hdd;obtain⟨r,hr,K,e1,e2,e3,e4⟩:=compact5 xs k h1 hlt hx hdd;obtain⟨⟨k',⟨⟩⟩,ys,⟨⟩⟩:=r;simp only at e1 e3 e4;subst e1;refine⟨.inr ((dd xs,()),()),?_,.inr rfl⟩;rw[hr]
        have c5:qj (K:Int) ((ys.length:Nat):Int) ys.length=true:=by simp[qj];omega
        have c6:∀l:List Mv,K≤l.length→qj 0 (K:Int) l.length=true:=fun l hl=>by simp[qj];omega
        simp only[he,decide_true,cond_true,Option.bind_some,c5,qa,Int.toNat_natCast];rw[c6 _ (by simp;omega),qa,Option.bind_some,Sum.elim_inr,List.take_append_of_le_length (by simp;omega),List.take_take,Nat.min_self,e4]
      · left;refine⟨((((k+1:Nat):Int),()),(xs,())),?_,⟨k+1,rfl,by omega,by omega,?_⟩,by simp;omega⟩
        · simp only[he,decide_false,cond_false,Option.bind_some,Sum.elim_inl,w2]
        · rw[hdd,if_neg (fun e=>he e.symm),h4,←que hlt]
    · right
      have c1:decide ((k:Int)<((xs.length:Nat):Int))=false:=by simp;omega
      refine⟨.inl ((),(xs,())),by simp only[c1,cond_false],.inl ⟨rfl,?_⟩⟩
      have:k=xs.length:=by omega
      rw[this,List.take_length] at h4
      exact h4) (((1:Int),()),(xs,())) ⟨1,rfl,by omega,by omega,by
        cases xs with
        | nil=>rfl
        | cons x l=>rfl⟩
  rw[hr];rcases hq with ⟨rfl,e⟩ | rfl
  · rw[e];rfl
  · rfl

def qcj (p:Place):List Int:=getD' [p.2.1.1,p.2.1.2.1] (p.2.2.1).toNat []
theorem qkx {r:Rules} {p:Place} (h:Valid r p):qcj p=if p.turn=0 then p.h0 else p.h1:=by
  unfold qcj;rcases h.turn with e | e
  · rw[if_pos e,show p.2.2.1=0 from e];rfl
  · rw[if_neg (by omega),show p.2.2.1=1 from e];rfl
theorem qmC {r:Rules} {p:Place} (h:Valid r p):(qcj p).length=r.pieces.length:=by
  rw[qkx h];split
  · exact h.l0
  · exact h.l1
theorem qty {r:Rules} {p:Place} (h:Valid r p):∀c∈qcj p,0≤c∧c≤1000:=by
  rw[qkx h];split
  · exact h.hand0
  · exact h.hand1
def handI (p:Place) (k:Int):Int:=(qcj p).getD k.toNat 0
theorem at_hand {p:Place} {k:Int} (h0:0≤k) (h1:k<(((qcj p).length:Nat):Int)):at? (getD' [p.2.1.1,p.2.1.2.1] (p.2.2.1).toNat []) k=some (handI p k):=by
  show at? (qcj p) k=_;rw[at?_eq _ k h0 h1];unfold handI;rw[List.getD_eq_getElem?_getD,List.getElem?_eq_getElem (by omega)];rfl
def colF (p:Place) (W x0:Int):Nat→Bool
  | 0=>true
  | y+1=>colF p W x0 y&&(cellI p (x0+(y:Int)*W)!=0)
def qji (r:Rules) (p:Place) (s:Int):Bool:=colF p r.width (s.tmod r.width) (s.tdiv r.width).toNat
theorem div_eq {W s:Int} (hW:1≤W) (h0:0≤s):s=s.tmod W+((s.tdiv W).toNat:Int)*W:=by
  have h1:=Int.tmod_add_tdiv_mul s W
  have h2:0≤s.tdiv W:=by rw[Int.tdiv_eq_ediv_of_nonneg h0];exact Int.ediv_nonneg h0 (by omega)
  rw[Int.toNat_of_nonneg h2];exact h1.symm
theorem qnQ {r:Rules} {p:Place} (h:Valid r p) {x0:Int} (hx:0≤x0∧x0<r.width):∀(y:Nat),(y:Int)≤r.height →
    (Option.bind (α:=((Unit)×(Unit)) ⊕ Bool) (iterW (qbX p r) ((x0+(y:Int)*r.width-r.width,()),())) (Sum.elim (fun x3=>some true) some))=some (colF p r.width x0 y)
  | 0,hy=>by
    rw[qg (r := .inl ((),())) (by
      unfold qbX
      have:decide (x0+((0:Nat):Int)*r.width-r.width≥0)=false:=by simp;omega
      simp only[this,cond_false])]
    rfl
  | y+1,hy=>by
    have hr:=h.r0;have:=hr.w8;have:=hr.h8;have:=hr.w1;have:=hr.h1;have ha:=hr.area;have hb:onB r x0 (y:Int)=true:=onB_iff.2 ⟨hx.1,hx.2,by omega,by omega⟩;have hs:=quj hr hb;have hm:=qpL (show 0≤r.width by omega) (show(0:Int)≤(y:Int) by omega) (show(y:Int)<r.height by omega);have e:x0+((y+1:Nat):Int)*r.width-r.width=x0+(y:Int)*r.width:=by
      rw[show((y+1:Nat):Int)=(y:Int)+1 by omega,Int.add_mul];omega
    rw[e];have hat:=qcA (p:=p) (s:=x0+(y:Int)*r.width) (by omega) (by rw[h.cells];omega)
    have hge:decide (x0+(y:Int)*r.width≥0)=true:=by simp;omega
    cases hc:(cellI p (x0+(y:Int)*r.width)==0) with
    | true =>
      rw[qg (r := .inr false) (by
        unfold qbX
        simp only[hge,cond_true,hat,Option.bind_some,hc])]
      simp[colF,bne,hc]
    | false =>
      rw[qn (y:=((x0+(y:Int)*r.width-r.width,()),())) (by
        unfold qbX;simp only[hge,cond_true,hat,Option.bind_some,hc,cond_false]
        rw[qe (n:=x0+(y:Int)*r.width-r.2.1) (by show _≤x0+(y:Int)*r.width-r.width;omega) (by show x0+(y:Int)*r.width-r.width≤_;omega)]),qnQ h hx y (by omega)]
      simp[colF,bne,hc]
theorem qsR {r:Rules} {p:Place} (h:Valid r p) {s:Int} (h0:0≤s) (h1:s<r.width*r.height):qgq r p s=some (qji r p s):=by
  have hr:=h.r0;have:=hr.w8;have:=hr.h8;have:=hr.w1;have:=hr.h1;have ha:=hr.area;have hd:=qpy hr h0 h1;have e:=div_eq hr.w1 h0;unfold qgq qji;rw[qe (n:=s-r.2.1) (by show _≤s-r.width;omega) (by show s-r.width≤_;omega)];have:=qnQ h hd.1 (s.tdiv r.width).toNat (by omega);rw[←e] at this;exact this
def putOk (r:Rules) (p:Place) (s:Int):Bool:=(cellI p s==0)&&(!r.falls||qji r p s)
def qgK (r:Rules) (p:Place) (s:Nat):List Mv:=bif putOk r p (s:Int) then(List.range (qcj p).length).flatMap (fun k:Nat=>bif decide (handI p (k:Int)>0) then [((-1:Int),((s:Int),((k:Int),())))] else []) else []
theorem fm_len1 {A:Type} (n:Nat) (F:Nat→List A) (h:∀k,(F k).length≤1):((List.range n).flatMap F).length≤n:=by
  have:=qbI F 1 (List.range n) (fun k _=>h k);simpa using this
theorem qlt {r:Rules} {p:Place} (h:Valid r p) (s:Nat):(qgK r p s).length≤6:=by
  unfold qgK;cases putOk r p (s:Int)
  · simp
  · rw[cond_true];refine Nat.le_trans (fm_len1 _ _ fun k=>?_) (by rw[qmC h];exact h.r0.t6)
    cases decide (handI p (k:Int)>0)<;>simp
theorem qbV {r:Rules} {p:Place} (h:Valid r p):p.1.length≤64:=by
  have:=h.cells;have:=h.r0.area;have h1:((p.1.length:Nat):Int)=r.width*r.height:=h.cells;omega
theorem puts_spec {r:Rules} {p:Place} (h:Valid r p):qkE r p=some ((List.range p.1.length).flatMap (qgK r p)):=by
  have hr:=h.r0;have:=hr.w8;have:=hr.h8;have:=hr.w1;have:=hr.h1;have ha:=hr.area;have hlen:((p.1.length:Nat):Int)=r.width*r.height:=h.cells;have h64:=qbV h
  have hh:(qcj p).length≤6:=by rw[qmC h];exact hr.t6
  unfold qkE;rw[qh3 (A:=Mv) p.1.length 6 (qeY p r) (qgK r p) (fun a=>((a,()),())) [] (fun i _=>qlt h i) (fun i hi a hal=>?_) (fun a=>?_)]
  · simp
  · unfold qeY
    have c1:decide ((i:Int)<((p.1.length:Nat):Int))=true:=by simp;omega
    have hat:=qcA (p:=p) (s:=(i:Int)) (by omega) (by show(i:Int)<((p.1.length:Nat):Int);omega);simp only[c1,cond_true,hat,Option.bind_some];have hf:=qsR h (s:=(i:Int)) (by omega) (by omega);have hfil:(i:Int)<r.width→qji r p (i:Int)=true:=fun hlt=>by
      unfold qji;rw[Int.tdiv_eq_ediv_of_nonneg (by omega),Int.ediv_eq_zero_of_lt (by omega) hlt];rfl
    rw[hf]
    have hg:∀b c:Bool,gopt b false (some c)=some (b&&c):=fun b c=>by cases b<;>rfl
    rw[hg,Option.bind_some];have hcond:((cellI p (i:Int)!=(0:Int))||((r.2.2.2.2.2.1&&(decide ((i:Int)≥r.2.1)))&&(!(((r.2.2.2.2.2.1&&(decide ((i:Int)≥r.2.1)))&&(!(cellI p (i:Int)!=(0:Int))))&&qji r p (i:Int))))) = !putOk r p (i:Int):=by
      unfold putOk;rw[show r.2.2.2.2.2.1=r.falls from rfl];by_cases hlt:(i:Int)<r.width
      · rw[hfil hlt,show decide ((i:Int)≥r.2.1)=false by simp;exact hlt];simp only[bne]
        cases (cellI p (i:Int)==0)<;>cases r.falls<;>rfl
      · rw[show decide ((i:Int)≥r.2.1)=true by simp;show r.width≤(i:Int);omega];simp only[bne]
        cases (cellI p (i:Int)==0)<;>cases r.falls<;>cases qji r p (i:Int)<;>rfl
    rw[hcond,qe (n:=(i:Int)+1) (by omega) (by omega)];unfold qgK
    cases hp:putOk r p (i:Int) with
    | false=>simp
    | true =>
      have hin:inb p.2.2.1 2=true:=inb_iff.2 (by have:=h.turn;show 0≤p.turn∧p.turn<((2:Nat):Int);omega);simp only[Bool.not_true,cond_false,cond_true,hin,qa]
      rw[qh3 (A:=Mv) (qcj p).length 1 (qfo p ((a,(i:Int),()),())) (fun k=>bif decide (handI p (k:Int)>0) then [((-1:Int),((i:Int),((k:Int),())))] else []) (fun a=>((a,()),())) a (fun k _=>by cases decide (handI p (k:Int)>0)<;>simp) (fun k hk a2 ha2=>?_) (fun a2=>?_)]
      · rfl
      · unfold qfo;have c2:decide ((k:Int)<(((getD' [p.2.1.1,p.2.1.2.1] (p.2.2.1).toNat []).length:Nat):Int))=true:=by
          have:k<(getD' [p.2.1.1,p.2.1.2.1] (p.2.2.1).toNat []).length:=hk;simp;exact this
        have hat2:=at_hand (p:=p) (k:=(k:Int)) (by omega) (by omega);simp only[c2,cond_true,hat2,Option.bind_some];rw[qe (n:=(k:Int)+1) (by omega) (by omega)];cases decide (handI p (k:Int)>0)
        · simp
        · have hroom:room (a2.length+[((-1:Int),((i:Int),((k:Int),())))].length) 24=true:=qae (by
            simp only[List.length_singleton,List.length_nil] at *;have:i*6≤64*6:=Nat.mul_le_mul_right _ (by omega)
            omega)
          simp only[cond_true,hroom,qa,Option.bind_some]
      · unfold qfo;have c2:decide ((((qcj p).length:Nat):Int)<(((getD' [p.2.1.1,p.2.1.2.1] (p.2.2.1).toNat []).length:Nat):Int))=false:=by
          show decide ((((qcj p).length:Nat):Int)<(((qcj p).length:Nat):Int))=false;simp
        simp only[c2,cond_false]
  · unfold qeY;simp

def lastB (r:Rules) (pl t:Int):Bool:=bif pl==0 then t.tdiv r.width==r.height-1 else t.tdiv r.width==0
theorem qoa {r:Rules} (hr:VR0 r) (pl:Int) {t:Int} (h0:0≤t) (h1:t<r.width*r.height):qeA r pl t=some (lastB r pl t):=by
  have:=hr.w8;have:=hr.h8;have:=hr.w1;have:=hr.h1;have hd:=qpy hr h0 h1;have hq:(r.2.1 !=0)=true:=bne_t (by show ¬r.width=0;omega);have w1:w64 (t.tdiv r.2.1)=t.tdiv r.width:=qe (by show _≤t.tdiv r.width;omega) (by show t.tdiv r.width≤_;omega);have w2:w64 (r.2.2.1-1)=r.height-1:=qe (by show _≤r.height-1;omega) (by show r.height-1≤_;omega);unfold qeA lastB;rw[hq,qa,qa,w1,w2];exact qbq _ _ _
def qah (r:Rules) (k:Int):Piece:=r.pieces.getD k.toNat (0,0,0,[],())
theorem qgB {r:Rules} {k:Int} (h0:0≤k) (h1:k<((r.pieces.length:Nat):Int)):at? r.2.2.2.1 k=some (qah r k)∧qah r k∈r.pieces:=by
  have h1':k<((r.2.2.2.1.length:Nat):Int):=h1;rw[at?_eq r.2.2.2.1 k h0 h1];unfold qah;rw[List.getD_eq_getElem?_getD,List.getElem?_eq_getElem (by show k.toNat<r.2.2.2.1.length;omega)];exact⟨rfl,List.getElem_mem _⟩
def qE (c:Int):Int:=(c-1).tdiv 2
theorem qcP {r:Rules} {p:Place} (h:Valid r p) {s:Int} (hm:cellI p s>0):w64 ((w64 (cellI p s-1)).tdiv 2)=qE (cellI p s)∧0≤qE (cellI p s)∧qE (cellI p s)<((r.pieces.length:Nat):Int):=by
  have hc:=qmF h s;have ht:=h.r0.t6;rw[qe (n:=cellI p s-1) (by omega) (by omega)];unfold qE;rw[Int.tdiv_eq_ediv_of_nonneg (by omega)];refine⟨qe (by omega) (by omega),by omega,by omega⟩
def becomes (r:Rules) (p:Place) (k t:Int):Int:=bif decide ((qah r k).2.2.1>0)&&lastB r p.turn t then(qah r k).2.2.1-1 else k
def goAt (r:Rules) (p:Place) (s:Nat):List Mv:=bif mineB p (cellI p (s:Int)) then(qah r (qE (cellI p (s:Int)))).2.2.2.1.flatMap (fun w=>(wayS r p (s:Int) w).map fun t=>((s:Int),(t,(becomes r p (qE (cellI p (s:Int))) t,())))) else []
theorem qkQ {A C:Type} (l:List C) (F:C→List A) (d:C):(List.range l.length).flatMap (fun i=>F (l.getD i d))=l.flatMap F:=by
  induction l with
  | nil=>rfl
  | cons x l ih =>
    rw[List.length_cons,List.range_succ_eq_map,List.flatMap_cons,List.flatMap_cons,List.flatMap_map]
    have e:(fun a=>F ((x::l).getD a.succ d))=fun i=>F (l.getD i d):=by funext i;simp
    rw[e,ih];rfl
theorem map_range {A C:Type} (l:List C) (F:C→A) (d:C):(List.range l.length).flatMap (fun i=>[F (l.getD i d)])=l.map F:=by
  rw[qkQ l (fun x=>[F x]) d]
  induction l with
  | nil=>rfl
  | cons x l ih=>rw[List.flatMap_cons,List.map_cons,ih];rfl
theorem qsP {r:Rules} {p:Place} {s:Int} {w:RWay} (hw:WayOk w):(wayS r p s w).length≤7:=by
  obtain⟨_,_,_,h4,_⟩:=hw;exact Nat.le_trans (qtL _ _ _ _ _ _) (by omega)
theorem qtt {r:Rules} {p:Place} (h:Valid r p) (s:Nat):(goAt r p s).length≤112:=by
  unfold goAt
  cases hm:mineB p (cellI p (s:Int)) with
  | false=>simp
  | true =>
    have hc:cellI p (s:Int)>0:=by unfold mineB at hm;simp at hm;exact hm.1
    have hk:=qcP h hc;have hmem:=(qgB (r:=r) hk.2.1 hk.2.2).2;rw[cond_true];refine Nat.le_trans (qbI _ 7 _ fun w hw=>?_) ?_
    · rw[List.length_map];exact qsP (h.wayOk hmem hw)
    · have:=h.r0.ways _ hmem;omega
def qdh (r:Rules) (p:Place):List Mv:=(List.range p.1.length).flatMap (qgK r p)++(List.range p.1.length).flatMap (goAt r p)
theorem list_raw {r:Rules} {p:Place} (h:Valid r p):iterW (qdx p r) (((List.range p.1.length).flatMap (qgK r p),(0:Int),()),())=some ((qdh r p,()),()):=by
  have hr:=h.r0;have:=hr.w8;have:=hr.h8;have:=hr.w1;have:=hr.h1;have ha:=hr.area;have hlen:((p.1.length:Nat):Int)=r.width*r.height:=h.cells;have h64:=qbV h;have hpl:((List.range p.1.length).flatMap (qgK r p)).length≤64*6:=by
    refine Nat.le_trans (qbI _ 6 _ fun i _=>qlt h i) ?_;rw[List.length_range];exact Nat.mul_le_mul_right _ h64
  unfold qdh;generalize (List.range p.1.length).flatMap (qgK r p)=pl at hpl;refine qh3 (A:=Mv) p.1.length 112 (qdx p r) (goAt r p) (fun a=>((a,()),())) pl (fun i _=>qtt h i) (fun i hi a hal=>?_) (fun a=>?_)
  · have hal2:a.length≤64*6+64*112:=by
      have:i*112≤64*112:=Nat.mul_le_mul_right _ (by omega);omega
    unfold qdx
    have c1:decide ((i:Int)<((p.1.length:Nat):Int))=true:=by simp;omega
    have hat:=qcA (p:=p) (s:=(i:Int)) (by omega) (by show(i:Int)<((p.1.length:Nat):Int);omega);have hc:=qkZ h (i:Int)
    have hi2:(i:Int)<r.width*r.height:=by omega
    simp only[c1,cond_true,hat,Option.bind_some,show ∀b,imp b true=true from fun b=>by cases b<;>rfl,qa]
    have hcond:((cellI p (i:Int)==(0:Int))||(((w64 (cellI p (i:Int)-(1:Int))).tmod (2:Int))!=p.2.2.1)) = !mineB p (cellI p (i:Int)):=by
      rw[qe (n:=cellI p (i:Int)-1) (by omega) (by omega)];unfold mineB;rw[show p.turn=p.2.2.1 from rfl];by_cases hz:cellI p (i:Int)=0
      · simp[hz]
      · rw[beq_f hz,show decide (cellI p (i:Int)>0)=true by simp;omega];simp[bne]
    rw[hcond,qe (n:=(i:Int)+1) (by omega) (by omega)];unfold goAt
    cases hm:mineB p (cellI p (i:Int)) with
    | false=>simp
    | true =>
      have hcp:cellI p (i:Int)>0:=by unfold mineB at hm;simp at hm;exact hm.1
      have hk:=qcP h hcp;obtain⟨hpa,hmem⟩:=qgB (r:=r) hk.2.1 hk.2.2;simp only[Bool.not_true,cond_false,hk.1,hpa,Option.bind_some,cond_true];generalize hK:qE (cellI p (i:Int))=K at *;have hways:=h.r0.ways _ hmem;have hWl:(qah r K).2.2.2.1.length≤16:=hways;rw[qh3 (A:=Mv) (qah r K).2.2.2.1.length 7 (qe5 (qah r K) r p ((a,(i:Int),()),()) (cellI p (i:Int))) (fun j=>(wayS r p (i:Int) ((qah r K).2.2.2.1.getD j (0,0,0,0,()))).map fun t=>((i:Int),(t,(becomes r p K t,())))) (fun a=>((a,()),())) a (fun j hj=>?_) (fun j hj a2 ha2=>?_) (fun a2=>?_)]
      · rw[qkQ (qah r K).2.2.2.1 (fun w=>(wayS r p (i:Int) w).map fun t=>((i:Int),(t,(becomes r p K t,())))) (0,0,0,0,())];rfl
      · rw[List.length_map,List.getD_eq_getElem?_getD,List.getElem?_eq_getElem hj];exact qsP (h.wayOk hmem (List.getElem_mem hj))
      · have ha22:a2.length≤64*6+64*112+112:=by
          have:j*7≤16*7:=Nat.mul_le_mul_right _ (by omega);omega
        unfold qe5
        have c2:decide ((j:Int)<(((qah r K).2.2.2.1.length:Nat):Int))=true:=by simp;omega
        have hatw:at? (qah r K).2.2.2.1 (j:Int)=some ((qah r K).2.2.2.1.getD j (0,0,0,0,())):=by
          rw[at?_eq _ _ (by omega) (by omega),List.getD_eq_getElem?_getD,List.getElem?_eq_getElem hj];rfl
        have hwm:(qah r K).2.2.2.1.getD j (0,0,0,0,())∈(qah r K).2.2.2.1:=by
          rw[List.getD_eq_getElem?_getD,List.getElem?_eq_getElem hj];exact List.getElem_mem hj
        have hwo:=h.wayOk hmem hwm;simp only[c2,cond_true,hatw,Option.bind_some];generalize (qah r K).2.2.2.1.getD j (0,0,0,0,())=w at *;rw[way_spec h hwo (by omega) hi2,Option.bind_some];have hwl:=qsP (r:=r) (p:=p) (s:=(i:Int)) hwo;have hwr:∀t∈wayS r p (i:Int) w,0≤t∧t<r.width*r.height:=fun t ht=>qnJ hr ht;generalize wayS r p (i:Int) w=T at *;rw[qh3 (A:=Mv) T.length 1 (qfB T r (cellI p (i:Int)) p ((a,(i:Int),()),())) (fun t=>[((i:Int),(T.getD t 0,(becomes r p K (T.getD t 0),())))]) (fun a=>((a,()),())) a2 (fun _ _=>by simp) (fun t ht a3 ha3=>?_) (fun a3=>?_)]
        · rw[map_range T (fun t=>((i:Int),(t,(becomes r p K t,())))) 0];simp only[Option.bind_some];rw[qe (n:=(j:Int)+1) (by omega) (by omega)]
        · unfold qfB
          have c3:decide ((t:Int)<((T.length:Nat):Int))=true:=by simp;omega
          have c4:inb (t:Int) T.length=true:=inb_iff.2 ⟨by omega,by omega⟩;have hg:getD' T t (0:Int)=T.getD t 0:=rfl;have htr:=hwr (T.getD t 0) (by rw[List.getD_eq_getElem?_getD,List.getElem?_eq_getElem ht];exact List.getElem_mem ht);simp only[c3,cond_true,c4,qa,hk.1,hpa,Option.bind_some,Int.toNat_natCast,hg];generalize T.getD t 0=tt at *;rw[qoa hr p.2.2.1 htr.1 htr.2];have hpr:=h.r0.prom _ hmem;have ht6:=h.r0.t6
          have hgo:∀b c:Bool,gopt b false (some c)=some (b&&c):=fun b c=>by cases b<;>rfl
          rw[hgo,Option.bind_some,qe (n:=(qah r K).2.2.1-1) (by omega) (by omega),qe (n:=(t:Int)+1) (by omega) (by omega)];unfold becomes;rw[show p.turn=p.2.2.1 from rfl];have hroom:room (a3.length+1) 24=true:=qae (by omega)
          cases decide ((qah r K).2.2.1>0)<;>cases lastB r p.2.2.1 tt<;>simp[hroom,qa]
        · unfold qfB;simp
      · unfold qe5;simp
  · unfold qdx;simp
theorem raw_len {r:Rules} {p:Place} (h:Valid r p):(qdh r p).length≤10000:=by
  have h64:=qbV h;unfold qdh;rw[List.length_append];have h1:((List.range p.1.length).flatMap (qgK r p)).length≤64*6:=by
    refine Nat.le_trans (qbI _ 6 _ fun i _=>qlt h i) ?_;rw[List.length_range];exact Nat.mul_le_mul_right _ h64
  have h2:((List.range p.1.length).flatMap (goAt r p)).length≤64*112:=by
    refine Nat.le_trans (qbI _ 112 _ fun i _=>qtt h i) ?_;rw[List.length_range];exact Nat.mul_le_mul_right _ h64
  omega
theorem list_dd {r:Rules} {p:Place} (h:Valid r p):qaE r p=some (dd (qbu (qdh r p))):=by
  unfold qaE;rw[puts_spec h,Option.bind_some,list_raw h,Option.bind_some];have hl:=raw_len h;have hb:Nat.blt (qdh r p).length 4611686018427387904=true:=by
    rw[Nat.blt_eq];omega
  simp only[hb,qa];have hs:=sort_len (qdh r p);generalize qbu (qdh r p)=xs at hs;by_cases h2:xs.length<2
  · have c:decide (((xs.length:Nat):Int)<2)=true:=by simp;omega
    rw[c,cond_true];have:dd xs=xs:=by
      match xs,h2 with
      | [],_=>rfl
      | [x],_=>rfl
    rw[this];rfl
  · have c:decide (((xs.length:Nat):Int)<2)=false:=by simp;omega
    rw[c,cond_false,compact4 xs (by omega) (by omega)];rfl

def mvOk (r:Rules) (p:Place) (m:Mv):Bool:=decide ((-1≤m.1∧m.1<((p.1.length:Nat):Int))∧(0≤m.2.1∧m.2.1<((p.1.length:Nat):Int))∧(0≤m.2.2.1∧m.2.2.1<((r.pieces.length:Nat):Int)))
def goOk (r:Rules) (p:Place) (m:Mv):Bool:=mineB p (cellI p m.1)&&((becomes r p (qE (cellI p m.1)) m.2.1==m.2.2.1)&&(qah r (qE (cellI p m.1))).2.2.2.1.any (fun w=>decide (m.2.1∈wayS r p m.1 w)))
def qh (r:Rules) (p:Place) (m:Mv):Bool:=mvOk r p m&&(bif m.1 == -1 then decide (handI p m.2.2.1>0)&&putOk r p m.2.1 else goOk r p m)
def at3 (r:Rules) (p:Place) (i j k:Nat):List Mv:=bif qh r p ((i:Int)-1,((j:Int),((k:Int),()))) then [((i:Int)-1,((j:Int),((k:Int),())))] else []
def at2 (r:Rules) (p:Place) (i j:Nat):List Mv:=(List.range r.2.2.2.1.length).flatMap (at3 r p i j)
def at1 (r:Rules) (p:Place) (i:Nat):List Mv:=(List.range p.1.length).flatMap (at2 r p i)
def qag (r:Rules) (p:Place):List Mv:=(List.range (p.1.length+1)).flatMap (at1 r p)
theorem at3_len (r:Rules) (p:Place) (i j k:Nat):(at3 r p i j k).length≤1:=by unfold at3;cases qh r p ((i:Int)-1,((j:Int),((k:Int),())))<;>simp
theorem at2_len {r:Rules} {p:Place} (h:Valid r p) (i j:Nat):(at2 r p i j).length≤6:=Nat.le_trans (fm_len1 _ _ (at3_len r p i j)) h.r0.t6
theorem at1_len {r:Rules} {p:Place} (h:Valid r p) (i:Nat):(at1 r p i).length≤384:=by
  refine Nat.le_trans (qbI _ 6 _ fun j _=>at2_len h i j) ?_;have:=qbV h;rw[List.length_range];omega
theorem qqd (n:Nat) (F:Nat→List Mv) (h1:∀i,i<n→(F i).Pairwise (fun x y=>mvLt x y=true)) (h2:∀i j,i<j→∀x∈F i,∀y∈F j,mvLt x y=true):((List.range n).flatMap F).Pairwise (fun x y=>mvLt x y=true):=by
  rw[List.pairwise_flatMap];exact⟨fun i hi=>h1 i (List.mem_range.1 hi),List.pairwise_lt_range.imp fun hij=>h2 _ _ hij⟩
theorem qsS {r:Rules} {p:Place} {i j k:Nat} {x:Mv} (h:x∈at3 r p i j k):x=((i:Int)-1,((j:Int),((k:Int),())))∧qh r p x=true:=by
  unfold at3 at h
  cases hb:qh r p ((i:Int)-1,((j:Int),((k:Int),()))) with
  | false=>simp[hb] at h
  | true =>
    rw[hb,cond_true,List.mem_singleton] at h;rw[h];exact⟨rfl,hb⟩
theorem qsE {r:Rules} {p:Place} {i j:Nat} {x:Mv} (h:x∈at2 r p i j):x.1=(i:Int)-1∧x.2.1=(j:Int)∧qh r p x=true:=by
  obtain⟨k,_,hk⟩:=List.mem_flatMap.1 h;obtain⟨e,h2⟩:=qsS hk;refine⟨by rw[e],by rw[e],h2⟩
theorem qsh {r:Rules} {p:Place} {i:Nat} {x:Mv} (h:x∈at1 r p i):x.1=(i:Int)-1∧qh r p x=true:=by
  obtain⟨j,_,hj⟩:=List.mem_flatMap.1 h;obtain⟨h1,_,h3⟩:=qsE hj;exact⟨h1,h3⟩
theorem qaS {r:Rules} {p:Place} (x:Mv):x∈qag r p↔qh r p x=true:=by
  constructor
  · intro h;obtain⟨i,_,hi⟩:=List.mem_flatMap.1 h;exact(qsh hi).2
  · intro h
    have hok:mvOk r p x=true:=by unfold qh at h;simp only[Bool.and_eq_true] at h;exact h.1
    unfold mvOk at hok;rw[decide_eq_true_eq] at hok;obtain⟨⟨a1,a2⟩,⟨b1,b2⟩,c1,c2⟩:=hok;have c2':x.2.2.1<((r.2.2.2.1.length:Nat):Int):=c2;have e:(((((x.1+1).toNat:Nat):Int)-1,(((x.2.1.toNat:Nat):Int),(((x.2.2.1.toNat:Nat):Int),()))):Mv)=x:=mv_eq (by show(((x.1+1).toNat:Nat):Int)-1=x.1;omega) (by show((x.2.1.toNat:Nat):Int)=x.2.1;omega) (by show((x.2.2.1.toNat:Nat):Int)=x.2.2.1;omega);refine List.mem_flatMap.2 ⟨(x.1+1).toNat,List.mem_range.2 (by omega),List.mem_flatMap.2 ⟨x.2.1.toNat,List.mem_range.2 (by omega),List.mem_flatMap.2 ⟨x.2.2.1.toNat,List.mem_range.2 (by omega),?_⟩⟩⟩;unfold at3;rw[e,h,cond_true,List.mem_singleton]
theorem quG (r:Rules) (p:Place):(qag r p).Pairwise (fun x y=>mvLt x y=true):=by
  refine qqd _ _ (fun i _=>qqd _ _ (fun j _=>qqd _ _ (fun k _=>?_) fun k k' hk x hx y hy=>?_) fun j j' hj x hx y hy=>?_) fun i i' hi x hx y hy=>?_
  · unfold at3
    cases qh r p ((i:Int)-1,((j:Int),((k:Int),())))<;>simp
  · obtain⟨ex,_⟩:=qsS hx;obtain⟨ey,_⟩:=qsS hy
    have e1:x.1=(i:Int)-1:=by rw[ex]
    have e2:x.2.1=(j:Int):=by rw[ex]
    have e3:x.2.2.1=(k:Int):=by rw[ex]
    have f1:y.1=(i:Int)-1:=by rw[ey]
    have f2:y.2.1=(j:Int):=by rw[ey]
    have f3:y.2.2.1=(k':Int):=by rw[ey]
    rw[qmI];omega
  · obtain⟨e1,e2,_⟩:=qsE hx;obtain⟨f1,f2,_⟩:=qsE hy;rw[qmI];omega
  · obtain⟨e1,_⟩:=qsh hx;obtain⟨f1,_⟩:=qsh hy;rw[qmI];omega
theorem raw_mem {r:Rules} {p:Place} (h:Valid r p) (x:Mv):x∈qdh r p↔qh r p x=true:=by
  have hr:=h.r0;have hlen:((p.1.length:Nat):Int)=r.width*r.height:=h.cells;have hh:=qmC h;unfold qdh;rw[List.mem_append];constructor
  · rintro (hx | hx)
    · obtain⟨s,hs,hx⟩:=List.mem_flatMap.1 hx;rw[List.mem_range] at hs;unfold qgK at hx
      cases hp:putOk r p (s:Int) with
      | false=>simp[hp] at hx
      | true =>
        rw[hp,cond_true] at hx;obtain⟨k,hk,hx⟩:=List.mem_flatMap.1 hx;rw[List.mem_range] at hk
        cases hd:decide (handI p (k:Int)>0) with
        | false=>simp[hd] at hx
        | true =>
          rw[hd,cond_true,List.mem_singleton] at hx;have hok:mvOk r p x=true:=by
            unfold mvOk;rw[decide_eq_true_eq,hx];simp only;omega
          unfold qh;rw[hok,Bool.true_and,hx];simp only[beq_t rfl,cond_true,hd,hp,Bool.and_self]
    · obtain⟨s,hs,hx⟩:=List.mem_flatMap.1 hx;rw[List.mem_range] at hs;unfold goAt at hx
      cases hm:mineB p (cellI p (s:Int)) with
      | false=>simp[hm] at hx
      | true =>
        have hcp:cellI p (s:Int)>0:=by unfold mineB at hm;simp at hm;exact hm.1
        have hk:=qcP h hcp;obtain⟨hpa,hmem⟩:=qgB (r:=r) hk.2.1 hk.2.2;rw[hm,cond_true] at hx;obtain⟨w,hw,hx⟩:=List.mem_flatMap.1 hx;obtain⟨t,ht,hx⟩:=List.mem_map.1 hx;have htr:0≤t∧t<r.width*r.height:=qnJ hr ht;have hpr:=hr.prom _ hmem;have hbr:0≤becomes r p (qE (cellI p (s:Int))) t∧becomes r p (qE (cellI p (s:Int))) t<((r.pieces.length:Nat):Int):=by
          unfold becomes
          cases hb:(decide ((qah r (qE (cellI p (s:Int)))).2.2.1>0)&&lastB r p.turn t) with
          | false=>exact hk.2
          | true =>
            simp only[Bool.and_eq_true,decide_eq_true_eq] at hb;rw[cond_true];omega
        have hok:mvOk r p x=true:=by
          unfold mvOk;rw[decide_eq_true_eq,←hx];simp only;omega
        unfold qh goOk;rw[hok,Bool.true_and,←hx];simp only;rw[beq_f (by omega),cond_false,hm,Bool.true_and,beq_t rfl,Bool.true_and,List.any_eq_true];exact⟨w,hw,by simpa using ht⟩
  · intro hx;unfold qh at hx;rw[Bool.and_eq_true] at hx;obtain⟨hok,hx⟩:=hx;unfold mvOk at hok;rw[decide_eq_true_eq] at hok;obtain⟨⟨a1,a2⟩,⟨b1,b2⟩,c1,c2⟩:=hok;by_cases hm:x.1 = -1
    · rw[beq_t hm,cond_true,Bool.and_eq_true] at hx;left
      have e1:((x.2.1.toNat:Nat):Int)=x.2.1:=by omega
      have e2:((x.2.2.1.toNat:Nat):Int)=x.2.2.1:=by omega
      refine List.mem_flatMap.2 ⟨x.2.1.toNat,List.mem_range.2 (by omega),?_⟩;unfold qgK;rw[e1,hx.2,cond_true];refine List.mem_flatMap.2 ⟨x.2.2.1.toNat,List.mem_range.2 (by omega),?_⟩;rw[e2,hx.1,cond_true,List.mem_singleton];exact mv_eq hm rfl rfl
    · rw[beq_f hm,cond_false] at hx;unfold goOk at hx;simp only[Bool.and_eq_true,beq_iff_eq,List.any_eq_true,decide_eq_true_eq] at hx;obtain⟨h1,h2,w,hw,ht⟩:=hx;right
      have e1:((x.1.toNat:Nat):Int)=x.1:=by omega
      refine List.mem_flatMap.2 ⟨x.1.toNat,List.mem_range.2 (by omega),?_⟩;unfold goAt;rw[e1,h1,cond_true];refine List.mem_flatMap.2 ⟨w,hw,List.mem_map.2 ⟨x.2.1,ht,?_⟩⟩;exact mv_eq rfl rfl h2
theorem qj9 {r:Rules} {p:Place} (h:Valid r p):qaE r p=some (qag r p):=by
  rw[list_dd h];congr 1;refine qrh (dd_lt (sort_pw _)) (quG r p) fun z=>?_;rw[dd_mem,sort_mem,raw_mem h,qaS]

def own (r:Rules) (p:Place) (pl x y:Int):Bool:=onB r x y&&(decide (cellI p (sq r x y)>0)&&((cellI p (sq r x y)-1).tmod 2==pl))
def runB (r:Rules) (p:Place) (pl:Int) (n:Nat) (x y dx dy:Int):Bool:=(List.range n).all fun i=>own r p pl (x+(i:Int)*dx) (y+(i:Int)*dy)
theorem runB_cons (r:Rules) (p:Place) (pl:Int) (n:Nat) (x y dx dy:Int):runB r p pl (n+1) x y dx dy=(own r p pl x y&&runB r p pl n (x+dx) (y+dy) dx dy):=by
  unfold runB;rw[List.range_succ_eq_map,List.all_cons,List.all_map];have e:((fun i:Nat=>own r p pl (x+(i:Int)*dx) (y+(i:Int)*dy))∘Nat.succ)=fun i:Nat=>own r p pl (x+dx+(i:Int)*dx) (y+dy+(i:Int)*dy):=by
    funext i;simp only[Function.comp]
    have e1:x+((i.succ:Nat):Int)*dx=x+dx+(i:Int)*dx:=by rw[show((i.succ:Nat):Int)=(i:Int)+1 by omega,Int.add_mul];omega
    have e2:y+((i.succ:Nat):Int)*dy=y+dy+(i:Int)*dy:=by rw[show((i.succ:Nat):Int)=(i:Int)+1 by omega,Int.add_mul];omega
    rw[e1,e2]
  rw[e];simp
theorem own_on {r:Rules} {p:Place} {pl x y:Int} (h:own r p pl x y=true):onB r x y=true:=by unfold own at h;rw[Bool.and_eq_true] at h;exact h.1
abbrev dX (d:Nat):Int:=getD' [(1:Int),(0:Int),(1:Int),(1:Int)] d 0
abbrev dY (d:Nat):Int:=getD' [(0:Int),(1:Int),(1:Int),(-1:Int)] d 0
def lineB (r:Rules) (p:Place) (pl c:Int):Bool:=(List.range p.1.length).any fun s=>(List.range 4).any fun d=>runB r p pl c.toNat ((s:Int).tmod r.width) ((s:Int).tdiv r.width) (dX d) (dY d)
theorem dX_rng (d:Nat) : -1≤dX d∧dX d≤1:=by
  match d with
  | 0=>decide
  | 1=>decide
  | 2=>decide
  | 3=>decide
  | n+4=>simp[dX,getD']
theorem dY_rng (d:Nat) : -1≤dY d∧dY d≤1:=by
  match d with
  | 0=>decide
  | 1=>decide
  | 2=>decide
  | 3=>decide
  | n+4=>simp[dY,getD']
theorem line3 {r:Rules} {p:Place} (h:Valid r p) {pl c:Int} (d:Nat) (hc:c≤64):∀(m:Nat) (x y n:Int),0≤n→n+m=c→(-1≤x∧x≤8)→(-1≤y∧y≤8) →
    ∃n',iterW (qew c r p pl (((d:Int),()),())) ((x,y,n,()),())=some ((n',()),())∧(n'==c)=runB r p pl m x y (dX d) (dY d)
  | 0,x,y,n,h0,hn,hx,hy=>by
    refine⟨n,qg ?_,?_⟩
    · unfold qew
      have:decide (n<c)=false:=by simp;omega
      simp only[this,cond_false,Option.bind_some]
    · rw[beq_t (by omega)];rfl
  | m+1,x,y,n,h0,hn,hx,hy=>by
    have hr:=h.r0;have:=hr.w8;have:=hr.h8;have:=hr.w1;have:=hr.h1;have ha:=hr.area
    have hlt:decide (n<c)=true:=by simp;omega
    have hoff:((((decide (x<(0:Int)))||(decide (x≥r.2.1)))||(decide (y<(0:Int))))||(decide (y≥r.2.2.1))) = !onB r x y:=by
      rw[Bool.eq_iff_iff];simp only[Bool.or_eq_true,decide_eq_true_eq,Bool.not_eq_true',onB,decide_eq_false_iff_not];show((x<0∨x≥r.width)∨y<0)∨y≥r.height↔_;omega
    have hown:(bif (decide (n<c)) then(bif ((((decide (x<(0:Int)))||(decide (x≥r.2.1)))||(decide (y<(0:Int))))||(decide (y≥r.2.2.1))) then some ((false,()),())
        else Option.bind (at? p.1 (w64 ((w64 (y*r.2.1))+x))) fun d4 =>
        req (imp (decide (d4>(0:Int))) true) (some ((((decide (d4>(0:Int)))&&(((w64 (d4-(1:Int))).tmod (2:Int))==pl)),()),())))
        else some ((false,()),()))=some ((own r p pl x y,()),()):=by
      rw[hlt,cond_true,hoff];unfold own
      cases hb:onB r x y with
      | false=>rfl
      | true =>
        have hs:=quj hr hb;obtain⟨b1,b2,b3,b4⟩:=onB_iff.1 hb;have hmul:=qpL (show 0≤r.width by omega) b3 b4;have w1:w64 (y*r.2.1)=y*r.2.1:=qe (by show _≤y*r.width;omega) (by show y*r.width≤_;omega);have w2:w64 (y*r.2.1+x)=sq r x y:=qe (by show _≤sq r x y;omega) (by show sq r x y≤_;omega);have hcs:=qkZ h (sq r x y);rw[w1,w2,qcA (p:=p) hs.1 (by rw[h.cells];exact hs.2)]
        simp only[Bool.not_true,cond_false,Option.bind_some,show ∀b,imp b true=true from fun b=>by cases b<;>rfl,qa,Bool.true_and]
        rw[qe (n:=cellI p (sq r x y)-1) (by omega) (by omega)]
    rw[runB_cons]
    cases ho:own r p pl x y with
    | false =>
      refine⟨n,qg ?_,?_⟩
      · unfold qew;rw[hown,ho];rfl
      · rw[beq_f (by omega)];rfl
    | true =>
      obtain⟨b1,b2,b3,b4⟩:=onB_iff.1 (own_on ho);have r1:=dX_rng d;have r2:=dY_rng d;obtain⟨n',e1,e2⟩:=line3 h (pl:=pl) d hc m (x+dX d) (y+dY d) (n+1) (by omega) (by omega) (by omega) (by omega);refine⟨n',?_,by rw[e2];simp⟩
      rw[qn (y:=((x+dX d,y+dY d,n+1,()),())) (by
        unfold qew;rw[hown,ho];simp only[Option.bind_some,cond_true,Int.toNat_natCast]
        rw[qe (n:=x+dX d) (by omega) (by omega),qe (n:=y+dY d) (by omega) (by omega),qe (n:=n+1) (by omega) (by omega)])]
      exact e1
theorem line_spec {r:Rules} {p:Place} (h:Valid r p) (pl:Int) {c:Int} (hc1:1≤c) (hc:c≤64):qmr r p pl c=some (lineB r p pl c):=by
  have hr:=h.r0;have:=hr.w8;have:=hr.h8;have:=hr.w1;have:=hr.h1;have ha:=hr.area;have hlen:((p.1.length:Nat):Int)=r.width*r.height:=h.cells;have hq:(r.2.1 !=0)=true:=bne_t (by show ¬r.width=0;omega);unfold qmr
  have hL:=qY (List.range p.1.length) (fun s=>(List.range 4).any fun d=>runB r p pl c.toNat ((s:Int).tmod r.width) ((s:Int).tdiv r.width) (dX d) (dY d)) (qgj p r c pl) (.inr true) (.inl ((),())) (fun s hs=>by
    have hs':s<p.1.length:=by simpa using hs
    have hdv:=qpy hr (show(0:Int)≤(s:Int) by omega) (show(s:Int)<r.width*r.height by omega)
    have hL2:=qY (List.range 4) (fun d=>runB r p pl c.toNat ((s:Int).tmod r.width) ((s:Int).tdiv r.width) (dX d) (dY d)) (qgD r c p pl (((s:Int),()),())) (.inr (.inr (.inr (.inr true)))) (.inl ((),())) (fun d hd=>by
      have hd':d<4:=by simpa using hd
      have w1:w64 ((s:Int).tdiv r.2.1)=(s:Int).tdiv r.width:=qe (by show _≤(s:Int).tdiv r.width;omega) (by show(s:Int).tdiv r.width≤_;omega);obtain⟨n',e1,e2⟩:=line3 h (pl:=pl) (c:=c) d hc c.toNat ((s:Int).tmod r.width) ((s:Int).tdiv r.width) 0 (by omega) (by omega) (by omega) (by omega);unfold qgD;simp only[show decide ((d:Int)<4)=true by simp;omega,cond_true,show inb (d:Int) 4=true from inb_iff.2 ⟨by omega,by omega⟩,qa,hq,w1];rw[show((s:Int).tmod r.2.1)=(s:Int).tmod r.width from rfl,e1,Option.bind_some];simp only[List.getElem_range];rw[←e2,qe (n:=(d:Int)+1) (by omega) (by omega)]
      cases (n'==c)<;>rfl) (by
      unfold qgD
      rfl)
    unfold qgj;simp only[show decide ((s:Int)<((p.1.length:Nat):Int))=true by simp;omega,cond_true,List.getElem_range];rw[hL2,qe (n:=(s:Int)+1) (by omega) (by omega)]
    cases (List.range 4).any (fun d=>runB r p pl c.toNat ((s:Int).tmod r.width) ((s:Int).tdiv r.width) (dX d) (dY d))<;>rfl) (by
    unfold qgj
    simp)
  rw[hL];unfold lineB
  cases (List.range p.1.length).any (fun s=>(List.range 4).any fun d=>runB r p pl c.toNat ((s:Int).tmod r.width) ((s:Int).tdiv r.width) (dX d) (dY d))<;>rfl

def reachB (r:Rules) (p:Place) (x:End) (mover:Int):Bool:=(List.range p.1.length).any fun s=>(cellI p (s:Int)==2*x.2.1+mover+1)&&lastB r mover (s:Int)
def fewOf (p:Place) (x:End) (mover:Int):Int:=((p.1.countP (fun c=>c==2*x.2.1+1-mover+1):Nat):Int)
def metB (r:Rules) (p:Place) (x:End) (mover:Int):Bool:=bif x.1==0 then lineB r p mover x.2.2.1 else bif x.1==1 then reachB r p x mover else decide (fewOf p x mover<x.2.2.1)
structure EndOk (r:Rules) (x:End):Prop where
  kind:0≤x.1∧x.1≤2
  cnt:x.1=0→1≤x.2.2.1∧x.2.2.1≤64
  pc:0≤x.2.1∧x.2.1≤6
theorem Valid.endOk {r:Rules} {p:Place} (h:Valid r p) {x:End} (hx:x∈r.ends):EndOk r x:=by
  obtain⟨h1,h2,h3⟩:=h.r0.ends x hx;have ht:=h.r0.t6;refine⟨h1,fun e=>?_,?_⟩
  · rw[if_neg (by omega)] at h2;exact h2
  · split at h3<;>omega
theorem cell_get (p:Place) (i:Nat) (hi:i<p.1.length):cellI p (i:Int)=p.1[i]:=by
  unfold cellI;rw[List.getD_eq_getElem?_getD,Int.toNat_natCast];simp[hi]
theorem qvh {r:Rules} {p:Place} (h:Valid r p) {x:End} (hx:EndOk r x) {mover:Int} (hm:mover=0∨mover=1):qjG r p x mover=some (metB r p x mover):=by
  have hr:=h.r0;have ha:=hr.area;have h64:=qbV h;have hlen:((p.1.length:Nat):Int)=r.width*r.height:=h.cells;have hp:=hx.pc;unfold qjG metB;by_cases k0:x.1=0
  · rw[beq_t k0,cond_true,cond_true,line_spec h mover (hx.cnt k0).1 (hx.cnt k0).2];rfl
  · rw[beq_f k0,cond_false,cond_false];by_cases k1:x.1=1
    · rw[beq_t k1,cond_true,cond_true]
      have hL:=qY (List.range p.1.length) (fun s=>(cellI p (s:Int)==2*x.2.1+mover+1)&&lastB r mover (s:Int)) (qff p x mover r) (.inr (.inr true)) (.inl ((),())) (fun s hs=>by
        have hs':s<p.1.length:=by simpa using hs
        unfold qff;simp only[show decide ((s:Int)<((p.1.length:Nat):Int))=true by simp;omega,cond_true,List.getElem_range];rw[qcA (p:=p) (s:=(s:Int)) (by omega) (by show(s:Int)<((p.1.length:Nat):Int);omega),Option.bind_some,qoa hr mover (by omega) (by omega)];rw[qe (n:=2*x.2.1) (by omega) (by omega),qe (n:=2*x.2.1+mover) (by omega) (by omega),qe (n:=2*x.2.1+mover+1) (by omega) (by omega),qe (n:=(s:Int)+1) (by omega) (by omega)]
        cases (cellI p (s:Int)==2*x.2.1+mover+1)<;>cases lastB r mover (s:Int)<;>rfl) (by
        unfold qff
        simp)
      rw[hL];unfold reachB
      cases (List.range p.1.length).any (fun s=>(cellI p (s:Int)==2*x.2.1+mover+1)&&lastB r mover (s:Int))<;>rfl
    · rw[beq_f k1,cond_false,cond_false,Option.bind_some,Sum.elim_inl]
      have hL:=qlm p.1 (fun c=>c==2*x.2.1+1-mover+1) (qfC p x mover) (fun c=>((c,()),())) (fun i hi c c0 ci=>by
        unfold qfC;simp only[show decide ((i:Int)<((p.1.length:Nat):Int))=true by simp;omega,cond_true];rw[qcA (p:=p) (s:=(i:Int)) (by omega) (by show(i:Int)<((p.1.length:Nat):Int);omega),Option.bind_some,cell_get p i hi];rw[qe (n:=2*x.2.1) (by omega) (by omega),qe (n:=2*x.2.1+1) (by omega) (by omega),qe (n:=2*x.2.1+1-mover) (by omega) (by omega),qe (n:=2*x.2.1+1-mover+1) (by omega) (by omega),qe (n:=(i:Int)+1) (by omega) (by omega),qe (n:=c+1) (by omega) (by omega)];cases (p.1[i]==2*x.2.1+1-mover+1)<;>rfl) (fun c=>by
        unfold qfC
        simp)
      rw[hL];rfl
def endE (r:Rules) (p:Place) (i:Nat):Option (((Unit)×(Unit)) ⊕ Int):=match r.2.2.2.2.2.2.2.1[i]? with
  | some x=>bif metB r p x (1-p.turn) then some (.inr (bif x.2.2.2.1 then 1+p.turn else 1+(1-p.turn))) else none
  | none=>none
def qtZ (r:Rules) (p:Place):Int:=bif r.blocked==0 then 1+(1-p.turn) else bif r.blocked==1 then 1+p.turn else 3
def qaJ (r:Rules) (p:Place):Int:=match scan (endE r p) (.inl ((),())) 0 r.2.2.2.2.2.2.2.1.length with
  | .inl _=>bif (r.quiet !=0)&&decide (p.quiet≥r.quiet) then 3 else bif decide ((((qag r p).length:Nat):Int)>0) then 0 else qtZ r p
  | .inr v=>v
theorem turn_w {r:Rules} {p:Place} (h:Valid r p):w64 ((1:Int)-p.2.2.1)=1-p.turn∧w64 ((1:Int)+p.2.2.1)=1+p.turn∧w64 (1+(1-p.turn))=1+(1-p.turn)∧w64 (1+p.turn)=1+p.turn:=by
  have ht:=h.turn;refine⟨qe (by show _≤1-p.turn;omega) (by show 1-p.turn≤_;omega),qe (by show _≤1+p.turn;omega) (by show 1+p.turn≤_;omega),qe (by omega) (by omega),qe (by omega) (by omega)⟩
theorem qjq {r:Rules} {p:Place} (h:Valid r p):qc6 r p=some (qaJ r p):=by
  have ht:=h.turn;obtain⟨t1,t2,t3,t4⟩:=turn_w h;have h6:r.2.2.2.2.2.2.2.1.length≤6:=h.r0.ends6;unfold qc6 qaJ
  have hL:=qo0 r.2.2.2.2.2.2.2.1.length (qd9 r p) (endE r p) (.inl ((),())) (fun i hi=>by
    unfold qd9 endE;rw[List.getElem?_eq_getElem hi];simp only[show decide ((i:Int)<((r.2.2.2.2.2.2.2.1.length:Nat):Int))=true by simp;omega,cond_true];rw[at?_eq r.2.2.2.2.2.2.2.1 (i:Int) (by omega) (by omega),Option.bind_some,t1];simp only[Int.toNat_natCast];rw[qvh h (h.endOk (List.getElem_mem hi)) (by omega),Option.bind_some];cases metB r p r.2.2.2.2.2.2.2.1[i] (1-p.turn)
    · simp only[cond_false];rw[qe (n:=(i:Int)+1) (by omega) (by omega)];rfl
    · simp only[cond_true,show decide ((i:Int)≥0)=true by simp,Option.bind_some];unfold qcM;rw[t3,show p.2.2.1=p.turn from rfl,t4]
      cases (r.2.2.2.2.2.2.2.1[i]).2.2.2.1<;>rfl) (by
    unfold qd9
    simp)
  rw[hL,Option.bind_some]
  cases scan (endE r p) (.inl ((),())) 0 r.2.2.2.2.2.2.2.1.length with
  | inr v=>rfl
  | inl u =>
    simp only[Sum.elim_inl];rw[show((r.2.2.2.2.2.2.2.2.2.1 !=(0:Int))&&(decide (p.2.2.2.1≥r.2.2.2.2.2.2.2.2.2.1)))=((r.quiet !=0)&&decide (p.quiet≥r.quiet)) from rfl];cases ((r.quiet !=0)&&decide (p.quiet≥r.quiet))
    · rw[cond_false,cond_false,qj9 h,Option.bind_some];cases decide ((((qag r p).length:Nat):Int)>0)
      · rw[cond_false,cond_false,t1];unfold qtZ qcM;rw[t3,show p.2.2.1=p.turn from rfl,t4,show r.2.2.2.2.2.2.2.2.1=r.blocked from rfl]
        cases (r.blocked==0)<;>cases (r.blocked==1)<;>rfl
      · rfl
    · rfl
end Go.Proofs.YthidcmjpbokeeaaGreatDoor
