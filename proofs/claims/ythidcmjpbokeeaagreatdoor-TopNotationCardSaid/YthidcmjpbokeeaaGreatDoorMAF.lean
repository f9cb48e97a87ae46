/- Several texts in one: MatchS, TextS, RecordS, HtenS, TopNotationS, DenS, DenP, DenW, DenQ, DenL, TopNotationM, RulesCore, CoreV, CoreM, CoreP. -/
import Derived.Test.YthidcmjpbokeeaaGreatDoorMAA
import Derived.Test.YthidcmjpbokeeaaGreatDoorMAE
import Derived.Shelf.SlSortCmp.NoneTotal
import Derived.Shelf.Strings.Builder1
import Derived.Laws.Strings
namespace Go.Proofs.YthidcmjpbokeeaaGreatDoor
open Go.Den
set_option linter.unusedVariables false
set_option maxRecDepth 100000
noncomputable section
def qc1 (e:Int×Int×Int×Int×Zv71×Unit) (x2:Zv60×(Unit)):Option ((Zv60×(Unit)) ⊕ (((List ByteArray)×Unit)×(Unit))) :=
 bif (decide (x2.1.2.1<7)) then(req (inb x2.1.2.1 7) (Option.bind (itoaS (getD' [e.1,e.2.1,e.2.2.1,e.2.2.2.1,e.2.2.2.2.1.1,e.2.2.2.2.1.2.1,e.2.2.2.2.1.2.2.1] (x2.1.2.1).toNat 0)) fun r3 =>
 req (room (x2.1.1.length+([r3]).length) 16) (some (Sum.inl (((x2.1.1++[r3]),(w64 (x2.1.2.1+1)),()),())))))
 else some (Sum.inr ((x2.1.1,()),()))
def qjT (e:Int×Int×Int×Int×Zv71×Unit):Option (ByteArray) :=
 Option.bind (iterW (qc1 e) ((([]:List ByteArray),(0:Int),()),())) fun x4 =>
 Option.bind (joinS x4.1.1 (ByteArray.mk #[32])) fun r5 =>
 some r5
def qhA (n:Int) (low:Int) (high:Int):Option (Bool) :=
 some ((decide (n≥low))&&(decide (n≤high)))
def qg (n:Int) (low:Int) (high:Int):Bool :=
 ((decide (n≥low))&&(decide (n≤high)))
theorem qqx (n:Int) (low:Int) (high:Int):qhA n low high=some (qg n low high):=by
 unfold qhA qg
 first | rfl | simp only[qba]
def qe0 (r:Zv69×Int×Int×Unit) (x1:Zv78×(Unit)):Option (Zv73 ⊕ (Zv77 ⊕ Int)) :=
 bif (decide (x1.1.1<((r.1.length:Nat):Int))) then(Option.bind (at? r.1 x1.1.1) fun d2 =>
 bif ((!(qg d2.1 (0:Int) (400:Int)))||(!(qg d2.2.1 (1:Int) (100000000:Int)))) then some (Sum.inr (Sum.inr (4:Int)))
 else bif (!((d2.1==0)==(x1.1.1==(w64 (((r.1.length:Nat):Int)-1))))) then some (Sum.inr (Sum.inr (3:Int)))
 else some (Sum.inl (((w64 (x1.1.1+1)),()),())))
 else some (Sum.inr (Sum.inl ((),())))
def qho (r:Zv69×Int×Int×Unit):Option (Int) :=
 bif (!(qg ((r.1.length:Nat):Int) (1:Int) (5:Int))) then some (2:Int)
 else bif ((!(qg r.2.1 (0:Int) (100000000:Int)))||(!(qg r.2.2.1 (0:Int) (100000000:Int)))) then some (4:Int)
 else Option.bind (α:=Zv77 ⊕ Int) (iterW (qe0 r) (((0:Int),()),())) (Sum.elim (fun x3 =>
 some (0:Int)) some)
def qci (c:Zv75×Zv75×Zv75×Int×Int×Bool×Int×Unit) (r:Zv69×Int×Int×Unit) (x3:(Bool×Int×Unit)×(Unit)):Option (((Bool×Int×Unit)×(Unit)) ⊕ Zv70) :=
 bif (decide (x3.1.2.1<2)) then req (imp x3.1.1 (inb x3.1.2.1 2)) (req (imp (x3.1.1&&(qg (getD' [c.2.2.1.1,c.2.2.1.2.1] (x3.1.2.1).toNat 0) (0:Int) (w64 (((r.1.length:Nat):Int)-1)))) (inb x3.1.2.1 2)) (req (imp ((x3.1.1&&(qg (getD' [c.2.2.1.1,c.2.2.1.2.1] (x3.1.2.1).toNat 0) (0:Int) (w64 (((r.1.length:Nat):Int)-1))))&&(qg (getD' [c.2.1.1,c.2.1.2.1] (x3.1.2.1).toNat 0) (0:Int) (400:Int))) (inb x3.1.2.1 2)) (some (Sum.inl (((((x3.1.1&&(qg (getD' [c.2.2.1.1,c.2.2.1.2.1] (x3.1.2.1).toNat 0) (0:Int) (w64 (((r.1.length:Nat):Int)-1))))&&(qg (getD' [c.2.1.1,c.2.1.2.1] (x3.1.2.1).toNat 0) (0:Int) (400:Int)))&&(qg (getD' [c.1.1,c.1.2.1] (x3.1.2.1).toNat 0) (0:Int) (100000000000:Int))),(w64 (x3.1.2.1+1)),()),())))))
 else some (Sum.inr ((x3.1.1,()),()))
def qjZ (r:Zv69×Int×Int×Unit) (c:Zv75×Zv75×Zv75×Int×Int×Bool×Int×Unit):Option (Int) :=
 Option.bind (qho r) fun r2 =>
 bif (r2 !=0) then some r2
 else Option.bind (iterW (qci c r) (((((qg c.2.2.2.1 (0:Int) (1:Int))&&(qg c.2.2.2.2.2.2.1 (-1:Int) (1:Int)))&&(qg c.2.2.2.2.1 (0:Int) (100000000:Int))),(0:Int),()),())) fun x4 =>
 bif (!x4.1.1) then some (4:Int)
 else some (0:Int)
def qlF (r:Zv69×Int×Int×Unit) (c:Zv75×Zv75×Zv75×Int×Int×Bool×Int×Unit) (now:Int):Option (Int) :=
 bif c.2.2.2.2.2.1 then some (0:Int)
 else some (if (w64 ((w64 (now-c.2.2.2.2.1))-r.2.2.1))>0 then(w64 ((w64 (now-c.2.2.2.2.1))-r.2.2.1)) else(0:Int))
def qu (r:Zv69×Int×Int×Unit) (c:Zv75×Zv75×Zv75×Int×Int×Bool×Int×Unit) (now:Int):Int :=
 bif c.2.2.2.2.2.1 then(0:Int)
 else(if (w64 ((w64 (now-c.2.2.2.2.1))-r.2.2.1))>0 then(w64 ((w64 (now-c.2.2.2.2.1))-r.2.2.1)) else(0:Int))
theorem qs8 (r:Zv69×Int×Int×Unit) (c:Zv75×Zv75×Zv75×Int×Int×Bool×Int×Unit) (now:Int):qlF r c now=some (qu r c now):=by
 unfold qlF qu
 first | rfl | simp only[qba]
def qb2 (r:Zv69×Int×Int×Unit) (c:Zv75×Zv75×Zv75×Int×Int×Bool×Int×Unit) (now:Int):Option Zv26 :=
 Option.bind (qjZ r c) fun r2 =>
 bif (r2 !=0) then some ((((0:Int),((0:Int),())),(((0:Int),((0:Int),())),(((0:Int),((0:Int),())),((0:Int),((0:Int),(false,((0:Int),()))))))),(r2,()))
 else bif (!(qg now c.2.2.2.2.1 (100000000:Int))) then some ((((0:Int),((0:Int),())),(((0:Int),((0:Int),())),(((0:Int),((0:Int),())),((0:Int),((0:Int),(false,((0:Int),()))))))),((11:Int),()))
 else req (imp (decide (c.2.2.2.2.2.2.1<0)) (inb c.2.2.2.1 2)) (Option.bind (bif ((decide (c.2.2.2.2.2.2.1<0))&&(decide ((qu r c now)>(getD' [c.1.1,c.1.2.1] (c.2.2.2.1).toNat 0)))) then req (inb c.2.2.2.1 2) (some ((),(((bif (c.2.2.2.1==0) then(0:Int) else c.1.1),((bif (c.2.2.2.1==1) then(0:Int) else c.1.2.1),(c.2.1.1,(c.2.1.2.1,(c.2.2.1.1,(c.2.2.1.2.1,(c.2.2.2.1,(c.2.2.2.2.1,(c.2.2.2.2.2.1,(c.2.2.2.1,())))))))))),())))
 else some ((),((c.1.1,(c.1.2.1,(c.2.1.1,(c.2.1.2.1,(c.2.2.1.1,(c.2.2.1.2.1,c.2.2.2)))))),()))) fun x3 =>
 some (((x3.2.1.1,(x3.2.1.2.1,())),((x3.2.1.2.2.1,(x3.2.1.2.2.2.1,())),((x3.2.1.2.2.2.2.1,(x3.2.1.2.2.2.2.2.1,())),x3.2.1.2.2.2.2.2.2))),((0:Int),())))
def qaN (s:List Zv71):Option Zv59 :=
 bif (s.isEmpty) then(agree (some ([]:List Zv71)) (req (room (([]:List Zv71).length+s.length) 24) (some (([]:List Zv71)++s))))
 else req (room (([]:List Zv71).length+s.length) 24) (some (([]:List Zv71)++s))
def qG (g:Zv23×Zv31×Zv59×Unit):Option Zv59 :=
 Option.bind (qaN g.2.2.1) fun r2 =>
 some r2
def qjE (r:Zv69×Int×Int×Unit) (c:Zv75×Zv75×Zv75×Int×Int×Bool×Int×Unit) (now:Int) (stopped:Bool):Option Zv26 :=
 Option.bind (qb2 r c now) fun r2 =>
 bif (r2.2.1 !=0) then some ((((0:Int),((0:Int),())),(((0:Int),((0:Int),())),(((0:Int),((0:Int),())),((0:Int),((0:Int),(false,((0:Int),()))))))),r2.2)
 else bif (decide (r2.1.2.2.2.2.2.2.1≥0)) then some ((((0:Int),((0:Int),())),(((0:Int),((0:Int),())),(((0:Int),((0:Int),())),((0:Int),((0:Int),(false,((0:Int),()))))))),((14:Int),()))
 else bif (!(r2.1.2.2.2.2.2.1==stopped)) then some ((((0:Int),((0:Int),())),(((0:Int),((0:Int),())),(((0:Int),((0:Int),())),((0:Int),((0:Int),(false,((0:Int),()))))))),((10:Int),()))
 else some (r2.1,((0:Int),()))
def qjF (r:Zv69×Int×Int×Unit) (c:Zv75×Zv75×Zv75×Int×Int×Bool×Int×Unit) (now:Int):Option Zv26 :=
 Option.bind (qjE r c now false) fun r3 =>
 bif (r3.2.1 !=0) then some ((((0:Int),((0:Int),())),(((0:Int),((0:Int),())),(((0:Int),((0:Int),())),((0:Int),((0:Int),(false,((0:Int),()))))))),r3.2)
 else req (inb r3.1.2.2.2.1 2) (req (inb r3.1.2.2.2.1 2) (req (inb r3.1.2.2.2.1 2) (req (inb r3.1.2.2.2.1 2) (req (inb r3.1.2.2.2.1 2) (Option.bind (at? r.1 (getD' [r3.1.2.2.1.1,r3.1.2.2.1.2.1] (r3.1.2.2.2.1).toNat 0)) fun d4 =>
 req (imp (decide (d4.1>0)) (inb r3.1.2.2.2.1 2)) (Option.bind (bif ((decide (d4.1>0))&&(decide ((getD' [(bif (r3.1.2.2.2.1==0) then(if (400:Int)<(w64 ((getD' [r3.1.2.1.1,r3.1.2.1.2.1] (r3.1.2.2.2.1).toNat 0)+1)) then(400:Int) else(w64 ((getD' [r3.1.2.1.1,r3.1.2.1.2.1] (r3.1.2.2.2.1).toNat 0)+1))) else r3.1.2.1.1),(bif (r3.1.2.2.2.1==1) then(if (400:Int)<(w64 ((getD' [r3.1.2.1.1,r3.1.2.1.2.1] (r3.1.2.2.2.1).toNat 0)+1)) then(400:Int) else(w64 ((getD' [r3.1.2.1.1,r3.1.2.1.2.1] (r3.1.2.2.2.1).toNat 0)+1))) else r3.1.2.1.2.1)] (r3.1.2.2.2.1).toNat 0)≥d4.1))) then(req (inb r3.1.2.2.2.1 2) (req (inb r3.1.2.2.2.1 2) (req (inb r3.1.2.2.2.1 2) (req (inb r3.1.2.2.2.1 2) (req (inb r3.1.2.2.2.1 2) (Option.bind (at? r.1 (getD' [(bif (r3.1.2.2.2.1==0) then(w64 ((getD' [r3.1.2.2.1.1,r3.1.2.2.1.2.1] (r3.1.2.2.2.1).toNat 0)+1)) else r3.1.2.2.1.1),(bif (r3.1.2.2.2.1==1) then(w64 ((getD' [r3.1.2.2.1.1,r3.1.2.2.1.2.1] (r3.1.2.2.2.1).toNat 0)+1)) else r3.1.2.2.1.2.1)] (r3.1.2.2.2.1).toNat 0)) fun d5 =>
 req (inb r3.1.2.2.2.1 2) (some ((),(((bif (r3.1.2.2.2.1==0) then(if (100000000000:Int)<(w64 ((getD' [(bif (r3.1.2.2.2.1==0) then(if (100000000000:Int)<(w64 ((w64 ((getD' [r3.1.1.1,r3.1.1.2.1] (r3.1.2.2.2.1).toNat 0)-(qu r r3.1 now)))+r.2.1)) then(100000000000:Int) else(w64 ((w64 ((getD' [r3.1.1.1,r3.1.1.2.1] (r3.1.2.2.2.1).toNat 0)-(qu r r3.1 now)))+r.2.1))) else r3.1.1.1),(bif (r3.1.2.2.2.1==1) then(if (100000000000:Int)<(w64 ((w64 ((getD' [r3.1.1.1,r3.1.1.2.1] (r3.1.2.2.2.1).toNat 0)-(qu r r3.1 now)))+r.2.1)) then(100000000000:Int) else(w64 ((w64 ((getD' [r3.1.1.1,r3.1.1.2.1] (r3.1.2.2.2.1).toNat 0)-(qu r r3.1 now)))+r.2.1))) else r3.1.1.2.1)] (r3.1.2.2.2.1).toNat 0)+d5.2.1)) then(100000000000:Int) else(w64 ((getD' [(bif (r3.1.2.2.2.1==0) then(if (100000000000:Int)<(w64 ((w64 ((getD' [r3.1.1.1,r3.1.1.2.1] (r3.1.2.2.2.1).toNat 0)-(qu r r3.1 now)))+r.2.1)) then(100000000000:Int) else(w64 ((w64 ((getD' [r3.1.1.1,r3.1.1.2.1] (r3.1.2.2.2.1).toNat 0)-(qu r r3.1 now)))+r.2.1))) else r3.1.1.1),(bif (r3.1.2.2.2.1==1) then(if (100000000000:Int)<(w64 ((w64 ((getD' [r3.1.1.1,r3.1.1.2.1] (r3.1.2.2.2.1).toNat 0)-(qu r r3.1 now)))+r.2.1)) then(100000000000:Int) else(w64 ((w64 ((getD' [r3.1.1.1,r3.1.1.2.1] (r3.1.2.2.2.1).toNat 0)-(qu r r3.1 now)))+r.2.1))) else r3.1.1.2.1)] (r3.1.2.2.2.1).toNat 0)+d5.2.1))) else(bif (r3.1.2.2.2.1==0) then(if (100000000000:Int)<(w64 ((w64 ((getD' [r3.1.1.1,r3.1.1.2.1] (r3.1.2.2.2.1).toNat 0)-(qu r r3.1 now)))+r.2.1)) then(100000000000:Int) else(w64 ((w64 ((getD' [r3.1.1.1,r3.1.1.2.1] (r3.1.2.2.2.1).toNat 0)-(qu r r3.1 now)))+r.2.1))) else r3.1.1.1)),((bif (r3.1.2.2.2.1==1) then(if (100000000000:Int)<(w64 ((getD' [(bif (r3.1.2.2.2.1==0) then(if (100000000000:Int)<(w64 ((w64 ((getD' [r3.1.1.1,r3.1.1.2.1] (r3.1.2.2.2.1).toNat 0)-(qu r r3.1 now)))+r.2.1)) then(100000000000:Int) else(w64 ((w64 ((getD' [r3.1.1.1,r3.1.1.2.1] (r3.1.2.2.2.1).toNat 0)-(qu r r3.1 now)))+r.2.1))) else r3.1.1.1),(bif (r3.1.2.2.2.1==1) then(if (100000000000:Int)<(w64 ((w64 ((getD' [r3.1.1.1,r3.1.1.2.1] (r3.1.2.2.2.1).toNat 0)-(qu r r3.1 now)))+r.2.1)) then(100000000000:Int) else(w64 ((w64 ((getD' [r3.1.1.1,r3.1.1.2.1] (r3.1.2.2.2.1).toNat 0)-(qu r r3.1 now)))+r.2.1))) else r3.1.1.2.1)] (r3.1.2.2.2.1).toNat 0)+d5.2.1)) then(100000000000:Int) else(w64 ((getD' [(bif (r3.1.2.2.2.1==0) then(if (100000000000:Int)<(w64 ((w64 ((getD' [r3.1.1.1,r3.1.1.2.1] (r3.1.2.2.2.1).toNat 0)-(qu r r3.1 now)))+r.2.1)) then(100000000000:Int) else(w64 ((w64 ((getD' [r3.1.1.1,r3.1.1.2.1] (r3.1.2.2.2.1).toNat 0)-(qu r r3.1 now)))+r.2.1))) else r3.1.1.1),(bif (r3.1.2.2.2.1==1) then(if (100000000000:Int)<(w64 ((w64 ((getD' [r3.1.1.1,r3.1.1.2.1] (r3.1.2.2.2.1).toNat 0)-(qu r r3.1 now)))+r.2.1)) then(100000000000:Int) else(w64 ((w64 ((getD' [r3.1.1.1,r3.1.1.2.1] (r3.1.2.2.2.1).toNat 0)-(qu r r3.1 now)))+r.2.1))) else r3.1.1.2.1)] (r3.1.2.2.2.1).toNat 0)+d5.2.1))) else(bif (r3.1.2.2.2.1==1) then(if (100000000000:Int)<(w64 ((w64 ((getD' [r3.1.1.1,r3.1.1.2.1] (r3.1.2.2.2.1).toNat 0)-(qu r r3.1 now)))+r.2.1)) then(100000000000:Int) else(w64 ((w64 ((getD' [r3.1.1.1,r3.1.1.2.1] (r3.1.2.2.2.1).toNat 0)-(qu r r3.1 now)))+r.2.1))) else r3.1.1.2.1)),((bif (r3.1.2.2.2.1==0) then(0:Int) else(bif (r3.1.2.2.2.1==0) then(if (400:Int)<(w64 ((getD' [r3.1.2.1.1,r3.1.2.1.2.1] (r3.1.2.2.2.1).toNat 0)+1)) then(400:Int) else(w64 ((getD' [r3.1.2.1.1,r3.1.2.1.2.1] (r3.1.2.2.2.1).toNat 0)+1))) else r3.1.2.1.1)),((bif (r3.1.2.2.2.1==1) then(0:Int) else(bif (r3.1.2.2.2.1==1) then(if (400:Int)<(w64 ((getD' [r3.1.2.1.1,r3.1.2.1.2.1] (r3.1.2.2.2.1).toNat 0)+1)) then(400:Int) else(w64 ((getD' [r3.1.2.1.1,r3.1.2.1.2.1] (r3.1.2.2.2.1).toNat 0)+1))) else r3.1.2.1.2.1)),((bif (r3.1.2.2.2.1==0) then(w64 ((getD' [r3.1.2.2.1.1,r3.1.2.2.1.2.1] (r3.1.2.2.2.1).toNat 0)+1)) else r3.1.2.2.1.1),((bif (r3.1.2.2.2.1==1) then(w64 ((getD' [r3.1.2.2.1.1,r3.1.2.2.1.2.1] (r3.1.2.2.2.1).toNat 0)+1)) else r3.1.2.2.1.2.1),r3.1.2.2.2)))))),())))))))))
 else some ((),(((bif (r3.1.2.2.2.1==0) then(if (100000000000:Int)<(w64 ((w64 ((getD' [r3.1.1.1,r3.1.1.2.1] (r3.1.2.2.2.1).toNat 0)-(qu r r3.1 now)))+r.2.1)) then(100000000000:Int) else(w64 ((w64 ((getD' [r3.1.1.1,r3.1.1.2.1] (r3.1.2.2.2.1).toNat 0)-(qu r r3.1 now)))+r.2.1))) else r3.1.1.1),((bif (r3.1.2.2.2.1==1) then(if (100000000000:Int)<(w64 ((w64 ((getD' [r3.1.1.1,r3.1.1.2.1] (r3.1.2.2.2.1).toNat 0)-(qu r r3.1 now)))+r.2.1)) then(100000000000:Int) else(w64 ((w64 ((getD' [r3.1.1.1,r3.1.1.2.1] (r3.1.2.2.2.1).toNat 0)-(qu r r3.1 now)))+r.2.1))) else r3.1.1.2.1),((bif (r3.1.2.2.2.1==0) then(if (400:Int)<(w64 ((getD' [r3.1.2.1.1,r3.1.2.1.2.1] (r3.1.2.2.2.1).toNat 0)+1)) then(400:Int) else(w64 ((getD' [r3.1.2.1.1,r3.1.2.1.2.1] (r3.1.2.2.2.1).toNat 0)+1))) else r3.1.2.1.1),((bif (r3.1.2.2.2.1==1) then(if (400:Int)<(w64 ((getD' [r3.1.2.1.1,r3.1.2.1.2.1] (r3.1.2.2.2.1).toNat 0)+1)) then(400:Int) else(w64 ((getD' [r3.1.2.1.1,r3.1.2.1.2.1] (r3.1.2.2.2.1).toNat 0)+1))) else r3.1.2.1.2.1),(r3.1.2.2.1.1,(r3.1.2.2.1.2.1,r3.1.2.2.2)))))),()))) fun x6 =>
 some (((x6.2.1.1,(x6.2.1.2.1,())),((x6.2.1.2.2.1,(x6.2.1.2.2.2.1,())),((x6.2.1.2.2.2.2.1,(x6.2.1.2.2.2.2.2.1,())),((w64 ((1:Int)-r3.1.2.2.2.1)),(now,x6.2.1.2.2.2.2.2.2.2.2))))),((0:Int),()))))))))
def qce (x2:(Zv75×Int×Unit)×(Unit)) (x3:Zv78×(Unit)):Option (Zv73 ⊕ (Zv77 ⊕ (Zv77 ⊕ (Zv73 ⊕ (Zv77 ⊕ Int))))) :=
 bif (decide (x3.1.1<2)) then(req (inb x3.1.1 2) (bif ((decide ((getD' [x2.1.1.1,x2.1.1.2.1] (x3.1.1).toNat 0)<(-1:Int)))||(decide ((getD' [x2.1.1.1,x2.1.1.2.1] (x3.1.1).toNat 0)>400))) then some (Sum.inr (Sum.inr (Sum.inr (Sum.inr (Sum.inr (4:Int))))))
 else some (Sum.inl (((w64 (x3.1.1+1)),()),()))))
 else some (Sum.inr (Sum.inl ((),())))
def qeO (o:Zv75×Zv46×Unit) (x1:Zv78×(Unit)):Option (Zv73 ⊕ (Zv77 ⊕ Int)) :=
 bif (decide (x1.1.1<2)) then(Option.bind (α:=Zv77 ⊕ (Zv73 ⊕ (Zv77 ⊕ Int))) (req (inb x1.1.1 2) (Option.bind (req (inb x1.1.1 2) (bif (x1.1.1==0) then some ((o.2.1.1,(0:Int),()),())
 else some ((o.2.1.2.1,(0:Int),()),()))) fun x2 =>
 Option.bind (α:=Zv77 ⊕ (Zv77 ⊕ (Zv73 ⊕ (Zv77 ⊕ Int)))) (iterW (qce x2) ((x2.1.2.1,()),())) (Sum.elim (fun x4 =>
 bif ((decide ((getD' [o.1.1,o.1.2.1] (x1.1.1).toNat 0)<(-1:Int)))||(decide ((getD' [o.1.1,o.1.2.1] (x1.1.1).toNat 0)>1))) then some (Sum.inr (Sum.inr (Sum.inr (4:Int))))
 else Option.bind (req (imp (decide ((getD' [o.1.1,o.1.2.1] (x1.1.1).toNat 0)≥0)) (inb x1.1.1 2)) (bif (x1.1.1==0) then req (imp (decide ((getD' [o.1.1,o.1.2.1] (x1.1.1).toNat 0)≥0)) (inb (getD' [o.1.1,o.1.2.1] (x1.1.1).toNat 0) 2)) (some ((((decide ((getD' [o.1.1,o.1.2.1] (x1.1.1).toNat 0)≥0))&&((getD' [o.2.1.1.1,o.2.1.1.2.1] ((getD' [o.1.1,o.1.2.1] (x1.1.1).toNat 0)).toNat 0)==(-1:Int))),()),()))
 else req (imp (decide ((getD' [o.1.1,o.1.2.1] (x1.1.1).toNat 0)≥0)) (inb (getD' [o.1.1,o.1.2.1] (x1.1.1).toNat 0) 2)) (some ((((decide ((getD' [o.1.1,o.1.2.1] (x1.1.1).toNat 0)≥0))&&((getD' [o.2.1.2.1.1,o.2.1.2.1.2.1] ((getD' [o.1.1,o.1.2.1] (x1.1.1).toNat 0)).toNat 0)==(-1:Int))),()),())))) fun x5 =>
 bif x5.1.1 then some (Sum.inr (Sum.inr (Sum.inr (3:Int))))
 else some (Sum.inl ((),()))) some))) (Sum.elim (fun x6 =>
 some (Sum.inl (((w64 (x1.1.1+1)),()),()))) some))
 else some (Sum.inr (Sum.inl ((),())))
def qjV (o:Zv75×Zv46×Unit):Option (Int) :=
 Option.bind (α:=Zv77 ⊕ Int) (iterW (qeO o) (((0:Int),()),())) (Sum.elim (fun x7 =>
 some (0:Int)) some)
def qfX (o:Zv75×Zv46×Unit) (kind:Int) (player:Int) (moves:Int):Option (Int) :=
 Option.bind (qjV o) fun r2 =>
 bif (r2 !=0) then some r2
 else bif (((((kind !=0)&&(kind !=1))||((player !=0)&&(player !=1)))||(decide (moves<0)))||(decide (moves>400))) then some (1:Int)
 else some (0:Int)
def qg7 (o:Zv75×Zv46×Unit) (player:Int):Option (Zv30×Int×Unit) :=
 Option.bind (qfX o (0:Int) player (0:Int)) fun r2 =>
 bif (r2 !=0) then some ((((0:Int),((0:Int),())),((((0:Int),((0:Int),())),(((0:Int),((0:Int),())),())),())),(r2,()))
 else Option.bind (bif (o.1.1==(w64 ((1:Int)-player))) then some ((),(((-1:Int),(o.1.2.1,(o.2.1.1.1,(o.2.1.1.2.1,o.2.1.2.1)))),()))
 else some ((),((o.1.1,(o.1.2.1,(o.2.1.1.1,(o.2.1.1.2.1,o.2.1.2.1)))),()))) fun x3 =>
 some (((x3.2.1.1,((-1:Int),())),(((x3.2.1.2.2.1,(x3.2.1.2.2.2.1,())),(x3.2.1.2.2.2.2,())),())),((0:Int),()))
def qaY (m:Zv23×Zv48×Zv18×Zv21×Int×Zv61×Unit) (x:Int×Int×Int×Unit) (now:Int):Option Zv1 :=
 Option.bind (qm (m.2.2.1.1,(m.2.2.1.2.1,(m.2.2.1.2.2.1,())))) fun r5 =>
 Option.bind (qaU (m.2.2.1.1,(m.2.2.1.2.1,(m.2.2.1.2.2.1,()))) x) fun r6 =>
 Option.bind (qjF m.2.1 m.2.2.2.1.2.2.2.1 now) fun r7 =>
 Option.bind (qg7 m.2.2.2.1.2.2.2.2.1 r5.2.2.1) fun r8 =>
 some ((m.1,(m.2.1,((r6.1.1,(r6.1.2.1,(r6.1.2.2.1,()))),((m.2.2.2.1.1,(m.2.2.2.1.2.1,(m.2.2.2.1.2.2.1,(r7.1,(r8.1,m.2.2.2.1.2.2.2.2.2))))),m.2.2.2.2)))),())
def qtI (l:List Zv52) (player:Int) (x1:Zv47×(Unit)):Option (Zv39 ⊕ Zv43) :=
 bif (decide (x1.1.2.1<((l.length:Nat):Int))) then(Option.bind (at? l x1.1.2.1) fun d2 =>
 Option.bind (bif (d2.1==player) then req (room (x1.1.1.length+([d2.2.1]).length) 24) (some (((x1.1.1++[d2.2.1]),()),()))
 else some ((x1.1.1,()),())) fun x3 =>
 some (Sum.inl ((x3.1.1,(w64 (x1.1.2.1+1)),()),())))
 else some (Sum.inr ((x1.1.1,()),()))
def qiN (l:List Zv52) (player:Int):Option Zv59 :=
 Option.bind (iterW (qtI l player) ((([]:List Zv71),(0:Int),()),())) fun x4 =>
 some x4.1.1
def qp1 (l:List Zv52) (x4:Zv78×(Unit)):Option (Zv73 ⊕ (Zv77 ⊕ Int)) :=
 bif (decide (x4.1.1<((l.length:Nat):Int))) then(Option.bind (at? l x4.1.1) fun d5 =>
 bif ((d5.1 !=0)&&(d5.1 !=1)) then(Option.map Sum.inr (Option.map Sum.inr (bif (decide (x4.1.1≥0)) then some (4:Int)
 else some (0:Int))))
 else some (Sum.inl (((w64 (x4.1.1+1)),()),())))
 else some (Sum.inr (Sum.inl ((),())))
def qjo (l:List Zv52):Option (Int) :=
 Option.bind (Option.bind (qiN l (0:Int)) fun r1 =>
 bif (decide (((r1.length:Nat):Int)>4)) then some ((true,()),())
 else Option.bind (qiN l (1:Int)) fun r2 =>
 some (((decide (((r2.length:Nat):Int)>4)),()),())) fun x3 =>
 bif x3.1.1 then some (2:Int)
 else Option.bind (α:=Zv77 ⊕ Int) (iterW (qp1 l) (((0:Int),()),())) (Sum.elim (fun x6 =>
 some (0:Int)) some)
def qdM (r:ByteArray×Int×Int×Zv32×Zv79×Bool×Bool×Zv54×Int×Int×Int×Unit) (p:Zv79×Zv57×Int×Int×Unit) (l:List Zv52):Option (Int) :=
 Option.bind (qhe r p) fun r3 =>
 bif (r3 !=0) then some r3
 else Option.bind (qjo l) fun r4 =>
 some r4
def qR (s:List Zv52):Option Zv49 :=
 bif (s.isEmpty) then(agree (some ([]:List Zv52)) (req (room (([]:List Zv52).length+s.length) 32) (some (([]:List Zv52)++s))))
 else req (room (([]:List Zv52).length+s.length) 32) (some (([]:List Zv52)++s))
def qnA (player:Int) (x4:Zv75×Zv42):Option ((Zv75×Zv42) ⊕ (Zv78×Zv42)) :=
 bif (decide (x4.1.2.1<((x4.2.1.length:Nat):Int))) then(req (inb x4.1.2.1 x4.2.1.length) (Option.bind (bif (!((getD' x4.2.1 ((x4.1.2.1).toNat) ((0:Int),(((0:Int),((0:Int),((0:Int),()))),()))).1==player)) then req (inb x4.1.1 x4.2.1.length) (some (((w64 (x4.1.1+1)),()),((x4.2.1.set ((x4.1.1).toNat) (getD' x4.2.1 ((x4.1.2.1).toNat) ((0:Int),(((0:Int),((0:Int),((0:Int),()))),())))),())))
 else some ((x4.1.1,()),(x4.2.1,()))) fun x5 =>
 some (Sum.inl ((x5.1.1,(w64 (x4.1.2.1+1)),()),(x5.2.1,())))))
 else some (Sum.inr ((x4.1.1,()),(x4.2.1,())))
def qng (r2:List Zv52) (player:Int) (x3:Zv78×(Unit)):Option (Zv73 ⊕ (Zv77 ⊕ Zv49)) :=
 bif (decide (x3.1.1<((r2.length:Nat):Int))) then(req (inb x3.1.1 r2.length) (bif ((getD' r2 ((x3.1.1).toNat) ((0:Int),(((0:Int),((0:Int),((0:Int),()))),()))).1==player) then(Option.map Sum.inr (Option.map Sum.inr (bif (x3.1.1==(-1:Int)) then some r2
 else Option.bind (iterW (qnA player) ((x3.1.1,(w64 (x3.1.1+1)),()),(r2,()))) fun x6 =>
 req (qk x6.1.1 ((x6.2.1.length:Nat):Int) x6.2.1.length) (req (qk 0 x6.1.1 (x6.2.1.take (x6.1.1).toNat++(List.replicate ((((x6.2.1.length:Nat):Int)).toNat-(x6.1.1).toNat) ((0:Int),(((0:Int),((0:Int),((0:Int),()))),()))++x6.2.1.drop ((x6.1.1).toNat+((((x6.2.1.length:Nat):Int)).toNat-(x6.1.1).toNat)))).length) (some ((x6.2.1.take (x6.1.1).toNat++(List.replicate ((((x6.2.1.length:Nat):Int)).toNat-(x6.1.1).toNat) ((0:Int),(((0:Int),((0:Int),((0:Int),()))),()))++x6.2.1.drop ((x6.1.1).toNat+((((x6.2.1.length:Nat):Int)).toNat-(x6.1.1).toNat)))).take (x6.1.1).toNat))))))
 else some (Sum.inl (((w64 (x3.1.1+1)),()),()))))
 else some (Sum.inr (Sum.inl ((),())))
def qcv (l:List Zv52) (player:Int):Option Zv49 :=
 Option.bind (qR l) fun r2 =>
 Option.bind (α:=Zv77 ⊕ Zv49) (iterW (qng r2 player) (((0:Int),()),())) (Sum.elim (fun x7 =>
 some r2) some)
def qfp (slices:List Zv49) (x1:Zv75×(Unit)):Option (Zv66 ⊕ Zv73) :=
 bif (decide (x1.1.2.1<((slices.length:Nat):Int))) then(Option.bind (at? slices x1.1.2.1) fun d2 =>
 bif (decide ((w64 (x1.1.1+((d2.length:Nat):Int)))<0)) then none
 else some (Sum.inl (((w64 (x1.1.1+((d2.length:Nat):Int))),(w64 (x1.1.2.1+1)),()),())))
 else some (Sum.inr ((x1.1.1,()),()))
def qfk (slices:List Zv49) (x5:Zv37×(Unit)):Option ((Zv37×(Unit)) ⊕ (Zv42×(Unit))) :=
 bif (decide (x5.1.2.1<((slices.length:Nat):Int))) then(Option.bind (at? slices x5.1.2.1) fun d6 =>
 req (room (x5.1.1.length+d6.length) 32) (some (Sum.inl (((x5.1.1++d6),(w64 (x5.1.2.1+1)),()),()))))
 else some (Sum.inr ((x5.1.1,()),()))
def qcK (slices:List Zv49):Option Zv49 :=
 Option.bind (iterW (qfp slices) (((0:Int),(0:Int),()),())) fun x3 =>
 bif (decide (x3.1.1<0)) then none
 else Option.bind (bif (decide ((w64 (x3.1.1-0))>0)) then req (decide (0<(w64 (x3.1.1-0)))&&room ((w64 (x3.1.1-0))).toNat 32) (req (qk 0 (0:Int) (List.replicate ((w64 (x3.1.1-0))).toNat ((0:Int),(((0:Int),((0:Int),((0:Int),()))),()))).length) (some ((((List.replicate ((w64 (x3.1.1-0))).toNat ((0:Int),(((0:Int),((0:Int),((0:Int),()))),()))).take 0),()),())))
 else some ((([]:List Zv52),()),())) fun x4 =>
 Option.bind (iterW (qfk slices) ((x4.1.1,(0:Int),()),())) fun x7 =>
 some x7.1.1
def qqs (l:List Zv52) (p:Zv79×Zv57×Int×Int×Unit) (r:ByteArray×Int×Int×Zv32×Zv79×Bool×Bool×Zv54×Int×Int×Int×Unit) (x3:Zv78×(Unit)):Option (Zv73 ⊕ (Zv77 ⊕ Zv28)) :=
 bif (decide (x3.1.1<((l.length:Nat):Int))) then(Option.bind (at? l x3.1.1) fun d4 =>
 bif (d4.1==p.2.2.1) then(Option.map Sum.inr (Option.map Sum.inr (Option.bind (Option.bind (gat (!(decide (x3.1.1<0))) ((0:Int),(((0:Int),((0:Int),((0:Int),()))),())) l x3.1.1) fun d5 =>
 bif (decide (x3.1.1<0)) then some ((true,()),())
 else Option.bind (qhn r p) fun r6 =>
 Option.bind (qp r6 d5.2.1) fun r7 =>
 some (((!r7),()),())) fun x8 =>
 bif x8.1.1 then(Option.bind (qcv l p.2.2.1) fun r9 =>
 some (((0:Int),((0:Int),((0:Int),()))),(false,(r9,()))))
 else Option.bind (at? l x3.1.1) fun d10 =>
 req (qk (0:Int) x3.1.1 l.length) (req (qk (w64 (x3.1.1+1)) ((l.length:Nat):Int) l.length) (Option.bind (qcK ([((l.take (x3.1.1).toNat).drop 0),((l.take (((l.length:Nat):Int)).toNat).drop ((w64 (x3.1.1+1))).toNat)])) fun r11 =>
 some (d10.2.1,(true,(r11,()))))))))
 else some (Sum.inl (((w64 (x3.1.1+1)),()),())))
 else some (Sum.inr (Sum.inl ((),())))
def qlc (r:ByteArray×Int×Int×Zv32×Zv79×Bool×Bool×Zv54×Int×Int×Int×Unit) (p:Zv79×Zv57×Int×Int×Unit) (l:List Zv52):Option Zv28 :=
 Option.bind (α:=Zv77 ⊕ Zv28) (iterW (qqs l p r) (((0:Int),()),())) (Sum.elim (fun x12 =>
 Option.bind (gat false ((0:Int),(((0:Int),((0:Int),((0:Int),()))),())) l (-1:Int)) fun d13 =>
 Option.bind (qcv l p.2.2.1) fun r14 =>
 some (((0:Int),((0:Int),((0:Int),()))),(false,(r14,())))) some)
def qbe (r:ByteArray×Int×Int×Zv32×Zv79×Bool×Bool×Zv54×Int×Int×Int×Unit) (p:Zv79×Zv57×Int×Int×Unit) (l:List Zv52):Option (Zv71×Bool×Zv49×Int×Unit) :=
 Option.bind (qdM r p l) fun r3 =>
 bif (r3 !=0) then some (((0:Int),((0:Int),((0:Int),()))),(false,(([]:List Zv52),(r3,()))))
 else Option.bind (qlc r p l) fun r4 =>
 some (r4.1,(r4.2.1,(r4.2.2.1,((0:Int),()))))
def qaJ (e:Int×Int×Int×Int×Zv71×Unit) (x13:(Unit)×Zv5):Option (Zv4 ⊕ Zv4) :=
 Option.bind (Option.bind (qP (x13.2.1.2.2.2.2.2.2.2.2.2.2.2.2.2.2.1.1,(x13.2.1.2.2.2.2.2.2.2.2.2.2.2.2.2.2.1.2.1,(x13.2.1.2.2.2.2.2.2.2.2.2.2.2.2.2.2.1.2.2.1,())))) fun r14 =>
 bif (r14==0) then(Option.bind (qG (x13.2.1.2.2.2.2.2.2.2.2.2.2.2.2.2.2.1.1,(x13.2.1.2.2.2.2.2.2.2.2.2.2.2.2.2.2.1.2.1,(x13.2.1.2.2.2.2.2.2.2.2.2.2.2.2.2.2.1.2.2.1,())))) fun r15 =>
 some (((decide (((r15.length:Nat):Int)<400)),()),()))
 else some ((false,()),())) fun x16 =>
 bif x16.1.1 then(Option.bind (agree (Option.bind (qm (x13.2.1.2.2.2.2.2.2.2.2.2.2.2.2.2.2.1.1,(x13.2.1.2.2.2.2.2.2.2.2.2.2.2.2.2.2.1.2.1,(x13.2.1.2.2.2.2.2.2.2.2.2.2.2.2.2.2.1.2.2.1,())))) fun r17 =>
 agree (Option.bind (qbe (x13.2.1.1,(x13.2.1.2.1,(x13.2.1.2.2.1,(x13.2.1.2.2.2.1,(x13.2.1.2.2.2.2.1,(x13.2.1.2.2.2.2.2.1,(x13.2.1.2.2.2.2.2.2.1,(x13.2.1.2.2.2.2.2.2.2.1,(x13.2.1.2.2.2.2.2.2.2.2.1,(x13.2.1.2.2.2.2.2.2.2.2.2.1,(x13.2.1.2.2.2.2.2.2.2.2.2.2.1,()))))))))))) (r17.1,((r17.2.1.1,(r17.2.1.2.1,())),r17.2.2)) x13.2.1.2.2.2.2.2.2.2.2.2.2.2.2.2.2.2.2.2.2.2.2.2.2.2.2.2.2.2.2.2.2.2.2.2.2.1) fun r18 =>
 some ((r18.1,r18.2.1,r18.2.2.1,()),())) (Option.bind (qbe (x13.2.1.1,(x13.2.1.2.1,(x13.2.1.2.2.1,(x13.2.1.2.2.2.1,(x13.2.1.2.2.2.2.1,(x13.2.1.2.2.2.2.2.1,(x13.2.1.2.2.2.2.2.2.1,(x13.2.1.2.2.2.2.2.2.2.1,(x13.2.1.2.2.2.2.2.2.2.2.1,(x13.2.1.2.2.2.2.2.2.2.2.2.1,(x13.2.1.2.2.2.2.2.2.2.2.2.2.1,()))))))))))) (r17.1,((r17.2.1.1,(r17.2.1.2.1,())),r17.2.2)) x13.2.1.2.2.2.2.2.2.2.2.2.2.2.2.2.2.2.2.2.2.2.2.2.2.2.2.2.2.2.2.2.2.2.2.2.2.1) fun r18 =>
 some ((r18.1,r18.2.1,r18.2.2.1,()),()))) (Option.bind (qm (x13.2.1.2.2.2.2.2.2.2.2.2.2.2.2.2.2.1.1,(x13.2.1.2.2.2.2.2.2.2.2.2.2.2.2.2.2.1.2.1,(x13.2.1.2.2.2.2.2.2.2.2.2.2.2.2.2.2.1.2.2.1,())))) fun r17 =>
 Option.bind (qbe (x13.2.1.1,(x13.2.1.2.1,(x13.2.1.2.2.1,(x13.2.1.2.2.2.1,(x13.2.1.2.2.2.2.1,(x13.2.1.2.2.2.2.2.1,(x13.2.1.2.2.2.2.2.2.1,(x13.2.1.2.2.2.2.2.2.2.1,(x13.2.1.2.2.2.2.2.2.2.2.1,(x13.2.1.2.2.2.2.2.2.2.2.2.1,(x13.2.1.2.2.2.2.2.2.2.2.2.2.1,()))))))))))) (r17.1,((r17.2.1.1,(r17.2.1.2.1,())),r17.2.2)) x13.2.1.2.2.2.2.2.2.2.2.2.2.2.2.2.2.2.2.2.2.2.2.2.2.2.2.2.2.2.2.2.2.2.2.2.2.1) fun r18 =>
 some ((r18.1,r18.2.1,r18.2.2.1,()),()))) fun x19 =>
 bif (!x19.1.2.1) then some (Sum.inr ((),((x13.2.1.1,(x13.2.1.2.1,(x13.2.1.2.2.1,(x13.2.1.2.2.2.1,(x13.2.1.2.2.2.2.1,(x13.2.1.2.2.2.2.2.1,(x13.2.1.2.2.2.2.2.2.1,(x13.2.1.2.2.2.2.2.2.2.1,(x13.2.1.2.2.2.2.2.2.2.2.1,(x13.2.1.2.2.2.2.2.2.2.2.2.1,(x13.2.1.2.2.2.2.2.2.2.2.2.2.1,(x13.2.1.2.2.2.2.2.2.2.2.2.2.2.1,(x13.2.1.2.2.2.2.2.2.2.2.2.2.2.2.1,(x13.2.1.2.2.2.2.2.2.2.2.2.2.2.2.2.1,((x13.2.1.2.2.2.2.2.2.2.2.2.2.2.2.2.2.1.1,(x13.2.1.2.2.2.2.2.2.2.2.2.2.2.2.2.2.1.2.1,(x13.2.1.2.2.2.2.2.2.2.2.2.2.2.2.2.2.1.2.2.1,()))),(x13.2.1.2.2.2.2.2.2.2.2.2.2.2.2.2.2.2.1,(x13.2.1.2.2.2.2.2.2.2.2.2.2.2.2.2.2.2.2.1,(x13.2.1.2.2.2.2.2.2.2.2.2.2.2.2.2.2.2.2.2.1,(x13.2.1.2.2.2.2.2.2.2.2.2.2.2.2.2.2.2.2.2.2.1,(x13.2.1.2.2.2.2.2.2.2.2.2.2.2.2.2.2.2.2.2.2.2.1,(x13.2.1.2.2.2.2.2.2.2.2.2.2.2.2.2.2.2.2.2.2.2.2.1,(x13.2.1.2.2.2.2.2.2.2.2.2.2.2.2.2.2.2.2.2.2.2.2.2.1,(x13.2.1.2.2.2.2.2.2.2.2.2.2.2.2.2.2.2.2.2.2.2.2.2.2.1,(x13.2.1.2.2.2.2.2.2.2.2.2.2.2.2.2.2.2.2.2.2.2.2.2.2.2.1,(x13.2.1.2.2.2.2.2.2.2.2.2.2.2.2.2.2.2.2.2.2.2.2.2.2.2.2.1,(x13.2.1.2.2.2.2.2.2.2.2.2.2.2.2.2.2.2.2.2.2.2.2.2.2.2.2.2.1,(x13.2.1.2.2.2.2.2.2.2.2.2.2.2.2.2.2.2.2.2.2.2.2.2.2.2.2.2.2.1,(x13.2.1.2.2.2.2.2.2.2.2.2.2.2.2.2.2.2.2.2.2.2.2.2.2.2.2.2.2.2.1,(x13.2.1.2.2.2.2.2.2.2.2.2.2.2.2.2.2.2.2.2.2.2.2.2.2.2.2.2.2.2.2.1,(x13.2.1.2.2.2.2.2.2.2.2.2.2.2.2.2.2.2.2.2.2.2.2.2.2.2.2.2.2.2.2.2.1,(x13.2.1.2.2.2.2.2.2.2.2.2.2.2.2.2.2.2.2.2.2.2.2.2.2.2.2.2.2.2.2.2.2.1,(x13.2.1.2.2.2.2.2.2.2.2.2.2.2.2.2.2.2.2.2.2.2.2.2.2.2.2.2.2.2.2.2.2.2.1,(x13.2.1.2.2.2.2.2.2.2.2.2.2.2.2.2.2.2.2.2.2.2.2.2.2.2.2.2.2.2.2.2.2.2.2.1,(x13.2.1.2.2.2.2.2.2.2.2.2.2.2.2.2.2.2.2.2.2.2.2.2.2.2.2.2.2.2.2.2.2.2.2.2.1,(x19.1.2.2.1,x13.2.1.2.2.2.2.2.2.2.2.2.2.2.2.2.2.2.2.2.2.2.2.2.2.2.2.2.2.2.2.2.2.2.2.2.2.2))))))))))))))))))))))))))))))))))),())))
 else Option.bind (qaY ((x13.2.1.1,(x13.2.1.2.1,(x13.2.1.2.2.1,(x13.2.1.2.2.2.1,(x13.2.1.2.2.2.2.1,(x13.2.1.2.2.2.2.2.1,(x13.2.1.2.2.2.2.2.2.1,(x13.2.1.2.2.2.2.2.2.2.1,(x13.2.1.2.2.2.2.2.2.2.2.1,(x13.2.1.2.2.2.2.2.2.2.2.2.1,(x13.2.1.2.2.2.2.2.2.2.2.2.2.1,()))))))))))),((x13.2.1.2.2.2.2.2.2.2.2.2.2.2.1,(x13.2.1.2.2.2.2.2.2.2.2.2.2.2.2.1,(x13.2.1.2.2.2.2.2.2.2.2.2.2.2.2.2.1,()))),((x13.2.1.2.2.2.2.2.2.2.2.2.2.2.2.2.2.1.1,(x13.2.1.2.2.2.2.2.2.2.2.2.2.2.2.2.2.1.2.1,(x13.2.1.2.2.2.2.2.2.2.2.2.2.2.2.2.2.1.2.2.1,()))),((x13.2.1.2.2.2.2.2.2.2.2.2.2.2.2.2.2.2.1,(x13.2.1.2.2.2.2.2.2.2.2.2.2.2.2.2.2.2.2.1,(x13.2.1.2.2.2.2.2.2.2.2.2.2.2.2.2.2.2.2.2.1,(((x13.2.1.2.2.2.2.2.2.2.2.2.2.2.2.2.2.2.2.2.2.1,(x13.2.1.2.2.2.2.2.2.2.2.2.2.2.2.2.2.2.2.2.2.2.1,())),((x13.2.1.2.2.2.2.2.2.2.2.2.2.2.2.2.2.2.2.2.2.2.2.1,(x13.2.1.2.2.2.2.2.2.2.2.2.2.2.2.2.2.2.2.2.2.2.2.2.1,())),((x13.2.1.2.2.2.2.2.2.2.2.2.2.2.2.2.2.2.2.2.2.2.2.2.2.1,(x13.2.1.2.2.2.2.2.2.2.2.2.2.2.2.2.2.2.2.2.2.2.2.2.2.2.1,())),(x13.2.1.2.2.2.2.2.2.2.2.2.2.2.2.2.2.2.2.2.2.2.2.2.2.2.2.1,(x13.2.1.2.2.2.2.2.2.2.2.2.2.2.2.2.2.2.2.2.2.2.2.2.2.2.2.2.1,(x13.2.1.2.2.2.2.2.2.2.2.2.2.2.2.2.2.2.2.2.2.2.2.2.2.2.2.2.2.1,(x13.2.1.2.2.2.2.2.2.2.2.2.2.2.2.2.2.2.2.2.2.2.2.2.2.2.2.2.2.2.1,()))))))),(((x13.2.1.2.2.2.2.2.2.2.2.2.2.2.2.2.2.2.2.2.2.2.2.2.2.2.2.2.2.2.2.1,(x13.2.1.2.2.2.2.2.2.2.2.2.2.2.2.2.2.2.2.2.2.2.2.2.2.2.2.2.2.2.2.2.1,())),(((x13.2.1.2.2.2.2.2.2.2.2.2.2.2.2.2.2.2.2.2.2.2.2.2.2.2.2.2.2.2.2.2.2.1,(x13.2.1.2.2.2.2.2.2.2.2.2.2.2.2.2.2.2.2.2.2.2.2.2.2.2.2.2.2.2.2.2.2.2.1,())),((x13.2.1.2.2.2.2.2.2.2.2.2.2.2.2.2.2.2.2.2.2.2.2.2.2.2.2.2.2.2.2.2.2.2.2.1,(x13.2.1.2.2.2.2.2.2.2.2.2.2.2.2.2.2.2.2.2.2.2.2.2.2.2.2.2.2.2.2.2.2.2.2.2.1,())),())),())),(x19.1.2.2.1,())))))),x13.2.1.2.2.2.2.2.2.2.2.2.2.2.2.2.2.2.2.2.2.2.2.2.2.2.2.2.2.2.2.2.2.2.2.2.2.2)))) x19.1.1 e.2.2.2.1) fun r20 =>
 some (Sum.inl ((),((r20.1.1.1,(r20.1.1.2.1,(r20.1.1.2.2.1,(r20.1.1.2.2.2.1,(r20.1.1.2.2.2.2.1,(r20.1.1.2.2.2.2.2.1,(r20.1.1.2.2.2.2.2.2.1,(r20.1.1.2.2.2.2.2.2.2.1,(r20.1.1.2.2.2.2.2.2.2.2.1,(r20.1.1.2.2.2.2.2.2.2.2.2.1,(r20.1.1.2.2.2.2.2.2.2.2.2.2.1,(r20.1.2.1.1,(r20.1.2.1.2.1,(r20.1.2.1.2.2.1,((r20.1.2.2.1.1,(r20.1.2.2.1.2.1,(r20.1.2.2.1.2.2.1,()))),(r20.1.2.2.2.1.1,(r20.1.2.2.2.1.2.1,(r20.1.2.2.2.1.2.2.1,(r20.1.2.2.2.1.2.2.2.1.1.1,(r20.1.2.2.2.1.2.2.2.1.1.2.1,(r20.1.2.2.2.1.2.2.2.1.2.1.1,(r20.1.2.2.2.1.2.2.2.1.2.1.2.1,(r20.1.2.2.2.1.2.2.2.1.2.2.1.1,(r20.1.2.2.2.1.2.2.2.1.2.2.1.2.1,(r20.1.2.2.2.1.2.2.2.1.2.2.2.1,(r20.1.2.2.2.1.2.2.2.1.2.2.2.2.1,(r20.1.2.2.2.1.2.2.2.1.2.2.2.2.2.1,(r20.1.2.2.2.1.2.2.2.1.2.2.2.2.2.2.1,(r20.1.2.2.2.1.2.2.2.2.1.1.1,(r20.1.2.2.2.1.2.2.2.2.1.1.2.1,(r20.1.2.2.2.1.2.2.2.2.1.2.1.1.1,(r20.1.2.2.2.1.2.2.2.2.1.2.1.1.2.1,(r20.1.2.2.2.1.2.2.2.2.1.2.1.2.1.1,(r20.1.2.2.2.1.2.2.2.2.1.2.1.2.1.2.1,(r20.1.2.2.2.1.2.2.2.2.2.1,r20.1.2.2.2.2))))))))))))))))))))))))))))))))))),()))))
 else some (Sum.inr ((),((x13.2.1.1,(x13.2.1.2.1,(x13.2.1.2.2.1,(x13.2.1.2.2.2.1,(x13.2.1.2.2.2.2.1,(x13.2.1.2.2.2.2.2.1,(x13.2.1.2.2.2.2.2.2.1,(x13.2.1.2.2.2.2.2.2.2.1,(x13.2.1.2.2.2.2.2.2.2.2.1,(x13.2.1.2.2.2.2.2.2.2.2.2.1,(x13.2.1.2.2.2.2.2.2.2.2.2.2.1,(x13.2.1.2.2.2.2.2.2.2.2.2.2.2.1,(x13.2.1.2.2.2.2.2.2.2.2.2.2.2.2.1,(x13.2.1.2.2.2.2.2.2.2.2.2.2.2.2.2.1,((x13.2.1.2.2.2.2.2.2.2.2.2.2.2.2.2.2.1.1,(x13.2.1.2.2.2.2.2.2.2.2.2.2.2.2.2.2.1.2.1,(x13.2.1.2.2.2.2.2.2.2.2.2.2.2.2.2.2.1.2.2.1,()))),x13.2.1.2.2.2.2.2.2.2.2.2.2.2.2.2.2.2))))))))))))))),())))
def qaP (m:Zv23×Zv48×Zv18×Zv21×Int×Zv61×Unit) (e:Int×Int×Int×Int×Zv71×Unit):Option Zv2 :=
 Option.bind (agree (Option.bind (qm (m.2.2.1.1,(m.2.2.1.2.1,(m.2.2.1.2.2.1,())))) fun r6 =>
 some (((r6.2.2.1 !=e.2.1),()),())) (Option.bind (qm (m.2.2.1.1,(m.2.2.1.2.1,(m.2.2.1.2.2.1,())))) fun r6 =>
 some (((r6.2.2.1 !=e.2.1),()),()))) fun x7 =>
 bif x7.1.1 then some ((m.1,(m.2.1,((m.2.2.1.1,(m.2.2.1.2.1,(m.2.2.1.2.2.1,()))),m.2.2.2))),(12:Int))
 else Option.bind (qm (m.2.2.1.1,(m.2.2.1.2.1,(m.2.2.1.2.2.1,())))) fun r8 =>
 Option.bind (qhn m.1 (r8.1,((r8.2.1.1,(r8.2.1.2.1,())),r8.2.2))) fun r9 =>
 Option.bind (qp r9 e.2.2.2.2.1) fun r10 =>
 bif (!r10) then some ((m.1,(m.2.1,((m.2.2.1.1,(m.2.2.1.2.1,(m.2.2.1.2.2.1,()))),m.2.2.2))),(13:Int))
 else Option.bind (qG (m.2.2.1.1,(m.2.2.1.2.1,(m.2.2.1.2.2.1,())))) fun r11 =>
 bif (((r11.length:Nat):Int)==400) then some ((m.1,(m.2.1,((m.2.2.1.1,(m.2.2.1.2.1,(m.2.2.1.2.2.1,()))),m.2.2.2))),(2:Int))
 else Option.bind (qaY (m.1,(m.2.1,((m.2.2.1.1,(m.2.2.1.2.1,(m.2.2.1.2.2.1,()))),m.2.2.2))) e.2.2.2.2.1 e.2.2.2.1) fun r12 =>
 Option.bind (iterW (qaJ e) ((),((r12.1.1.1,(r12.1.1.2.1,(r12.1.1.2.2.1,(r12.1.1.2.2.2.1,(r12.1.1.2.2.2.2.1,(r12.1.1.2.2.2.2.2.1,(r12.1.1.2.2.2.2.2.2.1,(r12.1.1.2.2.2.2.2.2.2.1,(r12.1.1.2.2.2.2.2.2.2.2.1,(r12.1.1.2.2.2.2.2.2.2.2.2.1,(r12.1.1.2.2.2.2.2.2.2.2.2.2.1,(r12.1.2.1.1,(r12.1.2.1.2.1,(r12.1.2.1.2.2.1,((r12.1.2.2.1.1,(r12.1.2.2.1.2.1,(r12.1.2.2.1.2.2.1,()))),(r12.1.2.2.2.1.1,(r12.1.2.2.2.1.2.1,(r12.1.2.2.2.1.2.2.1,(r12.1.2.2.2.1.2.2.2.1.1.1,(r12.1.2.2.2.1.2.2.2.1.1.2.1,(r12.1.2.2.2.1.2.2.2.1.2.1.1,(r12.1.2.2.2.1.2.2.2.1.2.1.2.1,(r12.1.2.2.2.1.2.2.2.1.2.2.1.1,(r12.1.2.2.2.1.2.2.2.1.2.2.1.2.1,(r12.1.2.2.2.1.2.2.2.1.2.2.2.1,(r12.1.2.2.2.1.2.2.2.1.2.2.2.2.1,(r12.1.2.2.2.1.2.2.2.1.2.2.2.2.2.1,(r12.1.2.2.2.1.2.2.2.1.2.2.2.2.2.2.1,(r12.1.2.2.2.1.2.2.2.2.1.1.1,(r12.1.2.2.2.1.2.2.2.2.1.1.2.1,(r12.1.2.2.2.1.2.2.2.2.1.2.1.1.1,(r12.1.2.2.2.1.2.2.2.2.1.2.1.1.2.1,(r12.1.2.2.2.1.2.2.2.2.1.2.1.2.1.1,(r12.1.2.2.2.1.2.2.2.2.1.2.1.2.1.2.1,(r12.1.2.2.2.1.2.2.2.2.2.1,r12.1.2.2.2.2))))))))))))))))))))))))))))))))))),()))) fun x21 =>
 some (((x21.2.1.1,(x21.2.1.2.1,(x21.2.1.2.2.1,(x21.2.1.2.2.2.1,(x21.2.1.2.2.2.2.1,(x21.2.1.2.2.2.2.2.1,(x21.2.1.2.2.2.2.2.2.1,(x21.2.1.2.2.2.2.2.2.2.1,(x21.2.1.2.2.2.2.2.2.2.2.1,(x21.2.1.2.2.2.2.2.2.2.2.2.1,(x21.2.1.2.2.2.2.2.2.2.2.2.2.1,()))))))))))),((x21.2.1.2.2.2.2.2.2.2.2.2.2.2.1,(x21.2.1.2.2.2.2.2.2.2.2.2.2.2.2.1,(x21.2.1.2.2.2.2.2.2.2.2.2.2.2.2.2.1,()))),((x21.2.1.2.2.2.2.2.2.2.2.2.2.2.2.2.2.1.1,(x21.2.1.2.2.2.2.2.2.2.2.2.2.2.2.2.2.1.2.1,(x21.2.1.2.2.2.2.2.2.2.2.2.2.2.2.2.2.1.2.2.1,()))),((x21.2.1.2.2.2.2.2.2.2.2.2.2.2.2.2.2.2.1,(x21.2.1.2.2.2.2.2.2.2.2.2.2.2.2.2.2.2.2.1,(x21.2.1.2.2.2.2.2.2.2.2.2.2.2.2.2.2.2.2.2.1,(((x21.2.1.2.2.2.2.2.2.2.2.2.2.2.2.2.2.2.2.2.2.1,(x21.2.1.2.2.2.2.2.2.2.2.2.2.2.2.2.2.2.2.2.2.2.1,())),((x21.2.1.2.2.2.2.2.2.2.2.2.2.2.2.2.2.2.2.2.2.2.2.1,(x21.2.1.2.2.2.2.2.2.2.2.2.2.2.2.2.2.2.2.2.2.2.2.2.1,())),((x21.2.1.2.2.2.2.2.2.2.2.2.2.2.2.2.2.2.2.2.2.2.2.2.2.1,(x21.2.1.2.2.2.2.2.2.2.2.2.2.2.2.2.2.2.2.2.2.2.2.2.2.2.1,())),(x21.2.1.2.2.2.2.2.2.2.2.2.2.2.2.2.2.2.2.2.2.2.2.2.2.2.2.1,(x21.2.1.2.2.2.2.2.2.2.2.2.2.2.2.2.2.2.2.2.2.2.2.2.2.2.2.2.1,(x21.2.1.2.2.2.2.2.2.2.2.2.2.2.2.2.2.2.2.2.2.2.2.2.2.2.2.2.2.1,(x21.2.1.2.2.2.2.2.2.2.2.2.2.2.2.2.2.2.2.2.2.2.2.2.2.2.2.2.2.2.1,()))))))),(((x21.2.1.2.2.2.2.2.2.2.2.2.2.2.2.2.2.2.2.2.2.2.2.2.2.2.2.2.2.2.2.1,(x21.2.1.2.2.2.2.2.2.2.2.2.2.2.2.2.2.2.2.2.2.2.2.2.2.2.2.2.2.2.2.2.1,())),(((x21.2.1.2.2.2.2.2.2.2.2.2.2.2.2.2.2.2.2.2.2.2.2.2.2.2.2.2.2.2.2.2.2.1,(x21.2.1.2.2.2.2.2.2.2.2.2.2.2.2.2.2.2.2.2.2.2.2.2.2.2.2.2.2.2.2.2.2.2.1,())),((x21.2.1.2.2.2.2.2.2.2.2.2.2.2.2.2.2.2.2.2.2.2.2.2.2.2.2.2.2.2.2.2.2.2.2.1,(x21.2.1.2.2.2.2.2.2.2.2.2.2.2.2.2.2.2.2.2.2.2.2.2.2.2.2.2.2.2.2.2.2.2.2.2.1,())),())),())),(x21.2.1.2.2.2.2.2.2.2.2.2.2.2.2.2.2.2.2.2.2.2.2.2.2.2.2.2.2.2.2.2.2.2.2.2.2.1,())))))),x21.2.1.2.2.2.2.2.2.2.2.2.2.2.2.2.2.2.2.2.2.2.2.2.2.2.2.2.2.2.2.2.2.2.2.2.2.2)))),(0:Int))
def qcB (m:Zv23×Zv48×Zv18×Zv21×Int×Zv61×Unit) (e:Int×Int×Int×Int×Zv71×Unit):Option Zv2 :=
 bif (e.1==0) then(Option.bind (qaP (m.1,(m.2.1,((m.2.2.1.1,(m.2.2.1.2.1,(m.2.2.1.2.2.1,()))),m.2.2.2))) e) fun r2 =>
 some ((r2.1.1,(r2.1.2.1,((r2.1.2.2.1.1,(r2.1.2.2.1.2.1,(r2.1.2.2.1.2.2.1,()))),r2.1.2.2.2))),r2.2))
 else Option.bind (bif (e.1==1) then some (((e.1==1),()),())
 else some (((e.1==3),()),())) fun x3 =>
 bif x3.1.1 then none
 else bif (e.1==2) then none
 else bif (e.1==5) then none
 else bif (e.1==6) then none
 else some ((m.1,(m.2.1,((m.2.2.1.1,(m.2.2.1.2.1,(m.2.2.1.2.2.1,()))),((m.2.2.2.1.1,((w64 ((2:Int)-e.2.1)),((3:Int),m.2.2.2.1.2.2.2))),m.2.2.2.2)))),(0:Int))
def qdI (l:List Zv72):Option (Int) :=
 bif (((l.length:Nat):Int)==0) then some (0:Int)
 else Option.bind (at? l (w64 (((l.length:Nat):Int)-1))) fun d2 =>
 some d2.2.1
def qcl (s:ByteArray) (x1:Zv75×(Unit)):Option (Zv66 ⊕ Zv73) :=
 bif (decide (x1.1.2.1<((s.size:Nat):Int))) then(Option.bind (strAt s x1.1.2.1) fun c2 =>
 some (Sum.inl (((wu64 ((ixor .u64 x1.1.1 (wu64 ((c2.toNat:Nat):Int)))*(1099511628211:Int))),(w64 (x1.1.2.1+1)),()),())))
 else some (Sum.inr ((x1.1.1,()),()))
def qdK (before:Int) (s:ByteArray):Option (Int) :=
 Option.bind (iterW (qcl s) (((ixor .u64 before (14695981039346656037:Int)),(0:Int),()),())) fun x3 =>
 some (wu64 ((ixor .u64 x3.1.1 (wu64 ((s.size:Nat):Int)))*(1099511628211:Int)))
def qd0 (before:Int) (x:ByteArray×Int×Unit):Option (Int) :=
 bif ((qay x.1)!=0) then some (qay x.1)
 else Option.bind (qdK before x.1) fun r2 =>
 bif (x.2.1 !=r2) then some (15:Int)
 else some (0:Int)
def qby (l:List Zv72) (x1:Zv78×(Unit)):Option (Zv73 ⊕ (Zv77 ⊕ Int)) :=
 bif (decide (x1.1.1<((l.length:Nat):Int))) then(Option.bind (at? l x1.1.1) fun d2 =>
 req (imp (!(x1.1.1==1000)) (qk (0:Int) x1.1.1 l.length)) (Option.bind (gopt (!(x1.1.1==1000)) (0:Int) (qdI ((l.take (x1.1.1).toNat).drop 0))) fun r3 =>
 Option.bind (gopt (!(x1.1.1==1000)) (0:Int) (qd0 r3 d2)) fun r4 =>
 bif ((x1.1.1==1000)||(r4 !=0)) then some (Sum.inr (Sum.inr x1.1.1))
 else some (Sum.inl (((w64 (x1.1.1+1)),()),()))))
 else some (Sum.inr (Sum.inl ((),())))
def qhE (l:List Zv72):Option (Int) :=
 Option.bind (α:=Zv77 ⊕ Int) (iterW (qby l) (((0:Int),()),())) (Sum.elim (fun x5 =>
 some ((l.length:Nat):Int)) some)
def qgr (l:List Zv72):Option (Int) :=
 bif (decide (((l.length:Nat):Int)>1000)) then some (2:Int)
 else Option.bind (qhE l) fun r5 =>
 bif (decide (r5<((l.length:Nat):Int))) then(req (qk (0:Int) r5 l.length) (Option.bind (qdI ((l.take (r5).toNat).drop 0)) fun r6 =>
 Option.bind (at? l r5) fun d7 =>
 Option.bind (qd0 r6 d7) fun r8 =>
 some r8))
 else some (0:Int)
def qav (s:List Zv72):Option Zv61 :=
 bif (s.isEmpty) then(agree (some ([]:List Zv72)) (req (room (([]:List Zv72).length+s.length) 24) (some (([]:List Zv72)++s))))
 else req (room (([]:List Zv72).length+s.length) 24) (some (([]:List Zv72)++s))
def qbm (l:List Zv72) (s:ByteArray):Option (Zv61×Int×Unit) :=
 Option.bind (qgr l) fun r5 =>
 bif (r5 !=0) then some (([]:List Zv72),(r5,()))
 else bif ((qay s)!=0) then some (([]:List Zv72),((qay s),()))
 else bif (((l.length:Nat):Int)==1000) then some (([]:List Zv72),((9:Int),()))
 else Option.bind (qav l) fun r6 =>
 Option.bind (qdI l) fun r7 =>
 Option.bind (qdK r7 s) fun r8 =>
 req (room (r6.length+([(s,(r8,()))]).length) 24) (some ((r6++[(s,(r8,()))]),((0:Int),())))
def qbu (m:Zv23×Zv48×Zv18×Zv21×Int×Zv61×Unit):Option Zv1 :=
 Option.bind (qP (m.2.2.1.1,(m.2.2.1.2.1,(m.2.2.1.2.2.1,())))) fun r2 =>
 Option.bind (bif ((m.2.2.2.1.2.1==0)&&(r2 !=0)) then some ((),((m.1.1,(m.1.2.1,(m.1.2.2.1,(m.1.2.2.2.1,(m.1.2.2.2.2.1,(m.1.2.2.2.2.2.1,(m.1.2.2.2.2.2.2.1,(m.1.2.2.2.2.2.2.2.1,(m.1.2.2.2.2.2.2.2.2.1,(m.1.2.2.2.2.2.2.2.2.2.1,(m.1.2.2.2.2.2.2.2.2.2.2.1,(m.2.1.1,(m.2.1.2.1,(m.2.1.2.2.1,((m.2.2.1.1,(m.2.2.1.2.1,(m.2.2.1.2.2.1,()))),(m.2.2.2.1.1,(r2,((1:Int),(m.2.2.2.1.2.2.2.1.1.1,(m.2.2.2.1.2.2.2.1.1.2.1,(m.2.2.2.1.2.2.2.1.2.1.1,(m.2.2.2.1.2.2.2.1.2.1.2.1,(m.2.2.2.1.2.2.2.1.2.2.1.1,(m.2.2.2.1.2.2.2.1.2.2.1.2.1,(m.2.2.2.1.2.2.2.1.2.2.2.1,(m.2.2.2.1.2.2.2.1.2.2.2.2.1,(m.2.2.2.1.2.2.2.1.2.2.2.2.2.1,(m.2.2.2.1.2.2.2.1.2.2.2.2.2.2.1,(m.2.2.2.1.2.2.2.2.1.1.1,(m.2.2.2.1.2.2.2.2.1.1.2.1,(m.2.2.2.1.2.2.2.2.1.2.1.1.1,(m.2.2.2.1.2.2.2.2.1.2.1.1.2.1,(m.2.2.2.1.2.2.2.2.1.2.1.2.1.1,(m.2.2.2.1.2.2.2.2.1.2.1.2.1.2.1,(m.2.2.2.1.2.2.2.2.2.1,m.2.2.2.2))))))))))))))))))))))))))))))))))),()))
 else some ((),((m.1.1,(m.1.2.1,(m.1.2.2.1,(m.1.2.2.2.1,(m.1.2.2.2.2.1,(m.1.2.2.2.2.2.1,(m.1.2.2.2.2.2.2.1,(m.1.2.2.2.2.2.2.2.1,(m.1.2.2.2.2.2.2.2.2.1,(m.1.2.2.2.2.2.2.2.2.2.1,(m.1.2.2.2.2.2.2.2.2.2.2.1,(m.2.1.1,(m.2.1.2.1,(m.2.1.2.2.1,((m.2.2.1.1,(m.2.2.1.2.1,(m.2.2.1.2.2.1,()))),(m.2.2.2.1.1,(m.2.2.2.1.2.1,(m.2.2.2.1.2.2.1,(m.2.2.2.1.2.2.2.1.1.1,(m.2.2.2.1.2.2.2.1.1.2.1,(m.2.2.2.1.2.2.2.1.2.1.1,(m.2.2.2.1.2.2.2.1.2.1.2.1,(m.2.2.2.1.2.2.2.1.2.2.1.1,(m.2.2.2.1.2.2.2.1.2.2.1.2.1,(m.2.2.2.1.2.2.2.1.2.2.2.1,(m.2.2.2.1.2.2.2.1.2.2.2.2.1,(m.2.2.2.1.2.2.2.1.2.2.2.2.2.1,(m.2.2.2.1.2.2.2.1.2.2.2.2.2.2.1,(m.2.2.2.1.2.2.2.2.1.1.1,(m.2.2.2.1.2.2.2.2.1.1.2.1,(m.2.2.2.1.2.2.2.2.1.2.1.1.1,(m.2.2.2.1.2.2.2.2.1.2.1.1.2.1,(m.2.2.2.1.2.2.2.2.1.2.1.2.1.1,(m.2.2.2.1.2.2.2.2.1.2.1.2.1.2.1,(m.2.2.2.1.2.2.2.2.2.1,m.2.2.2.2))))))))))))))))))))))))))))))))))),()))) fun x3 =>
 some (((x3.2.1.1,(x3.2.1.2.1,(x3.2.1.2.2.1,(x3.2.1.2.2.2.1,(x3.2.1.2.2.2.2.1,(x3.2.1.2.2.2.2.2.1,(x3.2.1.2.2.2.2.2.2.1,(x3.2.1.2.2.2.2.2.2.2.1,(x3.2.1.2.2.2.2.2.2.2.2.1,(x3.2.1.2.2.2.2.2.2.2.2.2.1,(x3.2.1.2.2.2.2.2.2.2.2.2.2.1,()))))))))))),((x3.2.1.2.2.2.2.2.2.2.2.2.2.2.1,(x3.2.1.2.2.2.2.2.2.2.2.2.2.2.2.1,(x3.2.1.2.2.2.2.2.2.2.2.2.2.2.2.2.1,()))),((x3.2.1.2.2.2.2.2.2.2.2.2.2.2.2.2.2.1.1,(x3.2.1.2.2.2.2.2.2.2.2.2.2.2.2.2.2.1.2.1,(x3.2.1.2.2.2.2.2.2.2.2.2.2.2.2.2.2.1.2.2.1,()))),((x3.2.1.2.2.2.2.2.2.2.2.2.2.2.2.2.2.2.1,(x3.2.1.2.2.2.2.2.2.2.2.2.2.2.2.2.2.2.2.1,(x3.2.1.2.2.2.2.2.2.2.2.2.2.2.2.2.2.2.2.2.1,(((x3.2.1.2.2.2.2.2.2.2.2.2.2.2.2.2.2.2.2.2.2.1,(x3.2.1.2.2.2.2.2.2.2.2.2.2.2.2.2.2.2.2.2.2.2.1,())),((x3.2.1.2.2.2.2.2.2.2.2.2.2.2.2.2.2.2.2.2.2.2.2.1,(x3.2.1.2.2.2.2.2.2.2.2.2.2.2.2.2.2.2.2.2.2.2.2.2.1,())),((x3.2.1.2.2.2.2.2.2.2.2.2.2.2.2.2.2.2.2.2.2.2.2.2.2.1,(x3.2.1.2.2.2.2.2.2.2.2.2.2.2.2.2.2.2.2.2.2.2.2.2.2.2.1,())),(x3.2.1.2.2.2.2.2.2.2.2.2.2.2.2.2.2.2.2.2.2.2.2.2.2.2.2.1,(x3.2.1.2.2.2.2.2.2.2.2.2.2.2.2.2.2.2.2.2.2.2.2.2.2.2.2.2.1,(x3.2.1.2.2.2.2.2.2.2.2.2.2.2.2.2.2.2.2.2.2.2.2.2.2.2.2.2.2.1,(x3.2.1.2.2.2.2.2.2.2.2.2.2.2.2.2.2.2.2.2.2.2.2.2.2.2.2.2.2.2.1,()))))))),(((x3.2.1.2.2.2.2.2.2.2.2.2.2.2.2.2.2.2.2.2.2.2.2.2.2.2.2.2.2.2.2.1,(x3.2.1.2.2.2.2.2.2.2.2.2.2.2.2.2.2.2.2.2.2.2.2.2.2.2.2.2.2.2.2.2.1,())),(((x3.2.1.2.2.2.2.2.2.2.2.2.2.2.2.2.2.2.2.2.2.2.2.2.2.2.2.2.2.2.2.2.2.1,(x3.2.1.2.2.2.2.2.2.2.2.2.2.2.2.2.2.2.2.2.2.2.2.2.2.2.2.2.2.2.2.2.2.2.1,())),((x3.2.1.2.2.2.2.2.2.2.2.2.2.2.2.2.2.2.2.2.2.2.2.2.2.2.2.2.2.2.2.2.2.2.2.1,(x3.2.1.2.2.2.2.2.2.2.2.2.2.2.2.2.2.2.2.2.2.2.2.2.2.2.2.2.2.2.2.2.2.2.2.2.1,())),())),())),(x3.2.1.2.2.2.2.2.2.2.2.2.2.2.2.2.2.2.2.2.2.2.2.2.2.2.2.2.2.2.2.2.2.2.2.2.2.1,())))))),x3.2.1.2.2.2.2.2.2.2.2.2.2.2.2.2.2.2.2.2.2.2.2.2.2.2.2.2.2.2.2.2.2.2.2.2.2.2)))),())
def qf5 (m:Zv23×Zv48×Zv18×Zv21×Int×Zv61×Unit) (e:Int×Int×Int×Int×Zv71×Unit):Option Zv2 :=
 bif (((decide (e.1<0))||(decide (e.1>6)))||((e.2.1 !=0)&&(e.2.1 !=1))) then some ((m.1,(m.2.1,((m.2.2.1.1,(m.2.2.1.2.1,(m.2.2.1.2.2.1,()))),m.2.2.2))),(1:Int))
 else bif ((decide (e.2.2.2.1<m.2.2.2.2.1))||(decide (e.2.2.2.1>100000000))) then some ((m.1,(m.2.1,((m.2.2.1.1,(m.2.2.1.2.1,(m.2.2.1.2.2.1,()))),m.2.2.2))),(11:Int))
 else bif (m.2.2.2.1.2.1 !=0) then some ((m.1,(m.2.1,((m.2.2.1.1,(m.2.2.1.2.1,(m.2.2.1.2.2.1,()))),m.2.2.2))),(14:Int))
 else bif (((m.2.2.2.2.2.1.length:Nat):Int)==1000) then some ((m.1,(m.2.1,((m.2.2.1.1,(m.2.2.1.2.1,(m.2.2.1.2.2.1,()))),m.2.2.2))),(9:Int))
 else Option.bind (qb2 m.2.1 m.2.2.2.1.2.2.2.1 e.2.2.2.1) fun r6 =>
 bif (((decide (r6.1.2.2.2.2.2.2.1≥0))&&(e.1 !=4))&&(!((e.1==5)&&(e.2.2.1==2)))) then some ((m.1,(m.2.1,((m.2.2.1.1,(m.2.2.1.2.1,(m.2.2.1.2.2.1,()))),m.2.2.2))),(11:Int))
 else Option.bind (qcB (m.1,(m.2.1,((m.2.2.1.1,(m.2.2.1.2.1,(m.2.2.1.2.2.1,()))),m.2.2.2))) e) fun r7 =>
 bif (r7.2 !=0) then some ((r7.1.1,(r7.1.2.1,((r7.1.2.2.1.1,(r7.1.2.2.1.2.1,(r7.1.2.2.1.2.2.1,()))),r7.1.2.2.2))),r7.2)
 else Option.bind (qjT e) fun r8 =>
 Option.bind (qbm r7.1.2.2.2.2.2.1 r8) fun r9 =>
 Option.bind (qbu (r7.1.1,(r7.1.2.1,((r7.1.2.2.1.1,(r7.1.2.2.1.2.1,(r7.1.2.2.1.2.2.1,()))),(r7.1.2.2.2.1,(e.2.2.2.1,(r9.1,()))))))) fun r10 =>
 some ((r10.1.1,(r10.1.2.1,((r10.1.2.2.1.1,(r10.1.2.2.1.2.1,(r10.1.2.2.1.2.2.1,()))),r10.1.2.2.2))),(0:Int))
def qhd (r:Zv69×Int×Int×Unit) (now:Int):Option Zv26 :=
 Option.bind (qho r) fun r3 =>
 bif (r3 !=0) then some ((((0:Int),((0:Int),())),(((0:Int),((0:Int),())),(((0:Int),((0:Int),())),((0:Int),((0:Int),(false,((0:Int),()))))))),(r3,()))
 else bif (!(qg now (0:Int) (100000000:Int))) then some ((((0:Int),((0:Int),())),(((0:Int),((0:Int),())),(((0:Int),((0:Int),())),((0:Int),((0:Int),(false,((0:Int),()))))))),((11:Int),()))
 else Option.bind (at? r.1 (0:Int)) fun d4 =>
 some (((d4.2.1,d4.2),(((0:Int),((0:Int),())),(((0:Int),((0:Int),())),((0:Int),(now,(false,((-1:Int),()))))))),((0:Int),()))
def qaz (s:List Zv75):Option Zv69 :=
 bif (s.isEmpty) then(agree (some ([]:List Zv75)) (req (room (([]:List Zv75).length+s.length) 16) (some (([]:List Zv75)++s))))
 else req (room (([]:List Zv75).length+s.length) 16) (some (([]:List Zv75)++s))
def qjx (r:Zv69×Int×Int×Unit):Option Zv48 :=
 Option.bind (qaz r.1) fun r2 =>
 some (r2,r.2)
def qnG:Option Zv30 :=
 some (((-1:Int),((-1:Int),())),((((-1:Int),((-1:Int),())),(((-1:Int),((-1:Int),())),())),()))
def qe2:Zv75×Zv46×Unit :=
 (((-1:Int),((-1:Int),())),((((-1:Int),((-1:Int),())),(((-1:Int),((-1:Int),())),())),()))
theorem qvo:qnG=some (qe2):=by
 unfold qnG qe2
 first | rfl | simp only[qba]
end
noncomputable section
def qbv (r:ByteArray×Int×Int×Zv32×Zv79×Bool×Bool×Zv54×Int×Int×Int×Unit) (k:Int):Option (ByteArray) :=
 Option.bind (at? r.2.2.2.1 k) fun d2 =>
 some (Go.Utf8.encode (IntKind.wrap .i32 d2.1))
def qaZ (r:ByteArray×Int×Int×Zv32×Zv79×Bool×Bool×Zv54×Int×Int×Int×Unit) (n:Int):Option (ByteArray) :=
 req (r.2.1 !=0) (some (Go.Utf8.encode (IntKind.wrap .i32 (w64 ((97:Int)+(n.tmod r.2.1))))))
def qbN (r:ByteArray×Int×Int×Zv32×Zv79×Bool×Bool×Zv54×Int×Int×Int×Unit) (n:Int):Option (ByteArray) :=
 req (r.2.1 !=0) (some (Go.Utf8.encode (IntKind.wrap .i32 (w64 ((49:Int)+(w64 (n.tdiv r.2.1)))))))
def qa0 (r:ByteArray×Int×Int×Zv32×Zv79×Bool×Bool×Zv54×Int×Int×Int×Unit) (n:Int):Option (ByteArray) :=
 Option.bind (qaZ r n) fun r3 =>
 Option.bind (qbN r n) fun r4 =>
 req (qY r3 r4) (some (r3++r4))
def qc8 (l:List Zv71) (m:Int×Int×Int×Unit) (p:Zv79×Zv57×Int×Int×Unit) (x2:Zv78×Zv67):Option ((Zv78×Zv67) ⊕ ((Unit)×Zv67)) :=
 bif (decide (x2.1.1<((l.length:Nat):Int))) then(Option.bind (at? l x2.1.1) fun d3 =>
 Option.bind (gat (((decide (d3.1≥0))&&(d3.1 !=m.1))&&(d3.2.1==m.2.1)) (0:Int) p.1 d3.1) fun d4 =>
 Option.bind (gat (((decide (d3.1≥0))&&(d3.1 !=m.1))&&(d3.2.1==m.2.1)) (0:Int) p.1 m.1) fun d5 =>
 Option.bind (bif ((((decide (d3.1≥0))&&(d3.1 !=m.1))&&(d3.2.1==m.2.1))&&(d4==d5)) then req (room (x2.2.1.1.length+([d3.1]).length) 8) (some ((),(((x2.2.1.1++[d3.1]),()),())))
 else some ((),((x2.2.1.1,()),()))) fun x6 =>
 some (Sum.inl (((w64 (x2.1.1+1)),()),((x6.2.1.1,()),()))))
 else some (Sum.inr ((),((x2.2.1.1,()),())))
def qdh (x7:(Unit)×Zv67) (r:ByteArray×Int×Int×Zv32×Zv79×Bool×Bool×Zv54×Int×Int×Int×Unit) (m:Int×Int×Int×Unit) (x10:Zv78×(Unit)):Option (Zv73 ⊕ (Zv77 ⊕ ByteArray)) :=
 bif (decide (x10.1.1<((x7.2.1.1.length:Nat):Int))) then(req (inb x10.1.1 x7.2.1.1.length) (req (r.2.1 !=0) (req (r.2.1 !=0) (bif ((w64 ((getD' x7.2.1.1 ((x10.1.1).toNat) (0:Int)).tdiv r.2.1))==(w64 (m.1.tdiv r.2.1))) then(Option.map Sum.inr (Option.map Sum.inr (bif (!(decide (x10.1.1≥0))) then(Option.bind (qbN r m.1) fun r11 =>
 some r11)
 else Option.bind (qa0 r m.1) fun r12 =>
 some r12)))
 else some (Sum.inl (((w64 (x10.1.1+1)),()),()))))))
 else some (Sum.inr (Sum.inl ((),())))
def qfO (x7:(Unit)×Zv67) (r:ByteArray×Int×Int×Zv32×Zv79×Bool×Bool×Zv54×Int×Int×Int×Unit) (m:Int×Int×Int×Unit) (x8:Zv78×(Unit)):Option (Zv73 ⊕ (Zv77 ⊕ ByteArray)) :=
 bif (decide (x8.1.1<((x7.2.1.1.length:Nat):Int))) then(req (inb x8.1.1 x7.2.1.1.length) (req (r.2.1 !=0) (req (r.2.1 !=0) (bif (((getD' x7.2.1.1 ((x8.1.1).toNat) (0:Int)).tmod r.2.1)==(m.1.tmod r.2.1)) then(Option.map Sum.inr (Option.map Sum.inr (bif (!(decide (x8.1.1≥0))) then(Option.bind (qaZ r m.1) fun r9 =>
 some r9)
 else Option.bind (α:=Zv77 ⊕ ByteArray) (iterW (qdh x7 r m) (((0:Int),()),())) (Sum.elim (fun x13 =>
 Option.bind (qbN r m.1) fun r14 =>
 some r14) some))))
 else some (Sum.inl (((w64 (x8.1.1+1)),()),()))))))
 else some (Sum.inr (Sum.inl ((),())))
def qgF (r:ByteArray×Int×Int×Zv32×Zv79×Bool×Bool×Zv54×Int×Int×Int×Unit) (p:Zv79×Zv57×Int×Int×Unit) (l:List Zv71) (m:Int×Int×Int×Unit):Option (ByteArray) :=
 Option.bind (iterW (qc8 l m p) (((0:Int),()),((([]:List Int),()),()))) fun x7 =>
 bif (((x7.2.1.1.length:Nat):Int)==0) then some (ByteArray.mk #[])
 else Option.bind (α:=Zv77 ⊕ ByteArray) (iterW (qfO x7 r m) (((0:Int),()),())) (Sum.elim (fun x15 =>
 Option.bind (qaZ r m.1) fun r16 =>
 some r16) some)
def qcg (r:ByteArray×Int×Int×Zv32×Zv79×Bool×Bool×Zv54×Int×Int×Int×Unit) (p:Zv79×Zv57×Int×Int×Unit) (l:List Zv71) (m:Int×Int×Int×Unit):Option (ByteArray) :=
 bif (decide (m.1<0)) then(Option.bind (qbv r m.2.2.1) fun r8 =>
 req (qY r8 (ByteArray.mk #[64])) (Option.bind (qa0 r m.2.1) fun r9 =>
 req (qY (r8++(ByteArray.mk #[64])) r9) (some ((r8++(ByteArray.mk #[64]))++r9))))
 else Option.bind (at? p.1 m.1) fun d10 =>
 Option.bind (qbv r (w64 ((w64 (d10-1)).tdiv 2))) fun r11 =>
 Option.bind (qgF r p l m) fun r12 =>
 req (qY r11 r12) (Option.bind (at? p.1 m.2.1) fun d13 =>
 Option.bind (bif (d13 !=0) then req (qY (r11++r12) (ByteArray.mk #[120])) (some ((((r11++r12)++(ByteArray.mk #[120])),()),()))
 else some (((r11++r12),()),())) fun x14 =>
 Option.bind (qa0 r m.2.1) fun r15 =>
 req (qY x14.1.1 r15) (Option.bind (bif (m.2.2.1 !=(w64 ((w64 (d10-1)).tdiv 2))) then(Option.bind (qbv r m.2.2.1) fun r16 =>
 req (qY (ByteArray.mk #[61]) r16) (req (qY (x14.1.1++r15) ((ByteArray.mk #[61])++r16)) (some ((((x14.1.1++r15)++((ByteArray.mk #[61])++r16)),()),()))))
 else some (((x14.1.1++r15),()),())) fun x17 =>
 some x17.1.1))
def qc6 (r2:Zv59×Int×Unit) (r:ByteArray×Int×Int×Zv32×Zv79×Bool×Bool×Zv54×Int×Int×Int×Unit) (p:Zv79×Zv57×Int×Int×Unit) (s:ByteArray) (x3:Zv78×(Unit)):Option (Zv73 ⊕ (Zv77 ⊕ Zv53)) :=
 bif (decide (x3.1.1<((r2.1.length:Nat):Int))) then(req (inb x3.1.1 r2.1.length) (Option.bind (qcg r p r2.1 (getD' r2.1 ((x3.1.1).toNat) ((0:Int),((0:Int),((0:Int),()))))) fun r4 =>
 bif (r4.toList==s.toList) then(Option.map Sum.inr (Option.map Sum.inr (bif (decide (x3.1.1<0)) then some (((0:Int),((0:Int),((0:Int),()))),((13:Int),()))
 else req (inb x3.1.1 r2.1.length) (some ((getD' r2.1 ((x3.1.1).toNat) ((0:Int),((0:Int),((0:Int),())))),((0:Int),()))))))
 else some (Sum.inl (((w64 (x3.1.1+1)),()),()))))
 else some (Sum.inr (Sum.inl ((),())))
def qbd (r:ByteArray×Int×Int×Zv32×Zv79×Bool×Bool×Zv54×Int×Int×Int×Unit) (p:Zv79×Zv57×Int×Int×Unit) (s:ByteArray):Option Zv53 :=
 Option.bind (qoE r p) fun r2 =>
 bif (r2.2.1 !=0) then some (((0:Int),((0:Int),((0:Int),()))),r2.2)
 else Option.bind (α:=Zv77 ⊕ Zv53) (iterW (qc6 r2 r p s) (((0:Int),()),())) (Sum.elim (fun x5 =>
 some (((0:Int),((0:Int),((0:Int),()))),((13:Int),()))) some)
end
noncomputable section
def qbI (s:ByteArray) (not:ByteArray) (x1:Zv78×(Unit)):Option (Zv73 ⊕ (Zv77 ⊕ Bool)) :=
 bif (decide (x1.1.1<((s.size:Nat):Int))) then(Option.bind (strAt s x1.1.1) fun c2 =>
 Option.bind (gopt (!(decide (((c2.toNat:Nat):Int)<32))) 0 (strAt s x1.1.1)) fun c3 =>
 Option.bind (gopt (!((decide (((c2.toNat:Nat):Int)<32))||(decide (((c3.toNat:Nat):Int)>126)))) 0 (strAt s x1.1.1)) fun c4 =>
 bif (((decide (((c2.toNat:Nat):Int)<32))||(decide (((c3.toNat:Nat):Int)>126)))||(decide ((qe9 not ((c4.toNat:Nat):Int))≥0))) then some (Sum.inr (Sum.inr false))
 else some (Sum.inl (((w64 (x1.1.1+1)),()),())))
 else some (Sum.inr (Sum.inl ((),())))
def qb3 (s:ByteArray) (not:ByteArray):Option (Bool) :=
 Option.bind (α:=Zv77 ⊕ Bool) (iterW (qbI s not) (((0:Int),()),())) (Sum.elim (fun x5 =>
 some true) some)
def qeY (x:Zv56×ByteArray×Zv38×Int×Unit) (x1:Zv78×(Unit)) (d2:ByteArray×ByteArray×Unit) (x5:Zv78×(Unit)):Option (Zv73 ⊕ (Zv77 ⊕ (Zv73 ⊕ (Zv77 ⊕ Int)))) :=
 bif (decide (x5.1.1<((((x.1.take (x1.1.1).toNat).drop 0).length:Nat):Int))) then(Option.bind (at? ((x.1.take (x1.1.1).toNat).drop 0) x5.1.1) fun d6 =>
 bif (d6.1.toList==d2.1.toList) then(Option.map Sum.inr (Option.map Sum.inr (bif (decide (x5.1.1≥0)) then some (Sum.inr (Sum.inr (7:Int)))
 else some (Sum.inl (((w64 (x1.1.1+1)),()),())))))
 else some (Sum.inl (((w64 (x5.1.1+1)),()),())))
 else some (Sum.inr (Sum.inl ((),())))
def qeP (x:Zv56×ByteArray×Zv38×Int×Unit) (x1:Zv78×(Unit)):Option (Zv73 ⊕ (Zv77 ⊕ Int)) :=
 bif (decide (x1.1.1<((x.1.length:Nat):Int))) then(Option.bind (at? x.1 x1.1.1) fun d2 =>
 Option.bind (qjj d2.1) fun r3 =>
 bif (!r3) then some (Sum.inr (Sum.inr (6:Int)))
 else bif (decide (((d2.2.1.size:Nat):Int)>40)) then some (Sum.inr (Sum.inr (2:Int)))
 else Option.bind (qb3 d2.2.1 (ByteArray.mk #[34])) fun r4 =>
 bif (!r4) then some (Sum.inr (Sum.inr (3:Int)))
 else req (qk (0:Int) x1.1.1 x.1.length) (Option.bind (α:=Zv77 ⊕ (Zv73 ⊕ (Zv77 ⊕ Int))) (iterW (qeY x x1 d2) (((0:Int),()),())) (Sum.elim (fun x7 =>
 some (Sum.inl (((w64 (x1.1.1+1)),()),()))) some)))
 else some (Sum.inr (Sum.inl ((),())))
def qjQ (x:Zv56×ByteArray×Zv38×Int×Unit):Option (Int) :=
 Option.bind (α:=Zv77 ⊕ Int) (iterW (qeP x) (((0:Int),()),())) (Sum.elim (fun x8 =>
 some (0:Int)) some)
def qdg (s:ByteArray):Option (Int) :=
 bif (decide (((s.size:Nat):Int)>60)) then some (2:Int)
 else Option.bind (qb3 s (ByteArray.mk #[123,125])) fun r2 =>
 bif (!r2) then some (3:Int)
 else some (0:Int)
def qfG (node:Int) (x:Zv56×ByteArray×Zv38×Int×Unit) (x1:Zv78×(Unit)):Option (Zv73 ⊕ (Zv77 ⊕ Bool)) :=
 bif (decide (x1.1.1≥0)) then(bif (x1.1.1==node) then some (Sum.inr (Sum.inr true))
 else Option.bind (at? x.2.2.1 x1.1.1) fun d2 =>
 some (Sum.inl ((d2.1,()),())))
 else some (Sum.inr (Sum.inl ((),())))
def qj0 (x:Zv56×ByteArray×Zv38×Int×Unit) (node:Int) (last:Int):Option (Bool) :=
 Option.bind (α:=Zv77 ⊕ Bool) (iterW (qfG node x) ((last,()),())) (Sum.elim (fun x3 =>
 some (node==(-1:Int))) some)
def qf6 (x:Zv56×ByteArray×Zv38×Int×Unit) (x1:Zv47×(Unit)):Option (Zv39 ⊕ Zv43) :=
 bif (decide (x1.1.2.1≥0)) then(Option.bind (at? x.2.2.1 x1.1.2.1) fun d2 =>
 req (room (x1.1.1.length+([d2.2.1]).length) 24) (Option.bind (at? x.2.2.1 x1.1.2.1) fun d3 =>
 some (Sum.inl (((x1.1.1++[d2.2.1]),d3.1,()),()))))
 else some (Sum.inr ((x1.1.1,()),()))
def qd6 (x5:Zv75×Zv51):Option (Zv36 ⊕ Zv44) :=
 bif (decide (x5.1.1<x5.1.2.1)) then req (inb x5.1.2.1 x5.2.1.length) (req (inb x5.1.1 x5.2.1.length) (req (inb x5.1.1 x5.2.1.length) (req (inb x5.1.2.1 (x5.2.1.set ((x5.1.1).toNat) (getD' x5.2.1 ((x5.1.2.1).toNat) ((0:Int),((0:Int),((0:Int),()))))).length) (some (Sum.inl (((w64 (x5.1.1+1)),(w64 (x5.1.2.1-1)),()),(((x5.2.1.set ((x5.1.1).toNat) (getD' x5.2.1 ((x5.1.2.1).toNat) ((0:Int),((0:Int),((0:Int),()))))).set ((x5.1.2.1).toNat) (getD' x5.2.1 ((x5.1.1).toNat) ((0:Int),((0:Int),((0:Int),()))))),())))))))
 else some (Sum.inr ((),(x5.2.1,())))
def qat (x:Zv56×ByteArray×Zv38×Int×Unit) (node:Int):Option Zv59 :=
 Option.bind (iterW (qf6 x) ((([]:List Zv71),node,()),())) fun x4 =>
 Option.bind (iterW (qd6) (((0:Int),(w64 (((x4.1.1.length:Nat):Int)-1)),()),(x4.1.1,()))) fun x6 =>
 some x6.2.1
def qbk (x:Zv56×ByteArray×Zv38×Int×Unit) (i:Int) (d4:Int×Zv71×ByteArray×Unit) (x7:(Unit)×Zv74) (x8:Zv78×(Unit)):Option (Zv73 ⊕ (Zv77 ⊕ Zv76)) :=
 bif (decide (x8.1.1<((((x.2.2.1.take (i).toNat).drop 0).length:Nat):Int))) then(Option.bind (α:=Zv77 ⊕ (Zv73 ⊕ (Zv77 ⊕ Zv76))) (Option.bind (at? ((x.2.2.1.take (i).toNat).drop 0) x8.1.1) fun d9 =>
 bif (d9.1 !=d4.1) then some (Sum.inl ((),()))
 else bif ((d9.2.1.1==d4.2.1.1)&&((d9.2.1.2.1==d4.2.1.2.1)&&((d9.2.1.2.2.1==d4.2.1.2.2.1)&&true))) then some (Sum.inr (Sum.inr (Sum.inr (x7.2.1,(7:Int)))))
 else some (Sum.inl ((),()))) (Sum.elim (fun x10 =>
 some (Sum.inl (((w64 (x8.1.1+1)),()),()))) some))
 else some (Sum.inr (Sum.inl ((),())))
def qbj (x:Zv56×ByteArray×Zv38×Int×Unit) (i:Int) (d4:Int×Zv71×ByteArray×Unit) (x7:(Unit)×Zv74) (r:ByteArray×Int×Int×Zv32×Zv79×Bool×Bool×Zv54×Int×Int×Int×Unit) (x12:Zv78×(Unit)):Option (Zv73 ⊕ (Zv77 ⊕ Zv76)) :=
 bif (decide (x12.1.1<((((x.2.2.1.take (i).toNat).drop 0).length:Nat):Int))) then(Option.bind (at? ((x.2.2.1.take (i).toNat).drop 0) x12.1.1) fun d13 =>
 bif (d13.1==d4.1) then(Option.map Sum.inr (Option.map Sum.inr (Option.bind (bif (decide (x12.1.1≥0)) then req (inb i x7.2.1.length) (req (inb i x7.2.1.length) (some ((),((x7.2.1.set ((i).toNat) (w64 ((getD' x7.2.1 ((i).toNat) (0:Int))+1))),()))))
 else some ((),(x7.2.1,()))) fun x14 =>
 Option.bind (agree (agree (Option.bind (qat x i) fun r15 =>
 agree (Option.bind (qah r r15) fun r16 =>
 some ((r16.2.2.1,()),())) (Option.bind (qah r r15) fun r17 =>
 some ((r17.2.2.1,()),()))) (Option.bind (qat x i) fun r18 =>
 Option.bind (qah r r18) fun r19 =>
 some ((r19.2.2.1,()),()))) (agree (Option.bind (qat x i) fun r20 =>
 agree (Option.bind (qah r r20) fun r21 =>
 some ((r21.2.2.1,()),())) (Option.bind (qah r r20) fun r22 =>
 some ((r22.2.2.1,()),()))) (agree (Option.bind (qat x i) fun r23 =>
 Option.bind (qah r r23) fun r24 =>
 some ((r24.2.2.1,()),())) (Option.bind (qat x i) fun r25 =>
 Option.bind (qah r r25) fun r26 =>
 some ((r26.2.2.1,()),()))))) fun x27 =>
 bif (x27.1.1 !=0) then some (x14.2.1,x27.1.1)
 else req (inb i x14.2.1.length) (bif (decide ((getD' x14.2.1 ((i).toNat) (0:Int))>20)) then some (x14.2.1,(2:Int))
 else some (x14.2.1,(0:Int))))))
 else some (Sum.inl (((w64 (x12.1.1+1)),()),())))
 else some (Sum.inr (Sum.inl ((),())))
def qfa (deep:List Int) (r:ByteArray×Int×Int×Zv32×Zv79×Bool×Bool×Zv54×Int×Int×Int×Unit) (x:Zv56×ByteArray×Zv38×Int×Unit) (i:Int):Option Zv76 :=
 Option.bind (at? x.2.2.1 i) fun d4 =>
 Option.bind (qdg d4.2.2.1) fun r5 =>
 bif (r5 !=0) then some (deep,r5)
 else Option.bind (gopt (!(decide (d4.1≥i))) false (qj0 x d4.1 (w64 (i-1)))) fun r6 =>
 bif ((decide (d4.1≥i))||(!r6)) then some (deep,(3:Int))
 else Option.bind (bif (decide (d4.1≥0)) then req (inb d4.1 deep.length) (req (inb i deep.length) (some ((),((deep.set ((i).toNat) (getD' deep ((d4.1).toNat) (0:Int))),()))))
 else some ((),(deep,()))) fun x7 =>
 req (qk (0:Int) i x.2.2.1.length) (Option.bind (α:=Zv77 ⊕ Zv76) (iterW (qbk x i d4 x7) (((0:Int),()),())) (Sum.elim (fun x11 =>
 req (qk (0:Int) i x.2.2.1.length) (Option.bind (α:=Zv77 ⊕ Zv76) (iterW (qbj x i d4 x7 r) (((0:Int),()),())) (Sum.elim (fun x28 =>
 Option.bind (agree (agree (Option.bind (qat x i) fun r29 =>
 agree (Option.bind (qah r r29) fun r30 =>
 some ((r30.2.2.1,()),())) (Option.bind (qah r r29) fun r31 =>
 some ((r31.2.2.1,()),()))) (Option.bind (qat x i) fun r32 =>
 Option.bind (qah r r32) fun r33 =>
 some ((r33.2.2.1,()),()))) (agree (Option.bind (qat x i) fun r34 =>
 agree (Option.bind (qah r r34) fun r35 =>
 some ((r35.2.2.1,()),())) (Option.bind (qah r r34) fun r36 =>
 some ((r36.2.2.1,()),()))) (agree (Option.bind (qat x i) fun r37 =>
 Option.bind (qah r r37) fun r38 =>
 some ((r38.2.2.1,()),())) (Option.bind (qat x i) fun r39 =>
 Option.bind (qah r r39) fun r40 =>
 some ((r40.2.2.1,()),()))))) fun x41 =>
 bif (x41.1.1 !=0) then some (x7.2.1,x41.1.1)
 else req (inb i x7.2.1.length) (bif (decide ((getD' x7.2.1 ((i).toNat) (0:Int))>20)) then some (x7.2.1,(2:Int))
 else some (x7.2.1,(0:Int)))) some))) some))
def qcs (x:Zv56×ByteArray×Zv38×Int×Unit) (r:ByteArray×Int×Int×Zv32×Zv79×Bool×Bool×Zv54×Int×Int×Int×Unit) (x7:Zv78×Zv74):Option ((Zv78×Zv74) ⊕ (Zv65 ⊕ Int)) :=
 bif (decide (x7.1.1<((x.2.2.1.length:Nat):Int))) then(Option.bind (qfa x7.2.1 r x x7.1.1) fun r8 =>
 bif (r8.2 !=0) then some (Sum.inr (Sum.inr r8.2))
 else some (Sum.inl (((w64 (x7.1.1+1)),()),(r8.1,()))))
 else some (Sum.inr (Sum.inl ((),(x7.2.1,()))))
def qax (r:ByteArray×Int×Int×Zv32×Zv79×Bool×Bool×Zv54×Int×Int×Int×Unit) (x:Zv56×ByteArray×Zv38×Int×Unit):Option (Int) :=
 Option.bind (qdG r) fun r4 =>
 bif (r4 !=0) then some r4
 else bif ((decide (((x.1.length:Nat):Int)>10))||(decide (((x.2.2.1.length:Nat):Int)>200))) then some (2:Int)
 else Option.bind (qjQ x) fun r5 =>
 bif (r5 !=0) then some r5
 else bif ((decide (x.2.2.2.1<0))||(decide (x.2.2.2.1>3))) then some (4:Int)
 else Option.bind (qdg x.2.1) fun r6 =>
 bif (r6 !=0) then some r6
 else req (decide (0≤((x.2.2.1.length:Nat):Int))&&(((x.2.2.1.length:Nat):Int)==((x.2.2.1.length:Nat):Int)&&room (((x.2.2.1.length:Nat):Int)).toNat 8)) (Option.bind (α:=Zv65 ⊕ Int) (iterW (qcs x r) (((0:Int),()),((List.replicate (((x.2.2.1.length:Nat):Int)).toNat (0:Int)),()))) (Sum.elim (fun x9 =>
 some (0:Int)) some))
def qeW (x:Zv56×ByteArray×Zv38×Int×Unit) (parent:Int) (x1:Zv68×(Unit)):Option ((Zv68×(Unit)) ⊕ Zv63) :=
 bif (decide (x1.1.2.1<((x.2.2.1.length:Nat):Int))) then(Option.bind (at? x.2.2.1 x1.1.2.1) fun d2 =>
 Option.bind (bif (d2.1==parent) then req (room (x1.1.1.length+([x1.1.2.1]).length) 8) (some (((x1.1.1++[x1.1.2.1]),()),()))
 else some ((x1.1.1,()),())) fun x3 =>
 some (Sum.inl ((x3.1.1,(w64 (x1.1.2.1+1)),()),())))
 else some (Sum.inr ((x1.1.1,()),()))
def qdy (x:Zv56×ByteArray×Zv38×Int×Unit) (parent:Int):Option Zv79 :=
 Option.bind (iterW (qeW x parent) ((([]:List Int),(0:Int),()),())) fun x4 =>
 some x4.1.1
def qhC (s:ByteArray) (x5:Zv78×(Unit)):Option (Zv73 ⊕ (Zv77 ⊕ Bool)) :=
 bif (decide (x5.1.1<(((qH s).length:Nat):Int))) then(req (inb x5.1.1 (qH s).length) (bif (((decide ((getD' (qH s) ((x5.1.1).toNat) (0:Int))<65))||(decide ((getD' (qH s) ((x5.1.1).toNat) (0:Int))>90)))&&((decide ((getD' (qH s) ((x5.1.1).toNat) (0:Int))<48))||(decide ((getD' (qH s) ((x5.1.1).toNat) (0:Int))>57)))) then some (Sum.inr (Sum.inr false))
 else some (Sum.inl (((w64 (x5.1.1+1)),()),()))))
 else some (Sum.inr (Sum.inl ((),())))
def qvW (s:ByteArray):Option (Bool) :=
 Option.bind (gopt (!((s.toList==(ByteArray.mk #[]).toList)||(decide (((s.size:Nat):Int)>8)))) 0 (strAt s (0:Int))) fun c3 =>
 Option.bind (gopt (!(((s.toList==(ByteArray.mk #[]).toList)||(decide (((s.size:Nat):Int)>8)))||(decide (((c3.toNat:Nat):Int)<65)))) 0 (strAt s (0:Int))) fun c4 =>
 bif ((((s.toList==(ByteArray.mk #[]).toList)||(decide (((s.size:Nat):Int)>8)))||(decide (((c3.toNat:Nat):Int)<65)))||(decide (((c4.toNat:Nat):Int)>90))) then some false
 else req (Nat.ble s.size 140737488355328) (Option.bind (α:=Zv77 ⊕ Bool) (iterW (qhC s) (((0:Int),()),())) (Sum.elim (fun x6 =>
 some true) some))
end
noncomputable section
abbrev fHtenS1 {A1 A2 A3 A4 A5 A6 A7 A8 A9 A10 A11 A12:Type} (x0:A1×A2×A3×A4×A5×A6×A7×A8×A9×A10×A11×A12):=((x0.1,(x0.2.1,(x0.2.2.1,(x0.2.2.2.1,(x0.2.2.2.2.1,(x0.2.2.2.2.2.1,(x0.2.2.2.2.2.2.1,(x0.2.2.2.2.2.2.2.1,(x0.2.2.2.2.2.2.2.2.1,(x0.2.2.2.2.2.2.2.2.2.1,(x0.2.2.2.2.2.2.2.2.2.2.1,()))))))))))),(x0.2.2.2.2.2.2.2.2.2.2.2,()))
abbrev qsq {A1 A2 A3 A4 A5 A6 A7 A8 A9 A10 A11 A12 A13 A14 A15:Type} (x0:(A1×A2×A3×A4×A5×A6×A7×A8×A9×A10×A11×A12)×A13×A14) (a0:A15):=((a0,()),((x0.1.1,(x0.1.2.1,(x0.1.2.2.1,(x0.1.2.2.2.1,(x0.1.2.2.2.2.1,(x0.1.2.2.2.2.2.1,(x0.1.2.2.2.2.2.2.1,(x0.1.2.2.2.2.2.2.2.1,(x0.1.2.2.2.2.2.2.2.2.1,(x0.1.2.2.2.2.2.2.2.2.2.1,(x0.1.2.2.2.2.2.2.2.2.2.2.1,x0.2.1))))))))))),()))
abbrev fHtenS3 {A1 A2 A3 A4 A5 A6 A7 A8 A9 A10 A11 A12 A13 A14 A15 A16:Type} (x0:((A1×A2×A3×A4×A5×A6×A7×A8×A9×A10×A11×A12)×A13×A14)×A15) (a0:A16):=((x0.2,(a0,())),((x0.1.1.1,(x0.1.1.2.1,(x0.1.1.2.2.1,(x0.1.1.2.2.2.1,(x0.1.1.2.2.2.2.1,(x0.1.1.2.2.2.2.2.1,(x0.1.1.2.2.2.2.2.2.1,(x0.1.1.2.2.2.2.2.2.2.1,(x0.1.1.2.2.2.2.2.2.2.2.1,(x0.1.1.2.2.2.2.2.2.2.2.2.1,(x0.1.1.2.2.2.2.2.2.2.2.2.2.1,x0.1.2.1))))))))))),()))
abbrev fHtenS4 {A1 A2 A3 A4 A5 A6 A7 A8 A9 A10 A11 A12 A13 A14 A15 A16 A17:Type} (x0:A1×A2×A3×A4×A5×A6×A7×A8×A9×A10×A11×A12) (a0:A13) (a1:A14) (a2:A15) (a3:A16) (a4:A17):=(((x0.1,(x0.2.1,(x0.2.2.1,(x0.2.2.2.1,(x0.2.2.2.2.1,(x0.2.2.2.2.2.1,(x0.2.2.2.2.2.2.1,(x0.2.2.2.2.2.2.2.1,(x0.2.2.2.2.2.2.2.2.1,(x0.2.2.2.2.2.2.2.2.2.1,(x0.2.2.2.2.2.2.2.2.2.2.1,()))))))))))),(x0.2.2.2.2.2.2.2.2.2.2.2,())),((a0,((a1,(a2,())),a3)),(a4,())))
abbrev fHtenS5 {A1 A2 A3 A4 A5 A6 A7 A8 A9 A10 A11 A12 A13 A14 A15:Type} (x0:(A1×A2)×(A3×A4×A5×A6×A7×A8×A9×A10×A11×A12×A13×A14)×A15):=(((x0.2.1.1,(x0.2.1.2.1,(x0.2.1.2.2.1,(x0.2.1.2.2.2.1,(x0.2.1.2.2.2.2.1,(x0.2.1.2.2.2.2.2.1,(x0.2.1.2.2.2.2.2.2.1,(x0.2.1.2.2.2.2.2.2.2.1,(x0.2.1.2.2.2.2.2.2.2.2.1,(x0.2.1.2.2.2.2.2.2.2.2.2.1,(x0.2.1.2.2.2.2.2.2.2.2.2.2.1,()))))))))))),(x0.2.1.2.2.2.2.2.2.2.2.2.2.2,())),x0.1.1)
def qcI:Option Zv23 :=
 some ((ByteArray.mk #[84,73,67]),((3:Int),((3:Int),([((83:Int),((5:Int),((0:Int),(([]:List Zv62),()))))],((List.replicate 9 (0:Int)),(false,(false,([((0:Int),((0:Int),((3:Int),(false,()))))],((2:Int),((0:Int),((0:Int),())))))))))))
def qa:ByteArray×Int×Int×Zv32×Zv79×Bool×Bool×Zv54×Int×Int×Int×Unit :=
 ((ByteArray.mk #[84,73,67]),((3:Int),((3:Int),([((83:Int),((5:Int),((0:Int),(([]:List Zv62),()))))],((List.replicate 9 (0:Int)),(false,(false,([((0:Int),((0:Int),((3:Int),(false,()))))],((2:Int),((0:Int),((0:Int),())))))))))))
theorem qj3:qcI=some (qa):=by
 unfold qcI qa
 first | rfl | simp only[qba]
def qbz:Option Zv48 :=
 some ([((0:Int),((60000:Int),()))],((1000:Int),((0:Int),())))
def gamehalltopH10Minute:Zv69×Int×Int×Unit :=
 ([((0:Int),((60000:Int),()))],((1000:Int),((0:Int),())))
theorem qhw:qbz=some (gamehalltopH10Minute):=by
 unfold qbz gamehalltopH10Minute
 first | rfl | simp only[qba]
def qaV (a:List Zv71) (b:List Zv71) (x1:Zv78×(Unit)):Option (Zv73 ⊕ (Zv77 ⊕ Bool)) :=
 bif (decide (x1.1.1<((a.length:Nat):Int))) then(Option.bind (at? a x1.1.1) fun d2 =>
 Option.bind (at? b x1.1.1) fun d3 =>
 bif (!((d2.1==d3.1)&&((d2.2.1==d3.2.1)&&((d2.2.2.1==d3.2.2.1)&&true)))) then some (Sum.inr (Sum.inr false))
 else some (Sum.inl (((w64 (x1.1.1+1)),()),())))
 else some (Sum.inr (Sum.inl ((),())))
def qaw (a:List Zv71) (b:List Zv71):Option (Bool) :=
 bif (((a.length:Nat):Int)!=((b.length:Nat):Int)) then some false
 else Option.bind (α:=Zv77 ⊕ Bool) (iterW (qaV a b) (((0:Int),()),())) (Sum.elim (fun x4 =>
 some true) some)
def qa7 (w:Zv23×Zv25×Unit) (p:Zv79×Zv57×Int×Int×Unit) (n:Int):Option Zv10 :=
 Option.bind (at? w.2.1.2.2.1 n) fun d5 =>
 Option.bind (qaj w.1 p) fun r6 =>
 Option.bind (qcg w.1 p r6 d5.2.1) fun r7 =>
 Option.bind (at? w.2.1.2.2.1 n) fun d8 =>
 Option.bind (bif (!(d8.2.2.1.toList==(ByteArray.mk #[]).toList)) then req (qY (ByteArray.mk #[123]) d8.2.2.1) (req (qY ((ByteArray.mk #[123])++d8.2.2.1) (ByteArray.mk #[125])) (req (room (([r7]).length+([(((ByteArray.mk #[123])++d8.2.2.1)++(ByteArray.mk #[125]))]).length) 16) (some ((([r7]++[(((ByteArray.mk #[123])++d8.2.2.1)++(ByteArray.mk #[125]))]),()),()))))
 else some (([r7],()),())) fun x9 =>
 some (w,x9.1.1)
def qa3 (r3:List Int) (p:Zv79×Zv57×Int×Int×Unit) (self:Zv6→Option Zv10) (x5:Zv60×Zv17):Option ((Zv60×Zv17) ⊕ (((List ByteArray)×Unit)×Zv17)) :=
 bif (decide (x5.1.2.1<((((r3.take (((r3.length:Nat):Int)).toNat).drop 1).length:Nat):Int))) then(Option.bind (at? ((r3.take (((r3.length:Nat):Int)).toNat).drop 1) x5.1.2.1) fun d6 =>
 Option.bind (agree (Option.bind (qa7 (fHtenS1 x5.2.1) p d6) fun r7 =>
 agree (Option.bind (at? r7.1.2.1.2.2.1 d6) fun d8 =>
 Option.bind (qr r7.1.1 p d8.2.1) fun r9 =>
 Option.bind (self (r7.1,(r9.1,((r9.2.1.1,(r9.2.1.2.1,())),r9.2.2)),d6,())) fun r10 =>
 req (room (r7.2.length+r10.2.length) 16) (some (qsq r10.1 (r7.2++r10.2)))) (Option.bind (at? r7.1.2.1.2.2.1 d6) fun d8 =>
 Option.bind (qr r7.1.1 p d8.2.1) fun r9 =>
 Option.bind (self (r7.1,(r9.1,((r9.2.1.1,(r9.2.1.2.1,())),r9.2.2)),d6,())) fun r10 =>
 req (room (r7.2.length+r10.2.length) 16) (some (qsq r10.1 (r7.2++r10.2))))) (Option.bind (qa7 (fHtenS1 x5.2.1) p d6) fun r7 =>
 Option.bind (at? r7.1.2.1.2.2.1 d6) fun d8 =>
 Option.bind (qr r7.1.1 p d8.2.1) fun r9 =>
 Option.bind (self (r7.1,(r9.1,((r9.2.1.1,(r9.2.1.2.1,())),r9.2.2)),d6,())) fun r10 =>
 req (room (r7.2.length+r10.2.length) 16) (some (qsq r10.1 (r7.2++r10.2))))) fun x11 =>
 Option.bind (joinS x11.1.1 (ByteArray.mk #[32])) fun r12 =>
 req (qY (ByteArray.mk #[40]) r12) (req (qY ((ByteArray.mk #[40])++r12) (ByteArray.mk #[41])) (req (room (x5.1.1.length+([(((ByteArray.mk #[40])++r12)++(ByteArray.mk #[41]))]).length) 16) (some (Sum.inl (((x5.1.1++[(((ByteArray.mk #[40])++r12)++(ByteArray.mk #[41]))]),(w64 (x5.1.2.1+1)),()),(x11.2.1,())))))))
 else some (Sum.inr ((x5.1.1,()),(x5.2.1,())))
def qbo (self:Zv6→Option Zv10) (w:Zv23×Zv25×Unit) (p:Zv79×Zv57×Int×Int×Unit) (parent:Int):Option Zv10 :=
 Option.bind (qdy w.2.1 parent) fun r3 =>
 bif (((r3.length:Nat):Int)==0) then some (w,([]:List ByteArray))
 else req (inb (0:Int) r3.length) (Option.bind (qa7 w p (getD' r3 0 (0:Int))) fun r4 =>
 req (qk (1:Int) ((r3.length:Nat):Int) r3.length) (Option.bind (iterW (qa3 r3 p self) (fHtenS3 r4 (0:Int))) fun x13 =>
 Option.bind (req (inb (0:Int) r3.length) (req (inb (0:Int) r3.length) (agT (.n (.n (.l) (.l)) (.n (.l) (.n (.l) (.l)))) (Option.bind (at? x13.2.1.2.2.2.2.2.2.2.2.2.2.2.2.2.1 (getD' r3 0 (0:Int))) fun d14 =>
 Option.bind (qr (x13.2.1.1,(x13.2.1.2.1,(x13.2.1.2.2.1,(x13.2.1.2.2.2.1,(x13.2.1.2.2.2.2.1,(x13.2.1.2.2.2.2.2.1,(x13.2.1.2.2.2.2.2.2.1,(x13.2.1.2.2.2.2.2.2.2.1,(x13.2.1.2.2.2.2.2.2.2.2.1,(x13.2.1.2.2.2.2.2.2.2.2.2.1,(x13.2.1.2.2.2.2.2.2.2.2.2.2.1,()))))))))))) p d14.2.1) fun r15 =>
 Option.bind (self (fHtenS4 x13.2.1 r15.1 r15.2.1.1 r15.2.1.2.1 r15.2.2 (getD' r3 0 (0:Int)))) fun r16 =>
 req (room (x13.1.1.length+r16.2.length) 16) (some (qsq r16.1 (x13.1.1++r16.2))))))) fun x17 =>
 some (fHtenS5 x17)))
def qv (self:Zv6→Option Zv10) (x:Zv14×Zv33×Int×Unit):Option Zv10:=qbo self x.1 x.2.1 x.2.2.1
def qcc (w:Zv23×Zv25×Unit) (p:Zv79×Zv57×Int×Int×Unit) (parent:Int):Option Zv10:=fixW qv (w,p,parent,())
def qfm:Option (ByteArray×ByteArray×ByteArray×ByteArray×Unit) :=
 some ((ByteArray.mk #[42]),((ByteArray.mk #[49,45,48]),((ByteArray.mk #[48,45,49]),((ByteArray.mk #[49,47,50]),()))))
def qt:ByteArray×ByteArray×ByteArray×ByteArray×Unit :=
 ((ByteArray.mk #[42]),((ByteArray.mk #[49,45,48]),((ByteArray.mk #[48,45,49]),((ByteArray.mk #[49,47,50]),()))))
theorem qov:qfm=some (qt):=by
 unfold qfm qt
 first | rfl | simp only[qba]
def qsl (x:Zv56×ByteArray×Zv38×Int×Unit) (x6:Zv78×Zv74):Option ((Zv78×Zv74) ⊕ Zv65) :=
 bif (decide (x6.1.1<((x.1.length:Nat):Int))) then(Option.bind (at? x.1 x6.1.1) fun d7 =>
 req (qY (ByteArray.mk #[91]) d7.1) (req (qY ((ByteArray.mk #[91])++d7.1) (ByteArray.mk #[32,34])) (req (qY (((ByteArray.mk #[91])++d7.1)++(ByteArray.mk #[32,34])) d7.2.1) (req (qY ((((ByteArray.mk #[91])++d7.1)++(ByteArray.mk #[32,34]))++d7.2.1) (ByteArray.mk #[34,93,10])) (req (room (x6.2.1.length+(((((ByteArray.mk #[91])++d7.1)++(ByteArray.mk #[32,34]))++d7.2.1)++(ByteArray.mk #[34,93,10])).size) 1) (req (Nat.blt 0 (x6.2.1++qH (((((ByteArray.mk #[91])++d7.1)++(ByteArray.mk #[32,34]))++d7.2.1)++(ByteArray.mk #[34,93,10]))).length) (some (Sum.inl (((w64 (x6.1.1+1)),()),((x6.2.1++qH (((((ByteArray.mk #[91])++d7.1)++(ByteArray.mk #[32,34]))++d7.2.1)++(ByteArray.mk #[34,93,10]))),()))))))))))
 else some (Sum.inr ((),(x6.2.1,())))
def qcM (r:ByteArray×Int×Int×Zv32×Zv79×Bool×Bool×Zv54×Int×Int×Int×Unit) (x:Zv56×ByteArray×Zv38×Int×Unit):Option Zv72 :=
 Option.bind (qax r x) fun r5 =>
 bif (r5 !=0) then some ((ByteArray.mk #[]),(r5,()))
 else Option.bind (iterW (qsl x) (((0:Int),()),(([]:List Int),()))) fun x8 =>
 Option.bind (bif (!(x.2.1.toList==(ByteArray.mk #[]).toList)) then req (qY (ByteArray.mk #[123]) x.2.1) (req (qY ((ByteArray.mk #[123])++x.2.1) (ByteArray.mk #[125])) (req (room (([]:List ByteArray).length+([(((ByteArray.mk #[123])++x.2.1)++(ByteArray.mk #[125]))]).length) 16) (some (((([]:List ByteArray)++[(((ByteArray.mk #[123])++x.2.1)++(ByteArray.mk #[125]))]),()),()))))
 else some ((([]:List ByteArray),()),())) fun x9 =>
 Option.bind (qbx r) fun r10 =>
 Option.bind (qcc (r,(x,())) (r10.1.1,((r10.1.2.1.1,(r10.1.2.1.2.1,())),r10.1.2.2)) (-1:Int)) fun r11 =>
 req (room (x9.1.1.length+r11.2.length) 16) (req (inb x.2.2.2.1 4) (req (room ((x9.1.1++r11.2).length+([(getD' [(qt).1,((qt).2).1,(((qt).2).2).1,((((qt).2).2).2).1] (x.2.2.2.1).toNat ByteArray.empty)]).length) 16) (Option.bind (joinS ((x9.1.1++r11.2)++[(getD' [(qt).1,((qt).2).1,(((qt).2).2).1,((((qt).2).2).2).1] (x.2.2.2.1).toNat ByteArray.empty)]) (ByteArray.mk #[32])) fun r12 =>
 req (qY r12 (ByteArray.mk #[10])) (req (room (x8.2.1.length+(r12++(ByteArray.mk #[10])).size) 1) (req (Nat.blt 0 (x8.2.1++qH (r12++(ByteArray.mk #[10]))).length) (bif (decide ((((x8.2.1++qH (r12++(ByteArray.mk #[10]))).length:Nat):Int)>8192)) then some ((ByteArray.mk #[]),((2:Int),()))
 else some ((strOf (x8.2.1++qH (r12++(ByteArray.mk #[10])))),((0:Int),()))))))))
def qbl:Option (Bool) :=
 Option.bind (qbx ((qa).1,(((qa).2).1,((((qa).2).2).1,(((((qa).2).2).2).1,((((((qa).2).2).2).2).1,(((((((qa).2).2).2).2).2).1,((((((((qa).2).2).2).2).2).2).1,(((((((((qa).2).2).2).2).2).2).2).1,((((((((((qa).2).2).2).2).2).2).2).2).1,(((((((((((qa).2).2).2).2).2).2).2).2).2).1,((((((((((((qa).2).2).2).2).2).2).2).2).2).2).1,())))))))))))) fun r14 =>
 bif (r14.2.1 !=0) then(bif (r14.2.1 !=0) then(bif (r14.2.1 !=0) then some false
 else none)
 else Option.bind (qhd ((gamehalltopH10Minute).1,(((gamehalltopH10Minute).2).1,((((gamehalltopH10Minute).2).2).1,()))) (0:Int)) fun r15 =>
 bif (r15.2.1 !=0) then(bif (r15.2.1 !=0) then some false
 else none)
 else Option.bind (qaT ((qa).1,(((qa).2).1,((((qa).2).2).1,(((((qa).2).2).2).1,((((((qa).2).2).2).2).1,(((((((qa).2).2).2).2).2).1,((((((((qa).2).2).2).2).2).2).1,(((((((((qa).2).2).2).2).2).2).2).1,((((((((((qa).2).2).2).2).2).2).2).2).1,(((((((((((qa).2).2).2).2).2).2).2).2).2).1,((((((((((((qa).2).2).2).2).2).2).2).2).2).2).1,())))))))))))) fun r16 =>
 Option.bind (qjx ((gamehalltopH10Minute).1,(((gamehalltopH10Minute).2).1,((((gamehalltopH10Minute).2).2).1,())))) fun r17 =>
 Option.bind (itoaS (0:Int)) fun r18 =>
 req (qY (ByteArray.mk #[115,116,97,114,116,32]) r18) (Option.bind (qbm ([]:List Zv72) ((ByteArray.mk #[115,116,97,114,116,32])++r18)) fun r19 =>
 none))
 else Option.bind (agree (Option.bind (qaT ((qa).1,(((qa).2).1,((((qa).2).2).1,(((((qa).2).2).2).1,((((((qa).2).2).2).2).1,(((((((qa).2).2).2).2).2).1,((((((((qa).2).2).2).2).2).2).1,(((((((((qa).2).2).2).2).2).2).2).1,((((((((((qa).2).2).2).2).2).2).2).2).1,(((((((((((qa).2).2).2).2).2).2).2).2).2).1,((((((((((((qa).2).2).2).2).2).2).2).2).2).2).1,())))))))))))) fun r20 =>
 some (((r20,([(r14.1.1,((r14.1.2.1.1,(r14.1.2.1.2.1,())),r14.1.2.2))],(([]:List Zv71),()))),(0:Int),()),())) (agree (Option.bind (qaT ((qa).1,(((qa).2).1,((((qa).2).2).1,(((((qa).2).2).2).1,((((((qa).2).2).2).2).1,(((((((qa).2).2).2).2).2).1,((((((((qa).2).2).2).2).2).2).1,(((((((((qa).2).2).2).2).2).2).2).1,((((((((((qa).2).2).2).2).2).2).2).2).1,(((((((((((qa).2).2).2).2).2).2).2).2).2).1,((((((((((((qa).2).2).2).2).2).2).2).2).2).2).1,())))))))))))) fun r20 =>
 some (((r20,([(r14.1.1,((r14.1.2.1.1,(r14.1.2.1.2.1,())),r14.1.2.2))],(([]:List Zv71),()))),(0:Int),()),())) (Option.bind (qaT ((qa).1,(((qa).2).1,((((qa).2).2).1,(((((qa).2).2).2).1,((((((qa).2).2).2).2).1,(((((((qa).2).2).2).2).2).1,((((((((qa).2).2).2).2).2).2).1,(((((((((qa).2).2).2).2).2).2).2).1,((((((((((qa).2).2).2).2).2).2).2).2).1,(((((((((((qa).2).2).2).2).2).2).2).2).2).1,((((((((((((qa).2).2).2).2).2).2).2).2).2).2).1,())))))))))))) fun r20 =>
 some (((r20,([(r14.1.1,((r14.1.2.1.1,(r14.1.2.1.2.1,())),r14.1.2.2))],(([]:List Zv71),()))),(0:Int),()),())))) fun x21 =>
 bif (x21.1.2.1 !=0) then(bif (x21.1.2.1 !=0) then some false
 else none)
 else Option.bind (qhd ((gamehalltopH10Minute).1,(((gamehalltopH10Minute).2).1,((((gamehalltopH10Minute).2).2).1,()))) (0:Int)) fun r22 =>
 bif (r22.2.1 !=0) then(bif (r22.2.1 !=0) then some false
 else none)
 else Option.bind (qaT ((qa).1,(((qa).2).1,((((qa).2).2).1,(((((qa).2).2).2).1,((((((qa).2).2).2).2).1,(((((((qa).2).2).2).2).2).1,((((((((qa).2).2).2).2).2).2).1,(((((((((qa).2).2).2).2).2).2).2).1,((((((((((qa).2).2).2).2).2).2).2).2).1,(((((((((((qa).2).2).2).2).2).2).2).2).2).1,((((((((((((qa).2).2).2).2).2).2).2).2).2).2).1,())))))))))))) fun r23 =>
 Option.bind (qjx ((gamehalltopH10Minute).1,(((gamehalltopH10Minute).2).1,((((gamehalltopH10Minute).2).2).1,())))) fun r24 =>
 Option.bind (itoaS (0:Int)) fun r25 =>
 req (qY (ByteArray.mk #[115,116,97,114,116,32]) r25) (Option.bind (qbm ([]:List Zv72) ((ByteArray.mk #[115,116,97,114,116,32])++r25)) fun r26 =>
 Option.bind (qbu (r23,((r24.1,r24.2),((x21.1.1.1,(x21.1.1.2.1,(x21.1.1.2.2.1,()))),((([]:List Zv71),((0:Int),((0:Int),(r22.1,(((((qe2).1).1,((((qe2).1).2).1,())),(((((((qe2).2).1).1).1,((((((qe2).2).1).1).2).1,())),(((((((qe2).2).1).2).1).1,(((((((qe2).2).1).2).1).2).1,())),())),())),(([]:List Zv52),())))))),((0:Int),(r26.1,()))))))) fun r27 =>
 Option.bind (qf5 (r27.1.1,(r27.1.2.1,((r27.1.2.2.1.1,(r27.1.2.2.1.2.1,(r27.1.2.2.1.2.2.1,()))),r27.1.2.2.2))) ((0:Int),((0:Int),((0:Int),((10:Int),(((-1:Int),((4:Int),((0:Int),()))),())))))) fun r28 =>
 Option.bind (agree (Option.bind (qcM ((qa).1,(((qa).2).1,((((qa).2).2).1,(((((qa).2).2).2).1,((((((qa).2).2).2).2).1,(((((((qa).2).2).2).2).2).1,((((((((qa).2).2).2).2).2).2).1,(((((((((qa).2).2).2).2).2).2).2).1,((((((((((qa).2).2).2).2).2).2).2).2).1,(((((((((((qa).2).2).2).2).2).2).2).2).2).1,((((((((((((qa).2).2).2).2).2).2).2).2).2).2).1,()))))))))))) (([]:List Zv64),((ByteArray.mk #[]),([((-1:Int),(((-1:Int),((4:Int),((0:Int),()))),((ByteArray.mk #[]),())))],((0:Int),()))))) fun r29 =>
 some ((r29.1,r29.2.1,()),())) (Option.bind (qcM ((qa).1,(((qa).2).1,((((qa).2).2).1,(((((qa).2).2).2).1,((((((qa).2).2).2).2).1,(((((((qa).2).2).2).2).2).1,((((((((qa).2).2).2).2).2).2).1,(((((((((qa).2).2).2).2).2).2).2).1,((((((((((qa).2).2).2).2).2).2).2).2).1,(((((((((((qa).2).2).2).2).2).2).2).2).2).1,((((((((((((qa).2).2).2).2).2).2).2).2).2).2).1,()))))))))))) (([]:List Zv64),((ByteArray.mk #[]),([((-1:Int),(((-1:Int),((4:Int),((0:Int),()))),((ByteArray.mk #[]),())))],((0:Int),()))))) fun r29 =>
 some ((r29.1,r29.2.1,()),()))) fun x30 =>
 Option.bind (bif (r28.2==0) then(Option.bind (qG (r28.1.2.2.1.1,(r28.1.2.2.1.2.1,(r28.1.2.2.1.2.2.1,())))) fun r31 =>
 Option.bind (qR r28.1.2.2.2.1.2.2.2.2.2.1) fun r32 =>
 some (((((((r31.length:Nat):Int)==1)&&(x30.1.2.1==0))&&(x30.1.1.toList==(ByteArray.mk #[83,64,98,50,32,42,10]).toList)),()),()))
 else some ((false,()),())) fun x33 =>
 some x33.1.1)
end
noncomputable section
abbrev qcz {A1 A2 A3 A4 A5 A6 A7 A8 A9 A10 A11 A12 A13 A14 A15 A16 A17 A18 A19 A20:Type} (x0:(A1×A2×A3×A4×A5×A6×A7×A8×A9×A10×A11×A12)×A13×(A14×A15×A16×A17)×A18) (a0:A19) (a1:A20):=((a0,()),((x0.1.1,(x0.1.2.1,(x0.1.2.2.1,(x0.1.2.2.2.1,(x0.1.2.2.2.2.1,(x0.1.2.2.2.2.2.1,(x0.1.2.2.2.2.2.2.1,(x0.1.2.2.2.2.2.2.2.1,(x0.1.2.2.2.2.2.2.2.2.1,(x0.1.2.2.2.2.2.2.2.2.2.1,(x0.1.2.2.2.2.2.2.2.2.2.2.1,(x0.2.1,(x0.2.2.1.1,(x0.2.2.1.2.1,(x0.2.2.1.2.2.1,x0.2.2.1.2.2.2))))))))))))))),(a1,())))
abbrev qqk {A1 A2 A3 A4 A5 A6 A7 A8 A9 A10 A11 A12 A13 A14 A15 A16 A17 A18 A19 A20:Type} (x0:(A1×A2)×(A3×A4×A5×A6×A7×A8×A9×A10×A11×A12×A13×A14×A15×A16×A17×A18)×A19×A20):=(((x0.2.1.1,(x0.2.1.2.1,(x0.2.1.2.2.1,(x0.2.1.2.2.2.1,(x0.2.1.2.2.2.2.1,(x0.2.1.2.2.2.2.2.1,(x0.2.1.2.2.2.2.2.2.1,(x0.2.1.2.2.2.2.2.2.2.1,(x0.2.1.2.2.2.2.2.2.2.2.1,(x0.2.1.2.2.2.2.2.2.2.2.2.1,(x0.2.1.2.2.2.2.2.2.2.2.2.2.1,()))))))))))),(x0.2.1.2.2.2.2.2.2.2.2.2.2.2.1,((x0.2.1.2.2.2.2.2.2.2.2.2.2.2.2.1,(x0.2.1.2.2.2.2.2.2.2.2.2.2.2.2.2.1,(x0.2.1.2.2.2.2.2.2.2.2.2.2.2.2.2.2.1,x0.2.1.2.2.2.2.2.2.2.2.2.2.2.2.2.2.2))),()))),(x0.2.2.1,x0.1.1))
abbrev qgU {A1 A2 A3 A4 A5 A6 A7 A8 A9 A10 A11 A12 A13 A14 A15 A16:Type} (x0:A1×A2×A3×A4×A5×A6×A7×A8×A9×A10×A11×A12×A13×A14×A15×A16):=((x0.1,(x0.2.1,(x0.2.2.1,(x0.2.2.2.1,(x0.2.2.2.2.1,(x0.2.2.2.2.2.1,(x0.2.2.2.2.2.2.1,(x0.2.2.2.2.2.2.2.1,(x0.2.2.2.2.2.2.2.2.1,(x0.2.2.2.2.2.2.2.2.2.1,(x0.2.2.2.2.2.2.2.2.2.2.1,()))))))))))),(x0.2.2.2.2.2.2.2.2.2.2.2.1,((x0.2.2.2.2.2.2.2.2.2.2.2.2.1,(x0.2.2.2.2.2.2.2.2.2.2.2.2.2.1,(x0.2.2.2.2.2.2.2.2.2.2.2.2.2.2.1,x0.2.2.2.2.2.2.2.2.2.2.2.2.2.2.2))),())))
abbrev qkv {A1 A2 A3 A4 A5 A6 A7 A8 A9 A10 A11 A12 A13 A14 A15 A16 A17 A18 A19 A20 A21:Type} (x0:((A1×A2×A3×A4×A5×A6×A7×A8×A9×A10×A11×A12)×A13×(A14×A15×A16×A17)×A18)×A19×A20) (a0:A21):=((a0,()),((x0.1.1.1,(x0.1.1.2.1,(x0.1.1.2.2.1,(x0.1.1.2.2.2.1,(x0.1.1.2.2.2.2.1,(x0.1.1.2.2.2.2.2.1,(x0.1.1.2.2.2.2.2.2.1,(x0.1.1.2.2.2.2.2.2.2.1,(x0.1.1.2.2.2.2.2.2.2.2.1,(x0.1.1.2.2.2.2.2.2.2.2.2.1,(x0.1.1.2.2.2.2.2.2.2.2.2.2.1,(x0.1.2.1,(x0.1.2.2.1.1,(x0.1.2.2.1.2.1,(x0.1.2.2.1.2.2.1,x0.1.2.2.1.2.2.2))))))))))))))),(x0.2.1,())))
abbrev qqi {A1 A2 A3 A4 A5 A6 A7 A8 A9 A10 A11 A12 A13 A14 A15 A16 A17 A18 A19 A20 A21 A22:Type} (x0:(A1×A2×A3×A4×A5×A6×A7×A8×A9×A10×A11×A12×A13×A14×A15×A16)×A17×A18) (a0:A19) (a1:A20) (a2:A21) (a3:A22):=(((x0.1.1,(x0.1.2.1,(x0.1.2.2.1,(x0.1.2.2.2.1,(x0.1.2.2.2.2.1,(x0.1.2.2.2.2.2.1,(x0.1.2.2.2.2.2.2.1,(x0.1.2.2.2.2.2.2.2.1,(x0.1.2.2.2.2.2.2.2.2.1,(x0.1.2.2.2.2.2.2.2.2.2.1,(x0.1.2.2.2.2.2.2.2.2.2.2.1,()))))))))))),(x0.1.2.2.2.2.2.2.2.2.2.2.2.1,((x0.1.2.2.2.2.2.2.2.2.2.2.2.2.1,(x0.1.2.2.2.2.2.2.2.2.2.2.2.2.2.1,(x0.1.2.2.2.2.2.2.2.2.2.2.2.2.2.2.1,x0.1.2.2.2.2.2.2.2.2.2.2.2.2.2.2.2))),()))),((),(x0.2.1,((a0,((a1,(a2,())),a3)),()))))
abbrev qqz {A1 A2 A3 A4 A5 A6 A7 A8 A9 A10 A11 A12 A13 A14 A15 A16 A17 A18 A19 A20 A21:Type} (x0:(A1×A2×A3×A4×A5×A6×A7×A8×A9×A10×A11×A12×A13×A14×A15×A16)×A17×A18) (a0:A19) (a1:A20) (a2:A21):=(((x0.1.1,(x0.1.2.1,(x0.1.2.2.1,(x0.1.2.2.2.1,(x0.1.2.2.2.2.1,(x0.1.2.2.2.2.2.1,(x0.1.2.2.2.2.2.2.1,(x0.1.2.2.2.2.2.2.2.1,(x0.1.2.2.2.2.2.2.2.2.1,(x0.1.2.2.2.2.2.2.2.2.2.1,(x0.1.2.2.2.2.2.2.2.2.2.2.1,()))))))))))),(x0.1.2.2.2.2.2.2.2.2.2.2.2.1,((x0.1.2.2.2.2.2.2.2.2.2.2.2.2.1,(x0.1.2.2.2.2.2.2.2.2.2.2.2.2.2.1,(a0,x0.1.2.2.2.2.2.2.2.2.2.2.2.2.2.2.2))),()))),((),(x0.2.1,(a1,(a2,())))))
abbrev qqG {A1 A2 A3 A4 A5 A6 A7 A8 A9 A10 A11 A12 A13 A14 A15 A16 A17 A18:Type} (x0:(A1×A2×A3×A4×A5×A6×A7×A8×A9×A10×A11×A12×A13×A14×A15×A16)×A17×A18):=((),((x0.1.1,(x0.1.2.1,(x0.1.2.2.1,(x0.1.2.2.2.1,(x0.1.2.2.2.2.1,(x0.1.2.2.2.2.2.1,(x0.1.2.2.2.2.2.2.1,(x0.1.2.2.2.2.2.2.2.1,(x0.1.2.2.2.2.2.2.2.2.1,(x0.1.2.2.2.2.2.2.2.2.2.1,(x0.1.2.2.2.2.2.2.2.2.2.2.1,(x0.1.2.2.2.2.2.2.2.2.2.2.2.1,(x0.1.2.2.2.2.2.2.2.2.2.2.2.2.1,(x0.1.2.2.2.2.2.2.2.2.2.2.2.2.2.1,(x0.1.2.2.2.2.2.2.2.2.2.2.2.2.2.2.1,x0.1.2.2.2.2.2.2.2.2.2.2.2.2.2.2.2))))))))))))))),(x0.2.1,())))
abbrev qqj {A1 A2 A3 A4 A5 A6 A7 A8 A9 A10 A11 A12 A13 A14 A15 A16 A17 A18:Type} (x0:(A1×A2×A3×A4×A5×A6×A7×A8×A9×A10×A11×A12×A13×A14×A15×A16)×A17×A18):=(((x0.1.1,(x0.1.2.1,(x0.1.2.2.1,(x0.1.2.2.2.1,(x0.1.2.2.2.2.1,(x0.1.2.2.2.2.2.1,(x0.1.2.2.2.2.2.2.1,(x0.1.2.2.2.2.2.2.2.1,(x0.1.2.2.2.2.2.2.2.2.1,(x0.1.2.2.2.2.2.2.2.2.2.1,(x0.1.2.2.2.2.2.2.2.2.2.2.1,()))))))))))),(x0.1.2.2.2.2.2.2.2.2.2.2.2.1,((x0.1.2.2.2.2.2.2.2.2.2.2.2.2.1,(x0.1.2.2.2.2.2.2.2.2.2.2.2.2.2.1,(x0.1.2.2.2.2.2.2.2.2.2.2.2.2.2.2.1,x0.1.2.2.2.2.2.2.2.2.2.2.2.2.2.2.2))),()))),(x0.2.1,()))
abbrev qqF {A1 A2 A3 A4 A5 A6 A7 A8 A9 A10 A11 A12 A13 A14 A15 A16 A17 A18 A19:Type} (x0:(A1×A2×A3×A4×A5×A6×A7×A8×A9×A10×A11×A12)×A13×(A14×A15×A16×A17)×A18) (a0:A19):=((),((x0.1.1,(x0.1.2.1,(x0.1.2.2.1,(x0.1.2.2.2.1,(x0.1.2.2.2.2.1,(x0.1.2.2.2.2.2.1,(x0.1.2.2.2.2.2.2.1,(x0.1.2.2.2.2.2.2.2.1,(x0.1.2.2.2.2.2.2.2.2.1,(x0.1.2.2.2.2.2.2.2.2.2.1,(x0.1.2.2.2.2.2.2.2.2.2.2.1,(x0.2.1,(a0,(x0.2.2.1.2.1,(x0.2.2.1.2.2.1,x0.2.2.1.2.2.2))))))))))))))),()))
abbrev qoP {A1 A2 A3 A4 A5 A6 A7 A8 A9 A10 A11 A12 A13 A14 A15 A16 A17 A18:Type} (x0:(A1×A2×A3×A4×A5×A6×A7×A8×A9×A10×A11×A12)×A13×(A14×A15×A16×A17)×A18):=((),((x0.1.1,(x0.1.2.1,(x0.1.2.2.1,(x0.1.2.2.2.1,(x0.1.2.2.2.2.1,(x0.1.2.2.2.2.2.1,(x0.1.2.2.2.2.2.2.1,(x0.1.2.2.2.2.2.2.2.1,(x0.1.2.2.2.2.2.2.2.2.1,(x0.1.2.2.2.2.2.2.2.2.2.1,(x0.1.2.2.2.2.2.2.2.2.2.2.1,(x0.2.1,(x0.2.2.1.1,(x0.2.2.1.2.1,(x0.2.2.1.2.2.1,x0.2.2.1.2.2.2))))))))))))))),()))
abbrev qbY {A1 A2 A3 A4 A5 A6 A7 A8 A9 A10 A11 A12 A13 A14:Type} (x0:A1×A2×A3×A4×A5×A6×A7×A8×A9×A10×A11×A12×A13×A14):=((x0.1,(x0.2.1,(x0.2.2.1,(x0.2.2.2.1,(x0.2.2.2.2.1,(x0.2.2.2.2.2.1,(x0.2.2.2.2.2.2.1,(x0.2.2.2.2.2.2.2.1,(x0.2.2.2.2.2.2.2.2.1,(x0.2.2.2.2.2.2.2.2.2.1,(x0.2.2.2.2.2.2.2.2.2.2.1,()))))))))))),(x0.2.2.2.2.2.2.2.2.2.2.2.1,(x0.2.2.2.2.2.2.2.2.2.2.2.2.1,())))
abbrev qjr {A1 A2 A3 A4 A5 A6 A7 A8 A9 A10 A11 A12 A13 A14 A15 A16:Type} (x0:(A1×A2×A3×A4×A5×A6×A7×A8×A9×A10×A11×A12)×A13×A14×A15) (a0:A16):=((a0,()),((x0.1.1,(x0.1.2.1,(x0.1.2.2.1,(x0.1.2.2.2.1,(x0.1.2.2.2.2.1,(x0.1.2.2.2.2.2.1,(x0.1.2.2.2.2.2.2.1,(x0.1.2.2.2.2.2.2.2.1,(x0.1.2.2.2.2.2.2.2.2.1,(x0.1.2.2.2.2.2.2.2.2.2.1,(x0.1.2.2.2.2.2.2.2.2.2.2.1,(x0.2.1,(x0.2.2.1,()))))))))))))),()))
abbrev qo5 {A1 A2 A3 A4 A5 A6 A7 A8 A9 A10 A11 A12 A13 A14:Type} (x0:A1×A2×A3×A4×A5×A6×A7×A8×A9×A10×A11×A12×A13×A14):=((),((x0.1,(x0.2.1,(x0.2.2.1,(x0.2.2.2.1,(x0.2.2.2.2.1,(x0.2.2.2.2.2.1,(x0.2.2.2.2.2.2.1,(x0.2.2.2.2.2.2.2.1,(x0.2.2.2.2.2.2.2.2.1,(x0.2.2.2.2.2.2.2.2.2.1,(x0.2.2.2.2.2.2.2.2.2.2.1,(x0.2.2.2.2.2.2.2.2.2.2.2.1,(x0.2.2.2.2.2.2.2.2.2.2.2.2.1,()))))))))))))),()))
def qS (y:Zv23×ByteArray×Zv25×Unit):Option (Zv12×Unit) :=
 Option.bind (qwp y.2.1 (ByteArray.mk #[32,10])) fun r2 =>
 some ((y.1,(r2,((y.2.2.1.1,(y.2.2.1.2.1,(y.2.2.1.2.2.1,y.2.2.1.2.2.2))),()))),())
def qab (y:Zv23×ByteArray×Zv25×Unit) (c:Int):Option (Zv12×Bool) :=
 Option.bind (qS (y.1,(y.2.1,((y.2.2.1.1,(y.2.2.1.2.1,(y.2.2.1.2.2.1,y.2.2.1.2.2.2))),())))) fun r3 =>
 Option.bind (gopt (!(r3.1.2.1.toList==(ByteArray.mk #[]).toList)) 0 (strAt r3.1.2.1 (0:Int))) fun c4 =>
 bif ((r3.1.2.1.toList==(ByteArray.mk #[]).toList)||(((c4.toNat:Nat):Int)!=c)) then some ((r3.1.1,(r3.1.2.1,((r3.1.2.2.1.1,(r3.1.2.2.1.2.1,(r3.1.2.2.1.2.2.1,r3.1.2.2.1.2.2.2))),()))),false)
 else req (qk (1:Int) ((r3.1.2.1.size:Nat):Int) r3.1.2.1.size) (some ((r3.1.1,((r3.1.2.1.extract 1 (((r3.1.2.1.size:Nat):Int)).toNat),((r3.1.2.2.1.1,(r3.1.2.2.1.2.1,(r3.1.2.2.1.2.2.1,r3.1.2.2.1.2.2.2))),()))),true))
def qds (s:ByteArray) (sep:ByteArray):Option (ByteArray×ByteArray×Bool×Unit) :=
 Option.bind (idx1S s sep) fun r2 =>
 bif (decide (r2≥0)) then req (qk (0:Int) r2 s.size) (req (qk (w64 (r2+((sep.size:Nat):Int))) ((s.size:Nat):Int) s.size) (some ((s.extract 0 (r2).toNat),((s.extract ((w64 (r2+((sep.size:Nat):Int)))).toNat (((s.size:Nat):Int)).toNat),(true,())))))
 else some (s,((ByteArray.mk #[]),(false,())))
def qrp (s:ByteArray) (sep:ByteArray):Option (ByteArray×ByteArray×Bool×Unit) :=
 Option.bind (qds s sep) fun r2 =>
 some r2
def qn8 (s:ByteArray):Option (ByteArray) :=
 Option.bind (cloneS s) fun r2 =>
 some r2
def qcH (y:Zv23×ByteArray×Zv25×Unit) (end':ByteArray):Option Zv9 :=
 Option.bind (qrp y.2.1 end') fun r3 =>
 bif (!r3.2.2.1) then none
 else Option.bind (qn8 r3.1) fun r4 =>
 some ((y.1,(r3.2.1,((y.2.2.1.1,(y.2.2.1.2.1,(y.2.2.1.2.2.1,y.2.2.1.2.2.2))),()))),r4)
def qF (y:Zv23×ByteArray×Zv25×Unit):Option Zv9 :=
 Option.bind (qab (y.1,(y.2.1,((y.2.2.1.1,(y.2.2.1.2.1,(y.2.2.1.2.2.1,y.2.2.1.2.2.2))),()))) (123:Int)) fun r3 =>
 bif (!r3.2) then some ((r3.1.1,(r3.1.2.1,((r3.1.2.2.1.1,(r3.1.2.2.1.2.1,(r3.1.2.2.1.2.2.1,r3.1.2.2.1.2.2.2))),()))),(ByteArray.mk #[]))
 else Option.bind (qcH (r3.1.1,(r3.1.2.1,((r3.1.2.2.1.1,(r3.1.2.2.1.2.1,(r3.1.2.2.1.2.2.1,r3.1.2.2.1.2.2.2))),()))) (ByteArray.mk #[125])) fun r4 =>
 bif (r4.2.toList==(ByteArray.mk #[]).toList) then none
 else some ((r4.1.1,(r4.1.2.1,((r4.1.2.2.1.1,(r4.1.2.2.1.2.1,(r4.1.2.2.1.2.2.1,r4.1.2.2.1.2.2.2))),()))),r4.2)
def qQ (y:Zv23×ByteArray×Zv25×Unit):Option Zv9 :=
 Option.bind (qS (y.1,(y.2.1,((y.2.2.1.1,(y.2.2.1.2.1,(y.2.2.1.2.2.1,y.2.2.1.2.2.2))),())))) fun r3 =>
 Option.bind (qhg r3.1.2.1 (ByteArray.mk #[32,10,40,41,123,125])) fun r4 =>
 Option.bind (bif (decide (r4<0)) then some ((((r3.1.2.1.size:Nat):Int),()),())
 else some ((r4,()),())) fun x5 =>
 req (qk (0:Int) x5.1.1 r3.1.2.1.size) (some ((r3.1.1,(r3.1.2.1,((r3.1.2.2.1.1,(r3.1.2.2.1.2.1,(r3.1.2.2.1.2.2.1,r3.1.2.2.1.2.2.2))),()))),(r3.1.2.1.extract 0 (x5.1.1).toNat)))
def qC (s:List ByteArray) (v:ByteArray) (x1:Zv78×(Unit)):Option (Zv73 ⊕ (Zv77 ⊕ Int)) :=
 bif (decide (x1.1.1<((s.length:Nat):Int))) then(Option.bind (at? s x1.1.1) fun d2 =>
 bif (v.toList==d2.toList) then some (Sum.inr (Sum.inr x1.1.1))
 else some (Sum.inl (((w64 (x1.1.1+1)),()),())))
 else some (Sum.inr (Sum.inl ((),())))
def qI (s:List ByteArray) (v:ByteArray):Option (Int) :=
 Option.bind (α:=Zv77 ⊕ Int) (iterW (qC s v) (((0:Int),()),())) (Sum.elim (fun x3 =>
 some (-1:Int)) some)
def qE (s:List ByteArray) (v:ByteArray):Option (Bool) :=
 Option.bind (qI s v) fun r2 =>
 some (decide (r2≥0))
def qaO (y:Zv23×ByteArray×Zv25×Unit) (ns:List (Zv50×(Option (List Nat)))) (p:Zv79×Zv57×Int×Int×Unit):Option (Zv12×(List (Zv50×(Option (List Nat))))×Nat) :=
 Option.bind (qQ (y.1,(y.2.1,((y.2.2.1.1,(y.2.2.1.2.1,(y.2.2.1.2.2.1,y.2.2.1.2.2.2))),())))) fun r4 =>
 bif (r4.2.toList==(ByteArray.mk #[]).toList) then none
 else Option.bind (qdD r4.1.1 p) fun r5 =>
 bif (r5 !=0) then none
 else Option.bind (qbd r4.1.1 p r4.2) fun r6 =>
 bif (r6.2.1 !=0) then none
 else req (qk ((r4.2.size:Nat):Int) ((r4.1.2.1.size:Nat):Int) r4.1.2.1.size) (Option.bind (agree (Option.bind (qF (r4.1.1,((r4.1.2.1.extract (((r4.2.size:Nat):Int)).toNat (((r4.1.2.1.size:Nat):Int)).toNat),((r4.1.2.2.1.1,(r4.1.2.2.1.2.1,(r4.1.2.2.1.2.2.1,r4.1.2.2.1.2.2.2))),())))) fun r7 =>
 Option.bind (some (addP ns (r6.1,(r7.2,())))) fun ns8 =>
 some (qcz r7.1 (ns.length+1) ns8)) (Option.bind (qF (r4.1.1,((r4.1.2.1.extract (((r4.2.size:Nat):Int)).toNat (((r4.1.2.1.size:Nat):Int)).toNat),((r4.1.2.2.1.1,(r4.1.2.2.1.2.1,(r4.1.2.2.1.2.2.1,r4.1.2.2.1.2.2.2))),())))) fun r9 =>
 Option.bind (some (addP ns (r6.1,(r9.2,())))) fun ns10 =>
 some (qcz r9.1 (ns.length+1) ns10))) fun x11 =>
 some (qqk x11))
def qV (p:Zv79×Zv57×Int×Int×Unit) (self:(Zv12×Unit×(List (Zv50×(Option (List Nat))))×Zv33×Unit)→Option (Zv12×(List (Zv50×(Option (List Nat))))×(List Nat))) (x10:((List Nat)×Unit)×(Zv15×(List (Zv50×(Option (List Nat))))×Unit)):Option ((((List Nat)×Unit)×(Zv15×(List (Zv50×(Option (List Nat))))×Unit)) ⊕ (((List Nat)×Unit)×(Zv15×(List (Zv50×(Option (List Nat))))×Unit))) :=
 Option.bind (qab (qgU x10.2.1) (40:Int)) fun r11 =>
 bif r11.2 then(Option.bind (qaO (r11.1.1,(r11.1.2.1,((r11.1.2.2.1.1,(r11.1.2.2.1.2.1,(r11.1.2.2.1.2.2.1,r11.1.2.2.1.2.2.2))),()))) x10.2.2.1 p) fun r12 =>
 req (Nat.blt 0 r12.2.2) (Option.bind (qr r12.1.1 p (((ndP r12.2.1 (((0:Int),((0:Int),((0:Int),()))),(ByteArray.empty,())) r12.2.2).1).1,((((ndP r12.2.1 (((0:Int),((0:Int),((0:Int),()))),(ByteArray.empty,())) r12.2.2).1).2).1,(((((ndP r12.2.1 (((0:Int),((0:Int),((0:Int),()))),(ByteArray.empty,())) r12.2.2).1).2).2).1,())))) fun r13 =>
 Option.bind (self ((r12.1.1,(r12.1.2.1,((r12.1.2.2.1.1,(r12.1.2.2.1.2.1,(r12.1.2.2.1.2.2.1,r12.1.2.2.1.2.2.2))),()))),(),r12.2.1,(r13.1,((r13.2.1.1,(r13.2.1.2.1,())),r13.2.2)),())) fun r14 =>
 req (Nat.blt 0 r12.2.2) (Option.bind (some (putP r14.2.1 (((0:Int),((0:Int),((0:Int),()))),(ByteArray.empty,())) r12.2.2 r14.2.2)) fun ns15 =>
 Option.bind (qab (r14.1.1,(r14.1.2.1,((r14.1.2.2.1.1,(r14.1.2.2.1.2.1,(r14.1.2.2.1.2.2.1,r14.1.2.2.1.2.2.2))),()))) (41:Int)) fun r16 =>
 bif (!r16.2) then none
 else req (room (x10.1.1.length+([r12.2.2]).length) 8) (some (Sum.inl (qcz r16.1 (x10.1.1++[r12.2.2]) ns15))))))
 else some (Sum.inr (qcz r11.1 x10.1.1 x10.2.2.1))
def qbi (self:(Zv12×Unit×(List (Zv50×(Option (List Nat))))×Zv33×Unit)→Option (Zv12×(List (Zv50×(Option (List Nat))))×(List Nat))) (y:Zv23×ByteArray×Zv25×Unit) (ns:List (Zv50×(Option (List Nat)))) (p:Zv79×Zv57×Int×Int×Unit):Option (Zv12×(List (Zv50×(Option (List Nat))))×(List Nat)) :=
 Option.bind (qQ (y.1,(y.2.1,((y.2.2.1.1,(y.2.2.1.2.1,(y.2.2.1.2.2.1,y.2.2.1.2.2.2))),())))) fun r6 =>
 Option.bind (bif (r6.2.toList==(ByteArray.mk #[]).toList) then some ((true,()),())
 else Option.bind (qE ([(ByteArray.mk #[42]),(ByteArray.mk #[49,45,48]),(ByteArray.mk #[48,45,49]),(ByteArray.mk #[49,47,50])]) r6.2) fun r7 =>
 some ((r7,()),())) fun x8 =>
 bif x8.1.1 then some ((r6.1.1,(r6.1.2.1,((r6.1.2.2.1.1,(r6.1.2.2.1.2.1,(r6.1.2.2.1.2.2.1,r6.1.2.2.1.2.2.2))),()))),ns,([]:List Nat))
 else Option.bind (qaO (r6.1.1,(r6.1.2.1,((r6.1.2.2.1.1,(r6.1.2.2.1.2.1,(r6.1.2.2.1.2.2.1,r6.1.2.2.1.2.2.2))),()))) ns p) fun r9 =>
 Option.bind (iterW (qV p self) (qkv r9 ([r9.2.2]))) fun x17 =>
 req (Nat.blt 0 r9.2.2) (Option.bind (qr (x17.2.1.1,(x17.2.1.2.1,(x17.2.1.2.2.1,(x17.2.1.2.2.2.1,(x17.2.1.2.2.2.2.1,(x17.2.1.2.2.2.2.2.1,(x17.2.1.2.2.2.2.2.2.1,(x17.2.1.2.2.2.2.2.2.2.1,(x17.2.1.2.2.2.2.2.2.2.2.1,(x17.2.1.2.2.2.2.2.2.2.2.2.1,(x17.2.1.2.2.2.2.2.2.2.2.2.2.1,()))))))))))) p (((ndP x17.2.2.1 (((0:Int),((0:Int),((0:Int),()))),(ByteArray.empty,())) r9.2.2).1).1,((((ndP x17.2.2.1 (((0:Int),((0:Int),((0:Int),()))),(ByteArray.empty,())) r9.2.2).1).2).1,(((((ndP x17.2.2.1 (((0:Int),((0:Int),((0:Int),()))),(ByteArray.empty,())) r9.2.2).1).2).2).1,())))) fun r18 =>
 Option.bind (self (qqi x17.2 r18.1 r18.2.1.1 r18.2.1.2.1 r18.2.2)) fun r19 =>
 req (Nat.blt 0 r9.2.2) (Option.bind (some (putP r19.2.1 (((0:Int),((0:Int),((0:Int),()))),(ByteArray.empty,())) r9.2.2 r19.2.2)) fun ns20 =>
 some ((r19.1.1,(r19.1.2.1,((r19.1.2.2.1.1,(r19.1.2.2.1.2.1,(r19.1.2.2.1.2.2.1,r19.1.2.2.1.2.2.2))),()))),ns20,x17.1.1)))
def qw (self:(Zv12×Unit×(List (Zv50×(Option (List Nat))))×Zv33×Unit)→Option (Zv12×(List (Zv50×(Option (List Nat))))×(List Nat))) (x:Zv12×Unit×(List (Zv50×(Option (List Nat))))×Zv33×Unit):Option (Zv12×(List (Zv50×(Option (List Nat))))×(List Nat)):=qbi self x.1 x.2.2.1 x.2.2.2.1
def qcd (y:Zv23×ByteArray×Zv25×Unit) (ns:List (Zv50×(Option (List Nat)))) (p:Zv79×Zv57×Int×Int×Unit):Option (Zv12×(List (Zv50×(Option (List Nat))))×(List Nat)):=fixW qw (y,(),ns,p,())
def qs (l:List Nat) (parent:Int) (self:(Zv12×Unit×(List ((Zv71×ByteArray×(List Nat)×Unit)×(Option (List Nat))))×(List Nat)×Int×Unit)→Option (Zv12×(List ((Zv71×ByteArray×(List Nat)×Unit)×(Option (List Nat))))×Unit)) (x1:Zv78×(Zv15×(List ((Zv71×ByteArray×(List Nat)×Unit)×(Option (List Nat))))×Unit)):Option ((Zv78×(Zv15×(List ((Zv71×ByteArray×(List Nat)×Unit)×(Option (List Nat))))×Unit)) ⊕ ((Unit)×(Zv15×(List ((Zv71×ByteArray×(List Nat)×Unit)×(Option (List Nat))))×Unit))) :=
 bif (decide (x1.1.1<((l.length:Nat):Int))) then(Option.bind (at? l x1.1.1) fun d2 =>
 req (Nat.blt 0 d2) (req (Nat.blt 0 d2) (req (room (x1.2.1.2.2.2.2.2.2.2.2.2.2.2.2.2.2.1.length+([(parent,((((ndP x1.2.2.1 (((0:Int),((0:Int),((0:Int),()))),(ByteArray.empty,([],()))) d2).1).1,((((ndP x1.2.2.1 (((0:Int),((0:Int),((0:Int),()))),(ByteArray.empty,([],()))) d2).1).2).1,(((((ndP x1.2.2.1 (((0:Int),((0:Int),((0:Int),()))),(ByteArray.empty,([],()))) d2).1).2).2).1,()))),(((ndP x1.2.2.1 (((0:Int),((0:Int),((0:Int),()))),(ByteArray.empty,([],()))) d2).2).1,())))]).length) 48) (req (Nat.blt 0 d2) (Option.bind (self (qqz x1.2 (x1.2.1.2.2.2.2.2.2.2.2.2.2.2.2.2.2.1++[(parent,((((ndP x1.2.2.1 (((0:Int),((0:Int),((0:Int),()))),(ByteArray.empty,([],()))) d2).1).1,((((ndP x1.2.2.1 (((0:Int),((0:Int),((0:Int),()))),(ByteArray.empty,([],()))) d2).1).2).1,(((((ndP x1.2.2.1 (((0:Int),((0:Int),((0:Int),()))),(ByteArray.empty,([],()))) d2).1).2).2).1,()))),(((ndP x1.2.2.1 (((0:Int),((0:Int),((0:Int),()))),(ByteArray.empty,([],()))) d2).2).1,())))]) ((((ndP x1.2.2.1 (((0:Int),((0:Int),((0:Int),()))),(ByteArray.empty,([],()))) d2).2).2).1) ((x1.2.1.2.2.2.2.2.2.2.2.2.2.2.2.2.2.1.length:Nat):Int))) fun r3 =>
 some (Sum.inl (qkv r3 (w64 (x1.1.1+1)))))))))
 else some (Sum.inr (qqG x1.2))
def qbJ (self:(Zv12×Unit×(List ((Zv71×ByteArray×(List Nat)×Unit)×(Option (List Nat))))×(List Nat)×Int×Unit)→Option (Zv12×(List ((Zv71×ByteArray×(List Nat)×Unit)×(Option (List Nat))))×Unit)) (y:Zv23×ByteArray×Zv25×Unit) (ns:List ((Zv71×ByteArray×(List Nat)×Unit)×(Option (List Nat)))) (l:List Nat) (parent:Int):Option (Zv12×(List ((Zv71×ByteArray×(List Nat)×Unit)×(Option (List Nat))))×Unit) :=
 Option.bind (iterW (qs l parent self) (qcz y (0:Int) ns)) fun x4 =>
 some (qqj x4.2)
def qD (self:(Zv12×Unit×(List ((Zv71×ByteArray×(List Nat)×Unit)×(Option (List Nat))))×(List Nat)×Int×Unit)→Option (Zv12×(List ((Zv71×ByteArray×(List Nat)×Unit)×(Option (List Nat))))×Unit)) (x:Zv12×Unit×(List ((Zv71×ByteArray×(List Nat)×Unit)×(Option (List Nat))))×(List Nat)×Int×Unit):Option (Zv12×(List ((Zv71×ByteArray×(List Nat)×Unit)×(Option (List Nat))))×Unit):=qbJ self x.1 x.2.2.1 x.2.2.2.1 x.2.2.2.2.1
def qcF (y:Zv23×ByteArray×Zv25×Unit) (ns:List ((Zv71×ByteArray×(List Nat)×Unit)×(Option (List Nat)))) (l:List Nat) (parent:Int):Option (Zv12×(List ((Zv71×ByteArray×(List Nat)×Unit)×(Option (List Nat))))×Unit):=fixW qD (y,(),ns,l,parent,())
def qeV (x12:(Unit)×Zv13):Option (Zv11 ⊕ Zv11) :=
 Option.bind (qab (qgU x12.2.1) (91:Int)) fun r13 =>
 bif r13.2 then(Option.bind (qcH (r13.1.1,(r13.1.2.1,((r13.1.2.2.1.1,(r13.1.2.2.1.2.1,(r13.1.2.2.1.2.2.1,r13.1.2.2.1.2.2.2))),()))) (ByteArray.mk #[32,34])) fun r14 =>
 Option.bind (qcH (r14.1.1,(r14.1.2.1,((r14.1.2.2.1.1,(r14.1.2.2.1.2.1,(r14.1.2.2.1.2.2.1,r14.1.2.2.1.2.2.2))),()))) (ByteArray.mk #[34,93])) fun r15 =>
 req (room (r15.1.2.2.1.1.length+([(r14.2,(r15.2,()))]).length) 32) (some (Sum.inl (qqF r15.1 (r15.1.2.2.1.1++[(r14.2,(r15.2,()))])))))
 else some (Sum.inr (qoP r13.1))
def qg2 (r:ByteArray×Int×Int×Zv32×Zv79×Bool×Bool×Zv54×Int×Int×Int×Unit) (s:ByteArray):Option (Zv25×Int×Unit) :=
 Option.bind (qdG r) fun r11 =>
 bif (r11 !=0) then some ((([]:List Zv64),((ByteArray.mk #[]),(([]:List Zv45),((0:Int),())))),(r11,()))
 else bif (decide (((s.size:Nat):Int)>8192)) then some ((([]:List Zv64),((ByteArray.mk #[]),(([]:List Zv45),((0:Int),())))),((2:Int),()))
 else Option.bind (iterW (qeV) ((),((r.1,(r.2.1,(r.2.2.1,(r.2.2.2.1,(r.2.2.2.2.1,(r.2.2.2.2.2.1,(r.2.2.2.2.2.2.1,(r.2.2.2.2.2.2.2.1,(r.2.2.2.2.2.2.2.2.1,(r.2.2.2.2.2.2.2.2.2.1,(r.2.2.2.2.2.2.2.2.2.2.1,(s,(([]:List Zv64),((ByteArray.mk #[]),(([]:List Zv45),((0:Int),())))))))))))))))),()))) fun x16 =>
 Option.bind (qF (qgU x16.2.1)) fun r17 =>
 Option.bind (qbx r17.1.1) fun r18 =>
 Option.bind (qcd (r17.1.1,(r17.1.2.1,((r17.1.2.2.1.1,(r17.2,(r17.1.2.2.1.2.2.1,r17.1.2.2.1.2.2.2))),()))) ([]:List (Zv50×(Option (List Nat)))) (r18.1.1,((r18.1.2.1.1,(r18.1.2.1.2.1,())),r18.1.2.2))) fun r19 =>
 Option.bind (qQ (r19.1.1,(r19.1.2.1,((r19.1.2.2.1.1,(r19.1.2.2.1.2.1,(r19.1.2.2.1.2.2.1,r19.1.2.2.1.2.2.2))),())))) fun r20 =>
 Option.bind (qI ([(qt).1,((qt).2).1,(((qt).2).2).1,((((qt).2).2).2).1]:List ByteArray) r20.2) fun r21 =>
 bif (decide (r21<0)) then some ((([]:List Zv64),((ByteArray.mk #[]),(([]:List Zv45),((0:Int),())))),((5:Int),()))
 else req (qk ((r20.2.size:Nat):Int) ((r20.1.2.1.size:Nat):Int) r20.1.2.1.size) (Option.bind (qS (r20.1.1,((r20.1.2.1.extract (((r20.2.size:Nat):Int)).toNat (((r20.1.2.1.size:Nat):Int)).toNat),((r20.1.2.2.1.1,(r20.1.2.2.1.2.1,(r20.1.2.2.1.2.2.1,(r21,())))),())))) fun r22 =>
 bif (!(r22.1.2.1.toList==(ByteArray.mk #[]).toList)) then some ((([]:List Zv64),((ByteArray.mk #[]),(([]:List Zv45),((0:Int),())))),((5:Int),()))
 else Option.bind (some (List.map (fun (x:Zv50×Option (List Nat))=>((x.1.1,(x.1.2.1,(x.2.getD [],()))),(none:Option (List Nat)))) r19.2.1)) fun ns23 =>
 Option.bind (qcF (r22.1.1,(r22.1.2.1,((r22.1.2.2.1.1,(r22.1.2.2.1.2.1,(r22.1.2.2.1.2.2.1,r22.1.2.2.1.2.2.2))),()))) ns23 r19.2.2 (-1:Int)) fun r24 =>
 Option.bind (qax r (r24.1.2.2.1.1,(r24.1.2.2.1.2.1,(r24.1.2.2.1.2.2.1,r24.1.2.2.1.2.2.2)))) fun r25 =>
 bif (r25 !=0) then some ((([]:List Zv64),((ByteArray.mk #[]),(([]:List Zv45),((0:Int),())))),(r25,()))
 else some ((r24.1.2.2.1.1,(r24.1.2.2.1.2.1,(r24.1.2.2.1.2.2.1,r24.1.2.2.1.2.2.2))),((0:Int),())))
def qde (x:Zv56×ByteArray×Zv38×Int×Unit) (x3:Zv57×(Unit)):Option ((Zv57×(Unit)) ⊕ Zv63) :=
 bif (decide (((x3.1.2.1.length:Nat):Int)>0)) then(req (inb (0:Int) x3.1.2.1.length) (req (room (x3.1.1.length+([(getD' x3.1.2.1 0 (0:Int))]).length) 8) (req (inb (0:Int) x3.1.2.1.length) (Option.bind (qdy x (getD' x3.1.2.1 0 (0:Int))) fun r4 =>
 some (Sum.inl (((x3.1.1++[(getD' x3.1.2.1 0 (0:Int))]),r4,()),()))))))
 else some (Sum.inr ((x3.1.1,()),()))
def qgk (x:Zv56×ByteArray×Zv38×Int×Unit):Option Zv79 :=
 Option.bind (qdy x (-1:Int)) fun r2 =>
 Option.bind (iterW (qde x) ((([]:List Int),r2,()),())) fun x5 =>
 some x5.1.1
def qbU (r4:List Int) (x:Zv56×ByteArray×Zv38×Int×Unit) (x5:Zv47×(Unit)):Option (Zv39 ⊕ Zv43) :=
 bif (decide (x5.1.2.1<((r4.length:Nat):Int))) then(req (inb x5.1.2.1 r4.length) (Option.bind (at? x.2.2.1 (getD' r4 ((x5.1.2.1).toNat) (0:Int))) fun d6 =>
 req (room (x5.1.1.length+([d6.2.1]).length) 24) (some (Sum.inl (((x5.1.1++[d6.2.1]),(w64 (x5.1.2.1+1)),()),())))))
 else some (Sum.inr ((x5.1.1,()),()))
def qd8 (r:ByteArray×Int×Int×Zv32×Zv79×Bool×Bool×Zv54×Int×Int×Int×Unit) (x:Zv56×ByteArray×Zv38×Int×Unit):Option Zv47 :=
 Option.bind (qax r x) fun r3 =>
 bif (r3 !=0) then some (([]:List Zv71),(r3,()))
 else Option.bind (qgk x) fun r4 =>
 Option.bind (iterW (qbU r4 x) ((([]:List Zv71),(0:Int),()),())) fun x7 =>
 some (x7.1.1,((0:Int),()))
def qb7 (l:List Zv71) (r:ByteArray×Int×Int×Zv32×Zv79×Bool×Bool×Zv54×Int×Int×Int×Unit) (x6:Zv60×Zv34):Option ((Zv60×Zv34) ⊕ (((List ByteArray)×Unit)×Zv34)) :=
 bif (decide (x6.1.2.1<((l.length:Nat):Int))) then(Option.bind (at? l x6.1.2.1) fun d7 =>
 Option.bind (qaj r (x6.2.1.1,((x6.2.1.2.1,(x6.2.1.2.2.1,())),x6.2.1.2.2.2))) fun r8 =>
 Option.bind (qcg r (x6.2.1.1,((x6.2.1.2.1,(x6.2.1.2.2.1,())),x6.2.1.2.2.2)) r8 d7) fun r9 =>
 req (room (x6.1.1.length+([r9]).length) 16) (Option.bind (qr r (x6.2.1.1,((x6.2.1.2.1,(x6.2.1.2.2.1,())),x6.2.1.2.2.2)) d7) fun r10 =>
 some (Sum.inl (((x6.1.1++[r9]),(w64 (x6.1.2.1+1)),()),((r10.1,(r10.2.1.1,(r10.2.1.2.1,r10.2.2))),())))))
 else some (Sum.inr ((x6.1.1,()),((x6.2.1.1,(x6.2.1.2.1,(x6.2.1.2.2.1,x6.2.1.2.2.2))),())))
def qfV (r:ByteArray×Int×Int×Zv32×Zv79×Bool×Bool×Zv54×Int×Int×Int×Unit) (l:List Zv71):Option Zv72 :=
 Option.bind (qah r l) fun r4 =>
 bif (r4.2.2.1 !=0) then some ((ByteArray.mk #[]),r4.2.2)
 else Option.bind (qbx r) fun r5 =>
 Option.bind (iterW (qb7 l r) ((([]:List ByteArray),(0:Int),()),((r5.1.1,(r5.1.2.1.1,(r5.1.2.1.2.1,r5.1.2.2))),()))) fun x11 =>
 Option.bind (joinS x11.1.1 (ByteArray.mk #[32])) fun r12 =>
 some (r12,((0:Int),()))
def qlu (r6:List ByteArray) (x7:Zv78×(Unit)):Option (Zv73 ⊕ (Zv77 ⊕ Zv47)) :=
 bif (decide (x7.1.1<((r6.length:Nat):Int))) then(Option.bind (at? r6 x7.1.1) fun d8 =>
 none)
 else some (Sum.inr (Sum.inl ((),())))
def qam (r14:List ByteArray) (r:ByteArray×Int×Int×Zv32×Zv79×Bool×Bool×Zv54×Int×Int×Int×Unit) (x15:Zv78×Zv19):Option ((Zv78×Zv19) ⊕ (Zv16 ⊕ Zv47)) :=
 bif (decide (x15.1.1<((r14.length:Nat):Int))) then(Option.bind (at? r14 x15.1.1) fun d16 =>
 Option.bind (qP (qbY x15.2.1)) fun r17 =>
 bif (r17 !=0) then some (Sum.inr (Sum.inr (([]:List Zv71),((14:Int),()))))
 else Option.bind (agree (Option.bind (qm (qbY x15.2.1)) fun r18 =>
 Option.bind (qbd r (r18.1,((r18.2.1.1,(r18.2.1.2.1,())),r18.2.2)) d16) fun r19 =>
 some ((r19.1,r19.2.1,()),())) (Option.bind (qm (qbY x15.2.1)) fun r20 =>
 Option.bind (qbd r (r20.1,((r20.2.1.1,(r20.2.1.2.1,())),r20.2.2)) d16) fun r21 =>
 some ((r21.1,r21.2.1,()),()))) fun x22 =>
 bif (x22.1.2.1 !=0) then some (Sum.inr (Sum.inr (([]:List Zv71),(x22.1.2.1,()))))
 else Option.bind (qaU (qbY x15.2.1) x22.1.1) fun r23 =>
 bif (r23.2 !=0) then some (Sum.inr (Sum.inr (([]:List Zv71),(r23.2,()))))
 else some (Sum.inl (qjr r23.1 (w64 (x15.1.1+1)))))
 else some (Sum.inr (Sum.inl (qo5 x15.2.1)))
def qbs (r:ByteArray×Int×Int×Zv32×Zv79×Bool×Bool×Zv54×Int×Int×Int×Unit) (s:ByteArray):Option Zv47 :=
 Option.bind (qbx r) fun r5 =>
 bif (r5.2.1 !=0) then(bif (r5.2.1 !=0) then some (([]:List Zv71),r5.2)
 else bif (decide (((s.size:Nat):Int)>8192)) then some (([]:List Zv71),((2:Int),()))
 else bif (s.toList==(ByteArray.mk #[]).toList) then some (([]:List Zv71),((0:Int),()))
 else Option.bind (qq2 s (ByteArray.mk #[32])) fun r6 =>
 Option.bind (α:=Zv77 ⊕ Zv47) (iterW (qlu r6) (((0:Int),()),())) (Sum.elim (fun x9 =>
 none) some))
 else Option.bind (agree (Option.bind (qaT r) fun r10 =>
 some (((r10,([(r5.1.1,((r5.1.2.1.1,(r5.1.2.1.2.1,())),r5.1.2.2))],(([]:List Zv71),()))),(0:Int),()),())) (agree (Option.bind (qaT r) fun r11 =>
 some (((r11,([(r5.1.1,((r5.1.2.1.1,(r5.1.2.1.2.1,())),r5.1.2.2))],(([]:List Zv71),()))),(0:Int),()),())) (Option.bind (qaT r) fun r12 =>
 some (((r12,([(r5.1.1,((r5.1.2.1.1,(r5.1.2.1.2.1,())),r5.1.2.2))],(([]:List Zv71),()))),(0:Int),()),())))) fun x13 =>
 bif (x13.1.2.1 !=0) then some (([]:List Zv71),(x13.1.2.1,()))
 else bif (decide (((s.size:Nat):Int)>8192)) then some (([]:List Zv71),((2:Int),()))
 else bif (s.toList==(ByteArray.mk #[]).toList) then some (([]:List Zv71),((0:Int),()))
 else Option.bind (qq2 s (ByteArray.mk #[32])) fun r14 =>
 Option.bind (α:=Zv16 ⊕ Zv47) (iterW (qam r14 r) (qjr x13.1.1 (0:Int))) (Sum.elim (fun x24 =>
 Option.bind (qG (qbY x24.2.1)) fun r25 =>
 some (r25,((0:Int),()))) some)
def qX (l:List Zv71) (x14:Zv78×Zv24):Option ((Zv78×Zv24) ⊕ ((Unit)×Zv24)) :=
 bif (decide (x14.1.1<((((l.take ((if (30:Int)<((l.length:Nat):Int) then(30:Int) else((l.length:Nat):Int))).toNat).drop 0).length:Nat):Int))) then(Option.bind (at? ((l.take ((if (30:Int)<((l.length:Nat):Int) then(30:Int) else((l.length:Nat):Int))).toNat).drop 0) x14.1.1) fun d15 =>
 req (room (x14.2.1.2.2.1.length+([((w64 (x14.1.1-1)),(d15,((ByteArray.mk #[]),())))]).length) 48) (some (Sum.inl (((w64 (x14.1.1+1)),()),((x14.2.1.1,(x14.2.1.2.1,((x14.2.1.2.2.1++[((w64 (x14.1.1-1)),(d15,((ByteArray.mk #[]),())))]),x14.2.1.2.2.2))),())))))
 else some (Sum.inr ((),((x14.2.1.1,(x14.2.1.2.1,(x14.2.1.2.2.1,x14.2.1.2.2.2))),())))
def qbB (r:ByteArray×Int×Int×Zv32×Zv79×Bool×Bool×Zv54×Int×Int×Int×Unit) (l:List Zv71):Option (Bool) :=
 Option.bind (qbl) fun r12 =>
 bif (!r12) then some false
 else req (qk (0:Int) (if (30:Int)<((l.length:Nat):Int) then(30:Int) else((l.length:Nat):Int)) l.length) (bif (decide (((r.2.2.2.2.1.length:Nat):Int)>20)) then some true
 else Option.bind (qah r ((l.take ((if (30:Int)<((l.length:Nat):Int) then(30:Int) else((l.length:Nat):Int))).toNat).drop 0)) fun r13 =>
 bif (r13.2.2.1 !=0) then some true
 else Option.bind (iterW (qX l) (((0:Int),()),((([]:List Zv64),((ByteArray.mk #[]),(([]:List Zv45),(r13.2.1,())))),()))) fun x16 =>
 Option.bind (qcM r (x16.2.1.1,(x16.2.1.2.1,(x16.2.1.2.2.1,x16.2.1.2.2.2)))) fun r17 =>
 Option.bind (qg2 r r17.1) fun r18 =>
 bif (((r17.2.1 !=0)||(r18.2.1 !=0))||(r18.1.2.2.2.1 !=r13.2.1)) then some false
 else Option.bind (qd8 r (r18.1.1,(r18.1.2.1,(r18.1.2.2.1,r18.1.2.2.2)))) fun r19 =>
 Option.bind (qfV r ((l.take ((if (30:Int)<((l.length:Nat):Int) then(30:Int) else((l.length:Nat):Int))).toNat).drop 0)) fun r20 =>
 Option.bind (qbs r r20.1) fun r21 =>
 Option.bind (qah r r19.1) fun r22 =>
 Option.bind (gopt ((((r19.2.1==0)&&(r20.2.1==0))&&(r21.2.1==0))&&(r22.2.2.1==0)) false (qaw r19.1 ((l.take ((if (30:Int)<((l.length:Nat):Int) then(30:Int) else((l.length:Nat):Int))).toNat).drop 0))) fun r23 =>
 Option.bind (gopt (((((r19.2.1==0)&&(r20.2.1==0))&&(r21.2.1==0))&&(r22.2.2.1==0))&&r23) false (qaw r21.1 ((l.take ((if (30:Int)<((l.length:Nat):Int) then(30:Int) else((l.length:Nat):Int))).toNat).drop 0))) fun r24 =>
 Option.bind (gopt ((((((r19.2.1==0)&&(r20.2.1==0))&&(r21.2.1==0))&&(r22.2.2.1==0))&&r23)&&r24) false (qec (r13.1.1,((r13.1.2.1.1,(r13.1.2.1.2.1,())),r13.1.2.2)) (r22.1.1,((r22.1.2.1.1,(r22.1.2.1.2.1,())),r22.1.2.2)))) fun r25 =>
 some ((((((((r19.2.1==0)&&(r20.2.1==0))&&(r21.2.1==0))&&(r22.2.2.1==0))&&r23)&&r24)&&r25)&&(r22.2.1==r13.2.1)))
end
end Go.Proofs.YthidcmjpbokeeaaGreatDoor
namespace Go.Den
open Go.Eng Go.Sort Go.Proofs Go.Shelf Go.Lib
set_option linter.unusedVariables false
set_option linter.unusedSectionVars false
set_option linter.unusedSimpArgs false
instance (τ:Ty):Inhabited (D τ):=⟨dflt τ⟩

theorem qv7 {α:Type} [Inhabited α] (enc:α→List Value) (k:Nat) (hk:∀x,(enc x).length=k):∀(l:List α) (t:Nat),t<l.length*k→(l.map enc).flatten[t]?=some ((enc l[t / k]!)[t % k]!)
 | [],t,h=>by simp at h
 | x::l,t,h=>by
  rw[List.map_cons,List.flatten_cons];have k0:0<k:=by
   rcases Nat.eq_zero_or_pos k with e | e
   ·subst e;simp at h
   ·exact e
  by_cases ht:t<k
  ·rw[List.getElem?_append_left (by rw[hk];exact ht),Nat.div_eq_of_lt ht,Nat.mod_eq_of_lt ht];simp[hk,ht]
  ·rw[List.getElem?_append_right (by rw[hk];omega),hk,qv7 enc k hk l (t-k) (by rw[List.length_cons,Nat.add_mul] at h;omega)];obtain⟨u,rfl⟩:∃u,t=u+k:=⟨t-k,by omega⟩;rw[Nat.add_sub_cancel,Nat.add_div_right _ k0,Nat.add_mod_right];simp
theorem flen {α:Type} (enc:α→List Value) (k:Nat) (hk:∀x,(enc x).length=k):∀l:List α,((l.map enc).flatten).length=l.length*k
 | []=>by simp
 | x::l=>by rw[List.map_cons,List.flatten_cons,List.length_append,hk,flen enc k hk l,List.length_cons,Nat.add_mul];omega
theorem qq3 {α:Type} [Inhabited α] (enc:α→List Value) (k:Nat) (hk:∀x,(enc x).length=k) (l:List α):flatK enc k l.toArray=((l.map enc).flatten).toArray:=by
 have hl:=flen enc k hk l;refine ext_get! (by simp[hl]) fun t ht=>?_
 have ht':t<l.toArray.size*k:=by simpa using ht
 rw[get_flatK _ _ _ _ ht'];have:=qv7 enc k hk l t (by simpa using ht');simp[this]

variable [CT : Ctx]
theorem qlm {w:World} {S:Sp}:∀(τ:Ty) (x:D τ),τ.flat=true→Rep w S τ x [] (qa1 τ x)
 | .int k,x,_=>⟨rfl,rfl⟩
 | .bool,x,_=>⟨rfl,rfl⟩
 | .str,x,_=>⟨rfl,rfl⟩
 | .nil,x,_=>⟨rfl,rfl⟩
 | .sl e,x,h=>by cases h
 | .osl i e,x,h=>by cases h
 | .obx _,x,h=>by cases h
 | .err,x,h=>by cases h
 | .bld _ _,x,h=>by cases h
 | .st f r,x,h=>by
  simp only[Ty.flat,Bool.and_eq_true] at h;exact⟨_,_,[],[],rfl,rfl,qlm f x.1 h.1,qlm r x.2 h.2⟩
theorem qtQ {w:World} {S:Sp} {τ:Ty} (hf:τ.flat=true):∀ {xs:List (D τ)} {us:List Value},RepL (fun x c=>Rep w S τ x [] c) xs us→us=(xs.map (qa1 τ)).flatten
 | [],us,h=>h
 | x::xs,us,⟨c,r,e,h1,h2⟩=>by
  rw[e,qmW τ hf h1,qtQ hf h2];rfl
theorem quf {w:World} {S:Sp} {τ:Ty} (hf:τ.flat=true):∀(xs:List (D τ)),RepL (fun x c=>Rep w S τ x [] c) xs (xs.map (qa1 τ)).flatten
 | []=>rfl
 | x::xs=>⟨_,_,rfl,qlm τ x hf,quf hf xs⟩
theorem chg_grow {w w':World} (h:Chg (CT:=⟨[],[],true,[],none,none⟩) [] w w'):∃q os',w'=grow (w.drewN q) os':=by
 refine⟨w'.drawn-w.drawn,w'.heap.extract w.heap.size w'.heap.size,?_⟩;obtain⟨heap,tape,drawn,os,output⟩:=w;obtain⟨heap',tape',drawn',os',output'⟩:=w';obtain⟨h1,h2,h3,h4,h5,h6⟩:=h;simp only at h1 h2 h3 h4 h5 h6;subst h1 h2 h3;have h6:=h6 trivial;have:heap'=heap++heap'.extract heap.size heap'.size:=by
  apply Array.ext_getElem?;intro j;rw[Array.getElem?_append];by_cases hj:j<heap.size
  ·rw[if_pos hj];exact h5 j hj (by simp)
  ·rw[if_neg hj,Array.getElem?_extract];by_cases hj2:j<heap'.size
   ·rw[if_pos (by omega)];congr 1;omega
   ·rw[if_neg (by omega),Array.getElem?_eq_none (by omega)]
 show World.mk heap' tape' drawn' os' output'=World.mk (heap++heap'.extract heap.size heap'.size) tape' (drawn+(drawn'-drawn)) os' output';rw[←this];congr 1;omega

section
variable {P : Program} {ρ : Ren}
theorem qvs (L:SlLaysF0.n6 P ρ) {f:FuncId} (hf6:ρ.f 6=f) {τ:Ty} {i:TypeId} (hi:ρ.t 24=i) (hflat:τ.flat=true) (hagg:τ.isAgg=true) (aE:∀w,(isAgg i).run P w = .ok true w) (zE:∀w,(Go.sizeOf i).run P w = .ok τ.size w) {g:FuncId} {res:List Ty} {φ:DL [τ,τ]→Option Int} {tot:Option (DL [τ,τ]→Int)}
  (hc:ConOK (CT:=⟨[],[],true,[],none,none⟩) P g ⟨[τ,τ],true,res,.int .i64,φ,tot⟩) (cf:D τ→D τ→Int) (hcf:∀x y,φ (x,y,())=some (cf x y)) (hO:SWO (ltOf cf)) (hT:∀x y,(ltOf cf) x y=false→(ltOf cf) y x=false→x=y) (eg:∀args w,(callFunc g args).run P w = .ok (.enter g args) w) :
  SrtOK P f ⟨i,τ,some g,fun xs=>xs.mergeSort fun x y=>!(ltOf cf) y x⟩:=by
 subst hf6;subst hi;refine⟨hflat,fun xs=>List.length_mergeSort xs,fun w S v M xs us hlen hown hrep=>?_⟩;simp only at hown hrep ⊢;have hsz:∀x:D τ,(qa1 τ x).length=τ.size:=fun x=>Rep.length τ (qlm (w:=w) (S:=S) τ x hflat);have hus:=qtQ hflat hrep;rcases hown with ⟨rfl,⟨ao,rfl⟩,h3,h4⟩ | ⟨b,cap,cur,rfl,rfl,hb,hcap,hcap2,hcs,htake⟩
 ·have hxs:xs=[]:=List.length_eq_zero_iff.1 h3;subst hxs;refine(AnyF.slices_SortFunc_none L ao 0 _ w).mono ?_
  rintro e w' ⟨rfl,rfl⟩
  exact⟨rfl,Chg.refl _ _,us,.inl ⟨rfl,⟨ao,rfl⟩,rfl,h4⟩,by subst h4;simp[RepL]⟩
 ·have hrow:=hb;obtain⟨fz,hb,hfz⟩:=hb;have hcmp:CmpLays P g #[] (qa1 τ) τ.size cf b 0 xs.toArray.size w:=fun m os dk hdk x y=>by
   have:=ConOK.calls (CT:=⟨[],[],true,[],none,none⟩) hc (sortWorldK (qa1 τ) τ.size w b 0 m dk os) ⟨fun _=>False,fun _=>none⟩ (#[.agg (qa1 τ x).toArray,.agg (qa1 τ y).toArray] ++ #[]) (x,y,()) (cf x y) (fun _ h=>h.elim) (tabR_nil (CT:=⟨[],[],true,[],none,none⟩) rfl rfl)
    ⟨_,_,rfl,⟨qa1 τ x,qlm (CT:=⟨[],[],true,[],none,none⟩) τ x hflat,by simp[oneV,hagg]⟩,_,_,rfl,⟨qa1 τ y,qlm (CT:=⟨[],[],true,[],none,none⟩) τ y hflat,by simp[oneV,hagg]⟩,rfl⟩ (hcf x y)
   refine this.mono ?_
   rintro e w' ⟨v,rfl,hch,M',cs,_,_,hr,hv⟩
   refine⟨?_,chg_grow hch⟩;rw[hv,hr.2];rfl
  have hblk:b<w.heap.size:=(Array.getElem?_eq_some_iff.1 hb).1
  have hul:us.length=xs.length*τ.size:=by rw[hus];exact flen _ _ hsz xs
  have hnc:xs.length*τ.size≤cur.size:=by rw[hcs];exact Nat.mul_le_mul_right _ hcap
  have hH:HoldsK (qa1 τ) τ.size w b 0 xs.toArray:=by
   intro j hj;rw[size_flatK] at hj;rw[qq3 _ _ hsz,←hus]
   have hj':j<us.length:=by rw[hul];simpa using hj
   refine⟨?_,by rw[Nat.zero_add];exact hrow.fro (by omega)⟩;simp only[World.cell?,hb,Nat.zero_add];have:cur[j]?=us[j]?:=by
    rw[←htake,List.getElem?_take,if_pos (by rw[←hul];exact hj'),Array.getElem?_toList]
   simp[this,hj']
  have:=AnyQ.slices_SortFunc_total L τ.size aE zE (qa1 τ) hsz (fun x v hv=>Rep.one τ (qlm (w:=w) (S:=S) τ x hflat) v hv) cf hO g #[] b 0 cap xs.toArray w eg hcmp hH hblk (by simpa using hlen) hT;simp only[List.size_toArray] at this;refine this.mono ?_
  rintro e w' ⟨rfl,n,os,rfl⟩
  have hl:=List.length_mergeSort (le:=fun x y=>!ltOf cf y x) xs;generalize hys:xs.mergeSort (fun x y=>!ltOf cf y x)=ys at hl ⊢;simp only[hys]
  have hyl:((ys.map (qa1 τ)).flatten).length=xs.length*τ.size:=by rw[flen _ _ hsz ys,hl]
  have hheap:∀j,j<w.heap.size→(sortWorldK (qa1 τ) τ.size w b 0 n ys.toArray os).heap[j]?=if b=j then some (.cells (putCells id 0 (flatK (qa1 τ) τ.size ys.toArray) cur) (ρ.t 24) fz) else w.heap[j]?:=fun j hj=>by
   simp only[sortWorldK,putRowK,putRow,grow,mapBlock,Sort.ahead];rw[Array.getElem?_append_left (by simpa using hj),Array.getElem?_modify];by_cases e:b=j
   ·subst e;simp[hb,onCells]
   ·simp[e]
  refine⟨trivial,⟨rfl,rfl,rfl,?_,fun j hj hn=>?_,?_⟩,_,.inr ⟨b,cap,putCells id 0 (flatK (qa1 τ) τ.size ys.toArray) cur,rfl,rfl,?_,hcap,hcap2,?_,rfl⟩,?_⟩
  ·simp[sortWorldK,putRowK,putRow,grow,mapBlock,Sort.ahead]
  ·rw[hheap j hj,if_neg (fun e=>hn (by simp[e]))]
  ·simp[sortWorldK,putRowK,putRow,grow,mapBlock,Sort.ahead]
  ·exact⟨fz,by rw[hheap b hblk,if_pos rfl],by simpa[putCells] using hfz⟩
  ·simp[putCells,hcs]
  ·have:(putCells id 0 (flatK (qa1 τ) τ.size ys.toArray) cur).toList.take (xs.length*τ.size)=(ys.map (qa1 τ)).flatten:=by
    apply List.ext_getElem?;intro j;rw[List.getElem?_take];by_cases hj:j<xs.length*τ.size
    ·rw[if_pos hj,Array.getElem?_toList,qq3 _ _ hsz]
     have h1:j<cur.size:=by omega
     simp[putCells,Array.getElem?_mapIdx,h1,hyl,hj]
    ·rw[if_neg hj,List.getElem?_eq_none (by rw[hyl];omega)]
   rw[this];exact quf hflat ys
end
end Go.Den
namespace Go.Den
set_option linter.unusedVariables false
set_option linter.unusedSimpArgs false

theorem qnb {T α:Type} {f:T→Option (T ⊕ α)}:∀ {n m:Nat} {x:T} {r:α},iterN f n x=some r→n≤m→iterN f m x=some r
 | 0,_,_,_,h,_=>by simp[iterN] at h
 | n+1,0,_,_,_,h=>by omega
 | n+1,m+1,x,r,h,hm=>by
  simp only[iterN] at h ⊢
  match hf:f x with
  | none=>simp[hf] at h
  | some (.inr q)=>simp only[hf] at h ⊢;exact h
  | some (.inl y)=>simp only[hf] at h ⊢;exact qnb h (by omega)
theorem qoH {T α:Type} {f:T→Option (T ⊕ α)} {n:Nat} {x:T} {r:α} (h:iterN f n x=some r):iterW f x=some r:=by
 have hx:∃n,(iterN f n x).isSome=true:=⟨n,by rw[h];rfl⟩;unfold iterW;rw[dif_pos hx];obtain⟨q,hq⟩:=Option.isSome_iff_exists.1 (Classical.choose_spec hx);rw[hq];rcases Nat.le_total n (Classical.choose hx) with hl | hl
 ·rw[←hq,qnb h hl]
 ·rw[←h,qnb hq hl]
theorem qp6 {T α:Type} {f:T→Option (T ⊕ α)} {x:T} {r:α} (h:iterW f x=some r):∃n,iterN f n x=some r:=by
 unfold iterW at h;split at h
 ·exact⟨_,h⟩
 ·cases h
theorem qx {T α:Type} {f:T→Option (T ⊕ α)} {x y:T} (h:f x=some (.inl y)):iterW f x=iterW f y:=by
 cases hy:iterW f y with
 | some r =>
  obtain⟨n,hn⟩:=qp6 hy;exact qoH (n:=n+1) (by simp[iterN,h,hn])
 | none =>
  cases hx:iterW f x with
  | none=>rfl
  | some r =>
   obtain⟨n,hn⟩:=qp6 hx
   cases n with
   | zero=>simp[iterN] at hn
   | succ n =>
    simp only[iterN,h] at hn;rw[qoH hn] at hy;cases hy
theorem qi {T α:Type} {f:T→Option (T ⊕ α)} {x:T} {r:α} (h:f x=some (.inr r)):iterW f x=some r:=qoH (n:=1) (by simp[iterN,h])
theorem qq0 {T α:Type} {f:T→Option (T ⊕ α)} (I:T→Prop) (μ:T→Nat) (Q:α→Prop)
  (h:∀x,I x→(∃y,f x=some (.inl y)∧I y∧μ y<μ x)∨(∃r,f x=some (.inr r)∧Q r)):∀x,I x→∃r,iterW f x=some r∧Q r:=by
 have key:∀(n:Nat) x,μ x<n→I x→∃r,iterW f x=some r∧Q r:=by
  intro n
  induction n with
  | zero=>intro x hx;omega
  | succ n ih =>
   intro x hx hi;rcases h x hi with ⟨y,h1,h2,h3⟩ | ⟨r,h1,h2⟩
   ·rw[qx h1];exact ih y (by omega) h2
   ·exact⟨r,qi h1,h2⟩
 exact fun x hi=>key _ x (Nat.lt_succ_self _) hi
theorem qt8 {T α:Type} {f:T→Option (T ⊕ α)} (I:T→Prop) (μ:T→Nat) (g:T→α)
  (h:∀x,I x→(∃y,f x=some (.inl y)∧I y∧μ y<μ x∧g y=g x)∨f x=some (.inr (g x))):∀x,I x→iterW f x=some (g x):=by
 have key:∀(n:Nat) x,μ x<n→I x→iterW f x=some (g x):=by
  intro n
  induction n with
  | zero=>intro x hx;omega
  | succ n ih =>
   intro x hx hi;rcases h x hi with ⟨y,h1,h2,h3,h4⟩ | h1
   ·rw[qx h1,ih y (by omega) h2,h4]
   ·exact qi h1
 exact fun x hi=>key _ x (Nat.lt_succ_self _) hi
theorem qaq {T α:Type} {f:T→Option (T ⊕ α)} (n:Nat) (st:Nat→T) (r:α) (hs:∀i,i<n→f (st i)=some (.inl (st (i+1)))) (he:f (st n)=some (.inr r)):iterW f (st 0)=some r:=by
 have key:∀k,k≤n→iterW f (st (n-k))=some r:=by
  intro k
  induction k with
  | zero=>intro _;exact qi he
  | succ k ih =>
   intro hk;have:=hs (n-(k+1)) (by omega);rw[show n-(k+1)+1=n-k by omega] at this;rw[qx this];exact ih (by omega)
 have:=key n (Nat.le_refl _)
 rwa [Nat.sub_self] at this
theorem qag {α β:Type} (xs:List α) (p:α→Bool) (f:((Int×Unit)×Unit)→Option (((Int×Unit)×Unit) ⊕ β)) (A B:β)
  (h1:∀i (hi:i<xs.length),f (((i:Int),()),())=bif p xs[i] then some (.inr A) else some (.inl ((((i+1:Nat):Int),()),()))) (h2:f (((xs.length:Int),()),())=some (.inr B)) :
  iterW f ((0,()),())=some (bif xs.any p then A else B):=by
 have key:∀k i,i+k=xs.length→iterW f (((i:Int),()),())=some (bif (xs.drop i).any p then A else B):=by
  intro k
  induction k with
  | zero =>
   intro i hi
   have:i=xs.length:=by omega
   subst this;rw[qi h2];simp
  | succ k ih =>
   intro i hi
   have hl:i<xs.length:=by omega
   have hs:=h1 i hl;rw[List.drop_eq_getElem_cons hl]
   cases hp:p xs[i] with
   | true =>
    rw[hp] at hs;rw[qi hs];simp only[List.any_cons,hp,Bool.true_or,cond_true]
   | false =>
    rw[hp] at hs;rw[qx hs,ih (i+1) (by omega)];simp only[List.any_cons,hp,Bool.false_or]
 have:=key xs.length 0 (by omega);simpa using this
def scan {β:Type} (e:Nat→Option β) (B:β):Nat→Nat→β
 | _,0=>B
 | i,k+1=>match e i with
  | some b=>b
  | none=>scan e B (i+1) k
theorem qrM {β:Type} (n:Nat) (f:((Int×Unit)×Unit)→Option (((Int×Unit)×Unit) ⊕ β)) (e:Nat→Option β) (B:β)
  (h1:∀i,i<n→f (((i:Int),()),())=match e i with
   | some b=>some (.inr b)
   | none=>some (.inl ((((i+1:Nat):Int),()),()))) (h2:f (((n:Int),()),())=some (.inr B)) :
  iterW f ((0,()),())=some (scan e B 0 n):=by
 have key:∀k i,i+k=n→iterW f (((i:Int),()),())=some (scan e B i k):=by
  intro k
  induction k with
  | zero =>
   intro i hi
   have:i=n:=by omega
   subst this;exact qi h2
  | succ k ih =>
   intro i hi;have hs:=h1 i (by omega);unfold scan
   match he:e i with
   | some b=>rw[he] at hs;exact qi hs
   | none=>rw[he] at hs;rw[qx hs];exact ih (i+1) (by omega)
 exact key n 0 (by omega)
theorem qrb {β:Type} {e e':Nat→Option β} (B:β):∀(k i:Nat),(∀j,i≤j→j<i+k→e j=e' j)→scan e B i k=scan e' B i k
 | 0,_,_=>rfl
 | k+1,i,h=>by
  unfold scan;rw[h i (Nat.le_refl _) (by omega),qrb B k (i+1) fun j h1 h2=>h j (by omega) (by omega)]
theorem qf {n:Int} (h1 : -9223372036854775808≤n) (h2:n≤9223372036854775807):w64 n=n:=by
 simp[w64,IntKind.wrap,IntKind.signed,IntKind.bits];omega
theorem qO {n b:Nat} (h:n*b≤140737488355328):room n b=true:=Nat.ble_eq_true_of_le h
theorem beq_f {α:Type} [BEq α] [LawfulBEq α] {a b:α} (h:¬a=b):(a==b)=false:=by simpa using h
theorem bne_t {α:Type} [BEq α] [LawfulBEq α] {a b:α} (h:¬a=b):(a !=b)=true:=by simpa using h
theorem beq_t {α:Type} [BEq α] [LawfulBEq α] {a b:α} (h:a=b):(a==b)=true:=by simpa using h
theorem bne_f {α:Type} [BEq α] [LawfulBEq α] {a b:α} (h:a=b):(a !=b)=false:=by simpa using h
theorem qc {α:Type} (x:Option α):req true x=x:=rfl
theorem at?_eq {α:Type} (xs:List α) (i:Int) (h0:0≤i) (h1:i<(xs.length:Int)):at? xs i=some (xs[i.toNat]'(by omega)):=by
 simp[at?,h0,List.getElem?_eq_getElem (show i.toNat<xs.length by omega)]
theorem inb_iff {i:Int} {n:Nat}:inb i n=true↔0≤i∧i<(n:Int):=by simp[inb]
def Le {α:Type} (a b:Option α):Prop:=∀r,a=some r→b=some r
theorem Le.refl {α:Type} (a:Option α):Le a a:=fun _ h=>h
theorem Le.bind {α β:Type} {a b:Option α} {f g:α→Option β} (h:Le a b) (hf:∀x,Le (f x) (g x)):Le (Option.bind a f) (Option.bind b g):=fun r hr=>by
 obtain⟨x,h1,h2⟩:=Option.bind_eq_some_iff.1 hr;rw[h x h1];exact hf x r h2
theorem Le.elim {α β γ:Type} {f g:α→Option γ} {f' g':β→Option γ} (h:∀x,Le (f x) (g x)) (h':∀x,Le (f' x) (g' x)):∀x,Le (Sum.elim f f' x) (Sum.elim g g' x)
 | .inl x=>h x
 | .inr x=>h' x
theorem Le.cond {α:Type} {c:Bool} {a b a' b':Option α} (h:Le a a') (h':Le b b'):Le (bif c then a else b) (bif c then a' else b'):=by
 cases c
 ·exact h'
 ·exact h
theorem Le.req {α:Type} {c:Bool} {a b:Option α} (h:Le a b):Le (req c a) (req c b):=by
 cases c
 ·exact Le.refl _
 ·exact h
theorem Le.gopt {α:Type} {c:Bool} {d:α} {a b:Option α} (h:Le a b):Le (gopt c d a) (gopt c d b):=by
 cases c
 ·exact Le.refl _
 ·exact h
theorem Le.map {α β:Type} {f:α→β} {a b:Option α} (h:Le a b):Le (Option.map f a) (Option.map f b):=fun r hr=>by
 obtain⟨x,h1,h2⟩:=Option.map_eq_some_iff.1 hr;rw[h x h1,←h2];rfl
theorem Le.iter {T α:Type} {f g:T→Option (T ⊕ α)} (h:∀x,Le (f x) (g x)) (n:Nat) (x:T):Le (iterN f n x) (iterW g x):=by
 have key:∀n x,Le (iterN f n x) (iterN g n x):=by
  intro n
  induction n with
  | zero=>intro x;exact Le.refl _
  | succ n ih =>
   intro x r hr;simp only[iterN] at hr ⊢
   match hf:f x with
   | none=>rw[hf] at hr;cases hr
   | some (.inl y)=>rw[hf] at hr;rw[h x _ hf];exact ih y r hr
   | some (.inr q)=>rw[hf] at hr;rw[h x _ hf];exact hr
 exact fun r hr=>qoH (key n x r hr)
def Mono {T α:Type} (G:(T→Option α)→T→Option α):Prop:=∀φ ψ,(∀x,Le (φ x) (ψ x))→∀x,Le (G φ x) (G ψ x)
theorem Le.fix {T α:Type} {F G:(T→Option α)→T→Option α} (h:∀φ ψ,(∀x,Le (φ x) (ψ x))→∀x,Le (F φ x) (G ψ x)) (hG:Mono G) (n:Nat) (x:T):Le (fixN F n x) (fixW G x):=by
 have key:∀n x,Le (fixN F n x) (fixN G n x):=by
  intro n
  induction n with
  | zero=>intro x;exact Le.refl _
  | succ n ih=>intro x;exact h _ _ ih x
 have up:∀n x,Le (fixN G n x) (fixN G (n+1) x):=by
  intro n
  induction n with
  | zero=>intro x r hr;cases hr
  | succ n ih=>intro x;exact hG _ _ ih x
 have mono:∀k n x,Le (fixN G n x) (fixN G (n+k) x):=by
  intro k
  induction k with
  | zero=>intro n x;exact Le.refl _
  | succ k ih=>intro n x r hr;exact up _ x r (ih n x r hr)
 intro r hr;have h1:=key n x r hr;have hx:∃n,(fixN G n x).isSome=true:=⟨n,by rw[h1];rfl⟩;unfold fixW;rw[dif_pos hx];obtain⟨q,hq⟩:=Option.isSome_iff_exists.1 (Classical.choose_spec hx);rw[hq];rcases Nat.le_total n (Classical.choose hx) with hl | hl
 ·have:=mono (Classical.choose hx-n) n x r h1;rw[show n+(Classical.choose hx-n)=Classical.choose hx by omega,hq] at this;exact this
 ·have:=mono (n-Classical.choose hx) (Classical.choose hx) x q hq;rw[show Classical.choose hx+(n-Classical.choose hx)=n by omega,h1] at this;exact this.symm
end Go.Den
namespace Go.Den
open Go.Eng Go.Proofs Go.Shelf Go.RowKit
set_option linter.unusedVariables false
set_option linter.unusedSectionVars false
set_option linter.unusedSimpArgs false
variable [CT : Ctx]
variable {P : Program} {ρ : Ren}

theorem ck_of (L:Lays.n240 P ρ) (X:Builder.X72 P ρ):CkOK P (ρ.f 240) (ρ.t 72):=by
 intro w b p v hheap hp;rcases hp with rfl | rfl
 ·refine(Any.Builder_copyCheck_fresh L X b w (by simp[World.cell?,hheap]) (by simp[World.shape?,hheap]) (by simp[World.frozen?,hheap])).mono ?_
  rintro e w' ⟨rfl,rfl⟩
  have hs:=setCell_eq_setRow w b 0 #[.pointer none,v] (ρ.t 72) (0,0) (.pointer (some ⟨b,0,none⟩)) hheap;rw[hs];exact⟨rfl,qe6,setRow_heap w b _ _ (ρ.t 72) (0,0) hheap⟩
 ·refine(Any.Builder_copyCheck_used L X b w (by simp[World.cell?,hheap])).mono ?_
  rintro e w' ⟨rfl,rfl⟩
  exact⟨rfl,Chg.refl _ _,hheap⟩
theorem qtn (w:World):∀(l:List Int) (a:Addr) (acc:ByteArray),(∀(j:Nat) x,l[j]?=some x→w.cell? (a.add j)=some (.int .u8 x))→(loadBytes a acc l.length).run P w = .ok (l.foldl (fun r n=>r.push (UInt8.ofNat n.toNat)) acc) w
 | [],a,acc,_=>by simp[loadBytes]
 | x::l,a,acc,h=>by
  have h0:w.cell? a=some (.int .u8 x):=by
   have:=h 0 x rfl;simpa[Addr.add] using this
  have ih:=qtn w l (a.add 1) (acc.push (UInt8.ofNat x.toNat)) (fun j y hy=>by
   have:=h (j+1) y (by simpa using hy);rw[qsp,Nat.add_comm]
   exact this)
  simp only[List.length_cons,loadBytes,Sem.run_bind,run_load,h0,Result.andThen];exact ih
theorem qxr (w:World) (pt it ty e:TypeId) (hp:P.underlying pt=some (.pointer e)) (hc:P.cellsOf e=1) (g cells:Nat) (hsh:w.shape? g=some (e,cells)) (l:List Int) (h0:l≠[]) (hn:l.length≤cells) (h63:l.length≤9223372036854775807)
  (hcell:∀(j:Nat) x,l[j]?=some x→w.cell? ((⟨g,0,none⟩:Addr).add j)=some (.int .u8 x)) :
  (Builtin.unsafeString_ #[pt,it] ty #[.pointer (some ⟨g,0,none⟩),.int .i64 l.length]).run P w = .ok (Value.string (strOf l)) (w.freeze ⟨g,0,none⟩ l.length):=by
 have hl:l.length≠0:=by simpa using h0
 have hlb:=qtn (P:=P) w l ⟨g,0,none⟩ .empty hcell;have hlies:=Lib.liesAt_bytes (P:=P) hc (cells / P.cellsOf e) l.length (by rw[hc];simpa using hn)
 have h63':¬(9223372036854775807:Int)<(l.length:Int):=by omega
 have hmax:IntKind.i64.max=9223372036854775807:=rfl
 have hneg:¬(l.length:Int)<0:=by omega
 have hstr:strOf l=l.foldl (fun r n=>r.push (UInt8.ofNat n.toNat)) ByteArray.empty:=rfl;rw[hstr];refine(congrArg (fun s=>Sem.run P s w) (show Builtin.unsafeString_ #[pt,it] ty #[.pointer (some ⟨g,0,none⟩),.int .i64 l.length]=(Go.asInt (.int .i64 l.length) >>= _) from rfl)).trans ?_;simp[Go.asInt,asIntOf,hmax,h63',hneg,hl,variablesAt,hsh,Go.elemOf,run_underlying hp,hlies,hlb]
theorem qxn (w:World) (g n:Nat):Chg [g] w (w.drew.freeze ⟨g,0,none⟩ n):=by
 by_cases h0:n=0
 ·subst h0;exact(Chg.drewN w 1).mono (by simp)
 ·unfold World.freeze;rw[if_neg h0];refine⟨rfl,rfl,rfl,by simp,fun k hk hn=>?_,fun _=>Nat.le_succ _⟩;have hne:¬g=k:=fun e=>hn (by simp[e]);simp[Array.getElem?_modify,hne];rfl
set_option maxHeartbeats 2000000 in
set_option maxRecDepth 100000 in
theorem bs_row (L:Lays.n169 P ρ) (X:Builder.Extra P ρ) (w:World) (b g n cap:Nat) (p r:Value) (W:World) (hch:Chg [g] w W) (hbk:w.heap[b]?=some (.cells #[p,.slice (some ⟨g,0,none⟩) n cap] (ρ.t 72) (0,0))) (hcap:cap≠0)
  (hUS:(Builtin.unsafeString_ #[(ρ.t 127),(ρ.t 3)] (ρ.t 9) #[.pointer (some ⟨g,0,none⟩),.int .i64 n]).run P w.drew = .ok r W) :
  Calls P (ρ.f 169) #[.pointer (some ⟨b,0,none⟩)] w fun e w'=>e = .returned r∧Chg [g] w w':=by
 have c1:w.drew.cell? ⟨b,1,none⟩=some (.slice (some ⟨g,0,none⟩) n cap):=by
  have:w.drew.heap[b]?=some (.cells #[p,.slice (some ⟨g,0,none⟩) n cap] (ρ.t 72) (0,0)):=hbk;rw[Lib.cell_of_heap this];rfl
 have hSD:(Builtin.unsafeSliceData_ #[(ρ.t 37)] (ρ.t 127) #[.slice (some ⟨g,0,none⟩) n cap]).run P w.drew = .ok (.pointer (some ⟨g,0,none⟩)) w.drew:=Lib.run_unsafeSliceData_row _ _ _ _ _ _ hcap;have mixed:=L.mixed;have t72:=L.t72;have a72:=L.a72;have z72:=L.z72;have v72:=L.v72;have u72:=run_underlying L.t72;have t70:=L.t70;have a70:=L.a70;have z70:=L.z70;have v70:=L.v70;have u70:=run_underlying L.t70;have t37:=L.t37;have a37:=L.a37;have z37:=L.z37;have v37:=L.v37;have u37:=run_underlying L.t37;have t127:=L.t127;have a127:=L.a127;have z127:=L.z127;have v127:=L.v127;have u127:=run_underlying L.t127;have t3:=L.t3;have a3:=L.a3;have z3:=L.z3;have v3:=L.v3;have u3:=run_underlying L.t3;have t9:=L.t9;have a9:=L.a9;have z9:=L.z9;have v9:=L.v9;have u9:=run_underlying L.t9
 have t5:=X.t5;have a5:=X.a5;have z5:=X.z5;have v5:=X.v5;have u5:=run_underlying X.t5;clear hcap
 go_enter L.f169,Body.n169_ntmps ρ
 go_wp2
 go_region_o
 all_goals (go_wp2;go_ret;exact⟨rfl,hch⟩)
set_option maxHeartbeats 2000000 in
set_option maxRecDepth 100000 in
theorem bs_nil (L:Lays.n169 P ρ) (X:Builder.Extra P ρ) (w:World) (b:Nat) (p:Value) (hbk:w.heap[b]?=some (.cells #[p,.slice none 0 0] (ρ.t 72) (0,0))) :
  Calls P (ρ.f 169) #[.pointer (some ⟨b,0,none⟩)] w fun e w'=>e = .returned (.string .empty)∧Chg [] w w':=by
 have hUS:=Any.unsafeString_none L X;have c1:w.drew.cell? ⟨b,1,none⟩=some (.slice none 0 0):=by
  have:w.drew.heap[b]?=some (.cells #[p,.slice none 0 0] (ρ.t 72) (0,0)):=hbk;rw[Lib.cell_of_heap this];rfl
 have hSD:(Builtin.unsafeSliceData_ #[(ρ.t 37)] (ρ.t 127) #[.slice none 0 0]).run P w.drew = .ok (.pointer none) w.drew:=rfl;have hch:Chg [] w w.drew:=Chg.drewN w 1;have mixed:=L.mixed;have t72:=L.t72;have a72:=L.a72;have z72:=L.z72;have v72:=L.v72;have u72:=run_underlying L.t72;have t70:=L.t70;have a70:=L.a70;have z70:=L.z70;have v70:=L.v70;have u70:=run_underlying L.t70;have t37:=L.t37;have a37:=L.a37;have z37:=L.z37;have v37:=L.v37;have u37:=run_underlying L.t37;have t127:=L.t127;have a127:=L.a127;have z127:=L.z127;have v127:=L.v127;have u127:=run_underlying L.t127;have t3:=L.t3;have a3:=L.a3;have z3:=L.z3;have v3:=L.v3;have u3:=run_underlying L.t3;have t9:=L.t9;have a9:=L.a9;have z9:=L.z9;have v9:=L.v9;have u9:=run_underlying L.t9
 have t5:=X.t5;have a5:=X.a5;have z5:=X.z5;have v5:=X.v5;have u5:=run_underlying X.t5
 go_enter L.f169,Body.n169_ntmps ρ
 go_wp2
 go_region_o
 all_goals (go_wp2;go_ret;exact⟨rfl,hch⟩)
theorem bs_of (L:Lays.n169 P ρ) (X:Builder.Extra P ρ):BsOK P (ρ.f 169) (ρ.t 72) (ρ.t 5):=by
 intro w b p v M xs hheap hne hown hb;rcases hown with ⟨rfl,⟨ao,rfl⟩,h0,h4⟩ | ⟨g,cap,cur,rfl,rfl,hh,h4,h5,h6,h7⟩
 ·have hx:xs=[]:=List.length_eq_zero_iff.1 h0;subst hx;have:ao=none:=by
   rcases hne with h | ⟨a,n,c,h,hc⟩
   ·simp at h;exact h
   ·simp at h;exact absurd h.2.2.symm hc
  subst this;exact bs_nil L X w b p hheap
 ·by_cases hx:xs=[]
  ·subst hx;have hcap:cap≠0:=by
    rcases hne with h | ⟨a,n,c,h,hc⟩
    ·simp at h
    ·simp at h;rw[h.2.2];exact hc
   refine bs_row L X w b g 0 cap p (.string .empty) w.drew ((Chg.drewN w 1).mono (by simp)) hheap hcap ?_;exact Any.unsafeString_none L X w.drew (some ⟨g,0,none⟩)
  ·have hpos:0<xs.length:=List.length_pos_iff.2 hx;rw[Nat.mul_one] at h6 h7;obtain⟨fz,hg,_⟩:=hh;refine bs_row L X w b g xs.length cap p (.string (strOf xs)) (w.drew.freeze ⟨g,0,none⟩ xs.length) (qxn w g _) hheap (by omega) ?_;refine qxr w.drew (ρ.t 127) (ρ.t 3) (ρ.t 9) (ρ.t 5) L.t127 X.cellsByte g cur.size (by have hg':w.drew.heap[g]?=some (.cells cur (ρ.t 5) fz):=hg;simp[World.shape?,hg']) xs hx (by omega) (by unfold maxLen at h5;omega) ?_;intro j x hj;have hlt:j<xs.length:=(List.getElem?_eq_some_iff.1 hj).1;rw[adr_add,Nat.zero_add];have hg':w.drew.heap[g]?=some (.cells cur (ρ.t 5) fz):=hg;simp only[World.cell?,hg'];have:cur.toList[j]?=some (.int .u8 x):=by
    have h8:(cur.toList.take xs.length)[j]?=(xs.map (Value.int .u8))[j]?:=by rw[h7]
    rw[List.getElem?_take,if_pos hlt,List.getElem?_map,hj] at h8;exact h8
   simpa using this
end Go.Den
namespace Go.Den
set_option linter.unusedVariables false
def rngB:(τ:Ty)→D τ→Bool
 | .int k,(n:Int)=>decide (k.min≤n)&&decide (n≤k.max)
 | .bool,_=>true
 | .str,(s:ByteArray)=>Nat.ble s.size maxLen
 | .sl e,(xs:List (D e))=>Nat.ble xs.length maxLen&&xs.all (rngB e)
 | .osl _ e,(xs:List (D e))=>Nat.ble xs.length maxLen&&xs.all (rngB e)
 | .obx e,x=>rngB e x
 | .onl _ _,_=>true
 | .err,_=>true
 | .bld _ _,_=>true
 | .nil,_=>true
 | .ref,_=>true
 | .ifc _ _,_=>true
 | .omp _ _,_=>true
 | .st f r,x=>rngB f x.1&&rngB r x.2
theorem qlb:∀(τ:Ty) (x:D τ),rngB τ x=true→Rng τ x
 | .int k,n,h=>by
  simp only[rngB,Bool.and_eq_true,decide_eq_true_eq] at h
  cases k<;>exact h
 | .bool,_,_=>trivial
 | .str,s,h=>Nat.le_of_ble_eq_true h
 | .sl e,xs,h=>by
  simp only[rngB,Bool.and_eq_true] at h;exact⟨Nat.le_of_ble_eq_true h.1,fun x hx=>qlb e x (List.all_eq_true.1 h.2 x hx)⟩
 | .osl _ e,xs,h=>by
  simp only[rngB,Bool.and_eq_true] at h;exact⟨Nat.le_of_ble_eq_true h.1,fun x hx=>qlb e x (List.all_eq_true.1 h.2 x hx)⟩
 | .obx e,x,h=>qlb e x h
 | .onl _ _,_,_=>trivial
 | .err,_,_=>trivial
 | .bld _ _,_,_=>trivial
 | .nil,_,_=>trivial
 | .ref,_,_=>trivial
 | .ifc _ _,_,_=>trivial
 | .omp _ _,_,_=>trivial
 | .st f r,x,h=>by
  simp only[rngB,Bool.and_eq_true] at h;exact⟨qlb f x.1 h.1,qlb r x.2 h.2⟩
set_option linter.unusedSimpArgs false

def foldN {A:Type} (g:Nat→A→A):Nat→A→A
 | 0,a=>a
 | n+1,a=>g n (foldN g n a)
theorem qtl {A R:Type} (n:Nat) (f:((A×Int×Unit)×Unit)→Option (((A×Int×Unit)×Unit) ⊕ R)) (g:Nat→A→A) (fin:A→R) (I:Nat→A→Prop) (a0:A) (h0:I 0 a0)
  (hs:∀i,i<n→∀a,I i a→f ((a,(i:Int),()),())=some (.inl ((g i a,((i:Int)+1),()),()))∧I (i+1) (g i a)) (he:∀a,I n a→f ((a,(n:Int),()),())=some (.inr (fin a))) :
  iterW f ((a0,(0:Int),()),())=some (fin (foldN g n a0)):=by
 have hI:∀i,i≤n→I i (foldN g i a0):=fun i=>by
  induction i with
  | zero=>intro _;exact h0
  | succ i ih=>intro hi;exact(hs i (by omega) _ (ih (by omega))).2
 have:=qaq (f:=f) n (fun i=>((foldN g i a0,(i:Int),()),())) (fin (foldN g n a0)) (fun i hi=>by
  rw[(hs i hi _ (hI i (by omega))).1]
  simp[foldN]) (he _ (hI n (Nat.le_refl _)))
 exact this
theorem quh {A:Type} (F:Nat→List A):∀(n:Nat) (a:List A),foldN (fun i a=>a++F i) n a=a++(List.range n).flatMap F
 | 0,a=>by simp[foldN]
 | n+1,a=>by rw[foldN,quh F n,List.range_succ];simp
theorem qjN {A R:Type} (n B:Nat) (f:(((List A)×Int×Unit)×Unit)→Option ((((List A)×Int×Unit)×Unit) ⊕ R)) (F:Nat→List A) (fin:List A→R) (a0:List A) (hF:∀i,i<n→(F i).length≤B)
  (hs:∀i,i<n→∀a:List A,a.length≤a0.length+i*B→f ((a,(i:Int),()),())=some (.inl ((a++F i,((i:Int)+1),()),()))) (he:∀a,f ((a,(n:Int),()),())=some (.inr (fin a))) :
  iterW f ((a0,(0:Int),()),())=some (fin (a0++(List.range n).flatMap F)):=by
 rw[←quh];refine qtl n f (fun i a=>a++F i) fin (fun i a=>a.length≤a0.length+i*B) a0 (by simp) (fun i hi a ha=>⟨hs i hi a ha,?_⟩) (fun a _=>he a);have:=hF i hi;rw[List.length_append,Nat.add_mul];omega
theorem qbM {A C:Type} (F:C→List A) (B:Nat):∀l:List C,(∀x∈l,(F x).length≤B)→(l.flatMap F).length≤l.length*B
 | [],_=>by simp
 | x::l,h=>by
  have:=qbM F B l (fun y hy=>h y (List.mem_cons_of_mem _ hy));have:=h x List.mem_cons_self;rw[List.flatMap_cons,List.length_append,List.length_cons,Nat.add_mul];omega
theorem foldN_all {A:Type} (xs:List A) (q:A→Bool) (b0:Bool):∀n,n≤xs.length→foldN (fun i b=>b&&((xs[i]?).map q).getD true) n b0=(b0&&(xs.take n).all q)
 | 0,_=>by simp[foldN]
 | n+1,h=>by
  have hn:n<xs.length:=by omega
  rw[foldN,foldN_all xs q b0 n (by omega),List.getElem?_eq_getElem hn,List.take_succ_eq_append_getElem hn,List.all_append];simp[Bool.and_assoc]
theorem qrL {A R:Type} (xs:List A) (q:A→Bool) (f:((Int×Int×Unit)×Unit)→Option (((Int×Int×Unit)×Unit) ⊕ R)) (fin:Int→R)
  (hs:∀(i:Nat) (hi:i<xs.length) (c:Int),0≤c→c≤i→f ((c,(i:Int),()),())=some (.inl (((bif q xs[i] then c+1 else c),((i:Int)+1),()),()))) (he:∀c,f ((c,(xs.length:Int),()),())=some (.inr (fin c))) :
  iterW f (((0:Int),(0:Int),()),())=some (fin ((xs.countP q:Nat):Int)):=by
 have hf:∀n,n≤xs.length→foldN (fun i (c:Int)=>bif ((xs[i]?).map q).getD false then c+1 else c) n 0=(((xs.take n).countP q:Nat):Int):=fun n=>by
  induction n with
  | zero=>intro _;simp[foldN]
  | succ n ih =>
   intro h
   have hn:n<xs.length:=by omega
   rw[foldN,ih (by omega),List.getElem?_eq_getElem hn,List.take_succ_eq_append_getElem hn,List.countP_append];simp only[Option.map_some,Option.getD_some,List.countP_cons,List.countP_nil]
   cases q xs[n]<;>simp
 have:=hf xs.length (Nat.le_refl _);rw[List.take_length] at this;rw[←this];refine qtl xs.length f _ fin (fun i c=>0≤c∧c≤i) 0 (by simp) (fun i hi c hc=>⟨?_,?_⟩) (fun b _=>he b)
 ·rw[hs i hi c hc.1 hc.2,List.getElem?_eq_getElem hi];rfl
 ·cases ((xs[i]?).map q).getD false<;>simp<;>omega
theorem Le.iterW {T α:Type} {f g:T→Option (T ⊕ α)} (h:∀x,Le (f x) (g x)) (x:T):Le (Go.Den.iterW f x) (Go.Den.iterW g x):=fun r hr=>by
 obtain⟨n,hn⟩:=qp6 hr;exact Le.iter h n x r hn
theorem Le.agreeW {α:Type} {a b a' b':Option α} (h:Le a a') (h':Le b b'):Le (Go.Den.agree a b) (Go.Den.agree a' b'):=fun r hr=>by
 unfold Go.Den.agree at hr ⊢;split at hr
 ·rename_i e;rw[h r hr,h' r (e▸hr),if_pos rfl]
 ·cases hr
end Go.Den
namespace Go.Proofs.YthidcmjpbokeeaaGreatDoor
open Go.Den
set_option linter.unusedVariables false
set_option maxRecDepth 100000
theorem qgO (self self':(Zv12×Unit×(List (Zv50×(Option (List Nat))))×Zv33×Unit)→Option (Zv12×(List (Zv50×(Option (List Nat))))×(List Nat))) (hself:∀x,Le (self x) (self' x)) (p:Zv79×Zv57×Int×Int×Unit) (x10:((List Nat)×Unit)×(Zv15×(List (Zv50×(Option (List Nat))))×Unit)):Le (qV p self x10) (qV p self' x10):=by
 unfold qV
 repeat (first | exact Le.refl _ | assumption | apply hself | apply Le.cond | apply Le.req | apply Le.gopt | apply Le.map | apply Le.agreeW | refine Le.iterW (fun _=>?_) _ | refine Le.bind ?_ (Le.elim (fun _=>?_) (fun _=>?_)) | refine Le.bind ?_ (fun _=>?_))
theorem qdt:Mono qw:=by
 intro self self' hself x
 unfold qw qbi
 repeat (first | exact Le.refl _ | assumption | apply qgO | apply hself | apply Le.cond | apply Le.req | apply Le.gopt | apply Le.map | apply Le.agreeW | refine Le.iterW (fun _=>?_) _ | refine Le.bind ?_ (Le.elim (fun _=>?_) (fun _=>?_)) | refine Le.bind ?_ (fun _=>?_))
theorem qhc (self self':(Zv12×Unit×(List ((Zv71×ByteArray×(List Nat)×Unit)×(Option (List Nat))))×(List Nat)×Int×Unit)→Option (Zv12×(List ((Zv71×ByteArray×(List Nat)×Unit)×(Option (List Nat))))×Unit)) (hself:∀x,Le (self x) (self' x)) (l:List Nat) (parent:Int) (x1:Zv78×(Zv15×(List ((Zv71×ByteArray×(List Nat)×Unit)×(Option (List Nat))))×Unit)):Le (qs l parent self x1) (qs l parent self' x1):=by
 unfold qs
 repeat (first | exact Le.refl _ | assumption | apply hself | apply Le.cond | apply Le.req | apply Le.gopt | apply Le.map | apply Le.agreeW | refine Le.iterW (fun _=>?_) _ | refine Le.bind ?_ (Le.elim (fun _=>?_) (fun _=>?_)) | refine Le.bind ?_ (fun _=>?_))
theorem qd1:Mono qD:=by
 intro self self' hself x
 unfold qD qbJ
 repeat (first | exact Le.refl _ | assumption | apply qhc | apply hself | apply Le.cond | apply Le.req | apply Le.gopt | apply Le.map | apply Le.agreeW | refine Le.iterW (fun _=>?_) _ | refine Le.bind ?_ (Le.elim (fun _=>?_) (fun _=>?_)) | refine Le.bind ?_ (fun _=>?_))
set_option linter.unusedSimpArgs false

abbrev Way:=Int×Int×Int×Int×Unit
abbrev Piece:=Int×Int×Int×(List Way)×Unit
abbrev End:=Int×Int×Int×Bool×Unit
abbrev Rules:=ByteArray×Int×Int×(List Piece)×(List Int)×Bool×Bool×(List End)×Int×Int×Int×Unit
abbrev Rules.name (r:Rules):ByteArray:=r.1
abbrev Rules.width (r:Rules):Int:=r.2.1
abbrev Rules.height (r:Rules):Int:=r.2.2.1
abbrev Rules.pieces (r:Rules):List Piece:=r.2.2.2.1
abbrev Rules.start (r:Rules):List Int:=r.2.2.2.2.1
abbrev Rules.falls (r:Rules):Bool:=r.2.2.2.2.2.1
abbrev Rules.keeps (r:Rules):Bool:=r.2.2.2.2.2.2.1
abbrev Rules.ends (r:Rules):List End:=r.2.2.2.2.2.2.2.1
abbrev Rules.blocked (r:Rules):Int:=r.2.2.2.2.2.2.2.2.1
abbrev Rules.quiet (r:Rules):Int:=r.2.2.2.2.2.2.2.2.2.1
abbrev Rules.repeats (r:Rules):Int:=r.2.2.2.2.2.2.2.2.2.2.1
abbrev tyWay:Ty := .st (.int .i64) (.st (.int .i64) (.st (.int .i64) (.st (.int .i64) .nil)))
abbrev tyPiece:Ty := .st (.int .u8) (.st (.int .i64) (.st (.int .i64) (.st (.sl tyWay) .nil)))
abbrev tyEnd:Ty := .st (.int .i64) (.st (.int .i64) (.st (.int .i64) (.st .bool .nil)))
abbrev qae:Ty := .st .str (.st (.int .i64) (.st (.int .i64) (.st (.sl tyPiece) (.st (.sl (.int .i64)) (.st .bool (.st .bool (.st (.sl tyEnd) (.st (.int .i64) (.st (.int .i64) (.st (.int .i64) .nil))))))))))

def nz (x:Int):Option Int:=if x=0 then none else some x
def qaH (f:Nat→Int) (n:Nat):Int:=scan (fun i=>nz (f i)) 0 0 n
theorem qd4 {f:Nat→Int} {n:Nat} (h:qaH f n=0):∀i,i<n→f i=0:=by
 have key:∀(k i:Nat),scan (fun i=>nz (f i)) 0 i k=0→∀j,i≤j→j<i+k→f j=0:=by
  intro k
  induction k with
  | zero=>intro i _ j h1 h2;omega
  | succ k ih =>
   intro i hs j h1 h2;unfold scan at hs;by_cases c:f i=0
   ·simp only[nz,if_pos c] at hs;rcases Nat.eq_or_lt_of_le h1 with e | e
    ·rw[←e];exact c
    ·exact ih (i+1) hs j e (by omega)
   ·simp only[nz,if_neg c] at hs;exact absurd hs c
 exact fun i hi=>key n 0 h i (Nat.zero_le _) (by omega)
theorem qrP {f g:Nat→Int} {n:Nat} (h:∀i,i<n→f i=g i):qaH f n=qaH g n :=
 qrb 0 n 0 fun j _ hj=>by rw[h j (by omega)]
theorem qui {γ:Type} (n:Nat) (f:((Int×Unit)×Unit)→Option (((Int×Unit)×Unit) ⊕ (γ ⊕ Int))) (err:Nat→Int) (u:γ) (z:Option Int)
  (h1:∀i,i<n→f (((i:Int),()),())=if err i=0 then some (.inl ((((i+1:Nat):Int),()),())) else some (.inr (.inr (err i)))) (h2:f (((n:Int),()),())=some (.inr (.inl u))) :
  Option.bind (iterW f ((0,()),())) (Sum.elim (fun _=>z) some)=if qaH err n=0 then z else some (qaH err n):=by
 have key:∀k i,i+k=n→Option.bind (iterW f (((i:Int),()),())) (Sum.elim (fun _=>z) some)=if scan (fun i=>nz (err i)) 0 i k=0 then z else some (scan (fun i=>nz (err i)) 0 i k):=by
  intro k
  induction k with
  | zero =>
   intro i hi
   have:i=n:=by omega
   subst this;rw[qi h2];rfl
  | succ k ih =>
   intro i hi;have hs:=h1 i (by omega);unfold scan;by_cases c:err i=0
   ·rw[if_pos c] at hs;rw[qx hs,ih (i+1) (by omega)]
    have:nz (err i)=none:=by simp only[nz,if_pos c]
    rw[this]
   ·rw[if_neg c] at hs;rw[qi hs]
    have:nz (err i)=some (err i):=by simp only[nz,if_neg c]
    simp only[this,if_neg c];rfl
 exact key n 0 (by omega)
def ch (s:ByteArray) (i:Nat):Nat:=((s[i]?).getD 0).toNat
theorem qwj (s:ByteArray) (i:Nat) (h:i<s.size):∃c:UInt8,strAt s (i:Int)=some c∧c.toNat=ch s i:=by
 refine⟨(s[i]?).getD 0,?_,rfl⟩
 have h0:decide ((0:Int)≤(i:Int))=true:=by simp
 have:s[i]?=some s[i]:=getElem?_pos s i h;unfold strAt;rw[h0,cond_true,Int.toNat_natCast,this];rfl
theorem ch_lt (s:ByteArray) (i:Nat):ch s i<256:=UInt8.toNat_lt _
def qfs (s:ByteArray) (i:Nat):Bool:=!(decide (65≤ch s i∧ch s i≤90)||decide (i≠0∧48≤ch s i∧ch s i≤57))
def qim (s:ByteArray):Bool:=!((List.range s.size).any (qfs s))&&decide (1≤s.size∧s.size≤8)
theorem qoY (s:ByteArray):(s.toList==(ByteArray.mk #[]).toList)=decide (s.size=0):=by
 rw[ByteArray.toList_eq,ByteArray.toList_eq];obtain⟨⟨l⟩⟩:=s;rw[Bool.eq_iff_iff,beq_iff_eq,decide_eq_true_eq];exact List.length_eq_zero_iff.symm
theorem qs7 (s:ByteArray) (hs:s.size≤9223372036854775807):qjj s=some (qim s):=by
 unfold qjj qim
 have hL:=qag (List.range s.size) (qfs s) (qfW s) (.inr false) (.inl ((),())) (fun i hi=>by
  have hi':i<s.size:=by simpa using hi
  obtain⟨c,h1,h2⟩:=qwj s i hi';have hlt:=ch_lt s i;unfold qfW
  have h3:(i:Int)<(s.size:Int):=by omega
  have hg:∀b,gopt b 0 (some c)=some (bif b then c else 0):=fun b=>by cases b<;>rfl
  simp only[h3,decide_true,cond_true,h1,Option.bind_some,hg,List.getElem_range,qf (n:=(i:Int)+1) (by omega) (by omega)]
  have hb:qfs s i = !(decide (65≤c.toNat∧c.toNat≤90)||decide (i≠0∧48≤c.toNat∧c.toNat≤57)):=by unfold qfs;rw[h2]
  rw[hb];generalize hn:c.toNat=n at *
  have e0:((i:Int)==0)=decide (i=0):=by rw[Bool.eq_iff_iff];simp
  rw[e0];by_cases c1:65≤n
  ·have a1:decide ((n:Int)≥65)=true:=by simp only[decide_eq_true_eq];omega
   simp only[a1,cond_true,Bool.true_and,hn];by_cases c2:n≤90
   ·have a2:decide ((n:Int)≤90)=true:=by simp only[decide_eq_true_eq];omega
    simp[a2,c1,c2]
   ·have a2:decide ((n:Int)≤90)=false:=by simp only[decide_eq_false_iff_not];omega
    have a3:decide ((n:Int)<48)=false:=by simp only[decide_eq_false_iff_not];omega
    have a4:decide ((n:Int)>57)=true:=by simp only[decide_eq_true_eq];omega
    have a5:¬n≤57:=by omega
    by_cases c3:i=0
    ·simp[a2,c1,c2,c3]
    ·simp[a2,a3,a4,a5,c1,c2,c3,hn]
  ·have a1:decide ((n:Int)≥65)=false:=by simp only[decide_eq_false_iff_not];omega
   by_cases c3:i=0
   ·simp[a1,c1,c3]
   ·by_cases c4:48≤n
    ·have a3:decide ((n:Int)<48)=false:=by simp only[decide_eq_false_iff_not];omega
     by_cases c5:n≤57
     ·have a4:decide ((n:Int)>57)=false:=by simp only[decide_eq_false_iff_not];omega
      simp[a1,a3,a4,c1,c3,c4,c5,hn]
     ·have a4:decide ((n:Int)>57)=true:=by simp only[decide_eq_true_eq];omega
      simp[a1,a3,a4,c1,c3,c4,c5,hn]
    ·have a3:decide ((n:Int)<48)=true:=by simp only[decide_eq_true_eq];omega
     simp[a1,a3,c1,c3,c4,hn]) (by unfold qfW;simp)
 rw[hL,qoY]
 cases (List.range s.size).any (qfs s) with
 | true=>rfl
 | false =>
  simp only[cond_false,Option.bind_some,Sum.elim_inl,Bool.not_false,Bool.true_and,Option.some.injEq];rw[Bool.eq_iff_iff];simp only[Bool.and_eq_true,Bool.not_eq_true',decide_eq_false_iff_not,decide_eq_true_eq];omega
def qru (w:Way):Bool:=((((!(qe w.1 (-7:Int) (7:Int)))||(!(qe w.2.1 (-7:Int) (7:Int))))||((w.1==(0:Int))&&(w.2.1==(0:Int))))||(!(qe w.2.2.1 (1:Int) (7:Int))))||(!(qe w.2.2.2.1 (0:Int) (2:Int)))
def pErr (l:List Piece) (i:Nat):Int:=match l[i]? with
 | none=>0
 | some p=>bif decide (p.1<65)||decide (p.1>90) then 6 else bif (l.take i).any (fun q=>q.1==p.1) then 7
  else bif (!(qe p.2.1 0 64))||(!(qe p.2.2.1 0 ((l.length:Nat):Int))) then 4 else bif decide (((p.2.2.2.1.length:Nat):Int)>16) then 2 else bif p.2.2.2.1.any qru then 4 else 0
theorem take_len {α:Type} (l:List α) {i:Nat} (h:i≤l.length):((l.take i).drop 0).length=i:=by simp;omega
theorem qvh (r:Rules):qhH r=some (if r.pieces.length=0 then 8 else if 6<r.pieces.length then 2 else qaH (pErr r.pieces) r.pieces.length):=by
 unfold qhH;by_cases c0:r.pieces.length=0
 ·have:(((r.pieces.length:Nat):Int)==0)=true:=beq_t (by omega);rw[this,if_pos c0];rfl
 ·have:(((r.pieces.length:Nat):Int)==0)=false:=beq_f (by omega);rw[this,if_neg c0,cond_false];by_cases c1:6<r.pieces.length
  ·have:decide (((r.pieces.length:Nat):Int)>6)=true:=by simp only[decide_eq_true_eq];omega
   rw[this,if_pos c1];rfl
  ·have:decide (((r.pieces.length:Nat):Int)>6)=false:=by simp only[decide_eq_false_iff_not];omega
   rw[this,if_neg c1,cond_false];rw[qui r.pieces.length (qdR r) (pErr r.pieces) ((),()) (some 0) (fun i hi=>?_) (by unfold qdR;simp)]
   ·split
    ·rename_i h;rw[h]
    ·rfl
   ·unfold qdR
    have h1:(i:Int)<(r.pieces.length:Int):=by omega
    have hg:r.pieces[i]?=some r.pieces[i]:=List.getElem?_eq_getElem hi
    have hb:qk 0 (i:Int) r.pieces.length=true:=by unfold qk;simp only[Bool.and_eq_true,decide_eq_true_eq];omega
    simp only[h1,decide_true,cond_true,at?_eq r.pieces (i:Int) (by omega) h1,Option.bind_some,Int.toNat_natCast,hb,qc,qf (n:=(i:Int)+1) (by omega) (by omega)];unfold pErr;rw[hg];generalize hp:r.pieces[i]=p;simp only
    cases hA:(decide (p.1<65)||decide (p.1>90)) with
    | true=>simp
    | false =>
     have hL2:=qag ((r.pieces.take i).drop 0) (fun q=>q.1==p.1) (qdO r (((i:Int),()),()) p) (.inr (.inr (.inr (.inr (7:Int))))) (.inl ((),())) (fun j hj=>by
      have hj':j<i:=by rw[take_len _ (by omega)] at hj;exact hj
      unfold qdO
      have h2:(j:Int)<((((r.pieces.take i).drop 0).length:Nat):Int):=by omega
      have h3:(j:Int)≥0:=by omega
      simp only[Int.toNat_natCast,h2,decide_true,cond_true,at?_eq ((r.pieces.take i).drop 0) (j:Int) (by omega) h2,Option.bind_some,h3,qf (n:=(j:Int)+1) (by omega) (by omega)]
      rfl) (by unfold qdO;simp)
     rw[hL2];simp only[List.drop_zero,cond_false,Option.bind_some]
     cases hB:(r.pieces.take i).any (fun q=>q.1==p.1) with
     | true=>simp
     | false =>
      simp only[cond_false,Sum.elim_inl]
      cases hC:((!(qe p.2.1 0 64))||(!(qe p.2.2.1 0 ((r.pieces.length:Nat):Int)))) with
      | true=>simp
      | false =>
       simp only[cond_false];by_cases cD:((p.2.2.2.1.length:Nat):Int)>16
       ·simp[cD]
       ·have hL4:=qag p.2.2.2.1 qru (qdQ p) (.inr (.inr (.inr (.inr (4:Int))))) (.inl ((),())) (fun j hj=>by
         unfold qdQ
         have h2:(j:Int)<((p.2.2.2.1.length:Nat):Int):=by omega
         simp only[h2,decide_true,cond_true,at?_eq p.2.2.2.1 (j:Int) (by omega) h2,Option.bind_some,Int.toNat_natCast,qf (n:=(j:Int)+1) (by omega) (by omega)]
         rfl) (by unfold qdQ;simp)
        simp only[cD,decide_false,cond_false,hL4,Option.bind_some]
        cases p.2.2.2.1.any qru<;>simp
def sErr (r:Rules) (i:Nat):Int:=bif qe (r.start.getD i 0) 0 (2*((r.pieces.length:Nat):Int)) then 0 else 4
def eErr (r:Rules) (i:Nat):Int:=match r.ends[i]? with
 | none=>0
 | some x=>bif !(qe x.1 0 2) then 1 else
  bif (!(bif x.1==1 then x.2.2.1==0 else qe x.2.2.1 1 64))||(!(bif x.1==0 then x.2.1==0 else qe x.2.1 0 (((r.pieces.length:Nat):Int)-1))) then 4 else 0
def quH (r:Rules):Int:=bif (((!(qe r.blocked (0:Int) (2:Int)))||(!(qe r.quiet (0:Int) (200:Int))))||((r.repeats !=(0:Int))&&(!(qe r.repeats (2:Int) (5:Int))))) then 4 else 0
def qnv (r:Rules):Int:=if 6<r.ends.length then 2 else qaH (eErr r) r.ends.length
def qz (r:Rules):Int :=
 if qim r.name=false then 6 else
 if ¬((1≤r.width∧r.width≤8)∧1≤r.height∧r.height≤8) then 4 else
 if r.pieces.length=0 then 8 else if 6<r.pieces.length then 2 else
 if qaH (pErr r.pieces) r.pieces.length≠0 then qaH (pErr r.pieces) r.pieces.length else
 if ((r.start.length:Nat):Int)≠r.width*r.height then 3 else
 if qaH (sErr r) r.start.length≠0 then qaH (sErr r) r.start.length else
 if qnv r≠0 then qnv r else quH r
theorem within_iff {n a b:Int}:qe n a b=true↔a≤n∧n≤b:=by unfold qe;simp
theorem qpp (r:Rules) (hl:r.pieces.length≤1000):qb5 r=some (qnv r):=by
 unfold qb5 qnv;by_cases c:6<r.ends.length
 ·have:decide (((r.ends.length:Nat):Int)>6)=true:=by simp only[decide_eq_true_eq];omega
  rw[this,if_pos c];rfl
 ·have:decide (((r.ends.length:Nat):Int)>6)=false:=by simp only[decide_eq_false_iff_not];omega
  rw[this,if_neg c,cond_false];rw[qui r.ends.length (qbD r) (eErr r) ((),()) (some 0) (fun i hi=>?_) (by unfold qbD;simp)]
  ·split
   ·rename_i h;rw[h]
   ·rfl
  ·unfold qbD eErr
   have h1:(i:Int)<(r.ends.length:Int):=by omega
   have hg:r.ends[i]?=some r.ends[i]:=List.getElem?_eq_getElem hi;rw[hg];simp only[h1,decide_true,cond_true,at?_eq r.ends (i:Int) (by omega) h1,Option.bind_some,Int.toNat_natCast,qf (n:=(i:Int)+1) (by omega) (by omega),qf (n:=((r.pieces.length:Nat):Int)-1) (by omega) (by omega)];generalize r.ends[i]=x;by_cases k0:x.1=0
   ·have:qe x.1 0 2=true:=within_iff.2 (by omega);have k1:(x.1==1)=false:=beq_f (by omega);simp only[this,beq_t k0,k1,cond_true,cond_false,Option.bind_some,Sum.elim_inl,Bool.not_true]
    cases qe x.2.2.1 1 64<;>cases (x.2.1==0)<;>simp
   ·by_cases k1:x.1=1
    ·have:qe x.1 0 2=true:=within_iff.2 (by omega);simp only[this,beq_f k0,beq_t k1,cond_true,cond_false,Option.bind_some,Sum.elim_inl,Bool.not_true]
     cases (x.2.2.1==0)<;>cases qe x.2.1 0 (((r.pieces.length:Nat):Int)-1)<;>simp
    ·by_cases k2:x.1=2
     ·have:qe x.1 0 2=true:=within_iff.2 (by omega);simp only[this,beq_f k0,beq_f k1,beq_t k2,cond_true,cond_false,Option.bind_some,Sum.elim_inl,Bool.not_true]
      cases qe x.2.2.1 1 64<;>cases qe x.2.1 0 (((r.pieces.length:Nat):Int)-1)<;>simp
     ·have:qe x.1 0 2=false:=by
       rw[Bool.eq_false_iff];intro h;have:=within_iff.1 h;omega
      simp only[this,beq_f k0,beq_f k1,beq_f k2,cond_true,cond_false,Option.bind_some,Sum.elim_inr,Bool.not_false];rfl
theorem qjR (r:Rules) (hr:Rng qae r):qdG r=some (qz r):=by
 have hname:r.name.size≤9223372036854775807:=Nat.le_trans hr.1 (by decide);have hstart:r.start.length≤9223372036854775807:=Nat.le_trans hr.2.2.2.2.1.1 (by decide);have hP:r.2.2.2.1.length=r.pieces.length:=rfl;have hW:r.2.1*r.2.2.1=r.width*r.height:=rfl;have hE:r.2.2.2.2.2.2.2.1.length=r.ends.length:=rfl;unfold qdG qz;rw[qs7 r.name hname,qvh r];simp only[Option.bind_some]
 cases qim r.name with
 | false=>rfl
 | true =>
  simp only[Bool.not_true,cond_false,Bool.true_eq_false,if_false];by_cases cw:(1≤r.width∧r.width≤8)∧1≤r.height∧r.height≤8
  ·have e1:((!(qe r.2.1 1 8))||(!(qe r.2.2.1 1 8)))=false:=by
    rw[within_iff.2 cw.1,within_iff.2 cw.2];rfl
   have e2:¬ ¬((1≤r.width∧r.width≤8)∧1≤r.height∧r.height≤8):=fun h=>h cw;simp only[e1,if_neg e2,cond_false];by_cases c0:r.pieces.length=0
   ·simp only[if_pos c0];rfl
   ·by_cases c6:6<r.pieces.length
    ·simp only[if_neg c0,if_pos c6];rfl
    ·simp only[if_neg c0,if_neg c6];by_cases cp:qaH (pErr r.pieces) r.pieces.length=0
     ·have hwh:w64 (r.2.1*r.2.2.1)=r.width*r.height:=by
       have h1:r.width*r.height≤8*8:=Int.mul_le_mul cw.1.2 cw.2.2 (by omega) (by omega);have h2:0≤r.width*r.height:=Int.mul_nonneg (by omega) (by omega);exact qf (by omega) (by omega)
      rw[cp,if_neg (fun h=>h rfl),hwh];simp only[bne_self_eq_false,cond_false];by_cases cs:((r.start.length:Nat):Int)=r.width*r.height
      ·rw[bne_f cs,if_neg (fun h=>h cs),cond_false];rw[qui r.start.length (qe4 r) (sErr r) ((),()) _ (fun i hi=>?_) (by unfold qe4;simp)]
       ·rw[qpp r (by omega)];by_cases cse:qaH (sErr r) r.start.length=0
        ·rw[if_pos cse,if_neg (fun h=>h cse)];simp only[Option.bind_some];by_cases ce:qnv r=0
         ·rw[ce,if_neg (fun h=>h rfl)];simp only[bne_self_eq_false,cond_false];unfold quH;exact qba _ _ _
         ·rw[if_pos ce,bne_t ce];rfl
        ·rw[if_neg cse,if_pos cse]
       ·unfold qe4 sErr
        have h1:(i:Int)<(r.start.length:Int):=by omega
        have h3:(i:Int)≥0:=by omega
        have hgd:r.start.getD i 0=r.start[i]:=by simp[List.getD_eq_getElem?_getD,List.getElem?_eq_getElem hi]
        simp only[h1,decide_true,cond_true,at?_eq r.start (i:Int) (by omega) h1,Option.bind_some,Int.toNat_natCast,h3,qf (n:=(i:Int)+1) (by omega) (by omega),qf (n:=2*((r.pieces.length:Nat):Int)) (by omega) (by omega),hgd]
        cases qe r.start[i] 0 (2*((r.pieces.length:Nat):Int))<;>simp
      ·rw[bne_t cs,if_pos cs];rfl
     ·rw[bne_t cp,if_pos cp];rfl
  ·have e1:((!(qe r.2.1 1 8))||(!(qe r.2.2.1 1 8)))=true:=by
    rw[Bool.or_eq_true,Bool.not_eq_true',Bool.not_eq_true'];by_cases k:qe r.2.1 1 8=true
    ·right;rw[Bool.eq_false_iff];intro k2;exact cw ⟨within_iff.1 k,within_iff.1 k2⟩
    ·left;exact Bool.eq_false_iff.2 k
   rw[e1,if_pos cw];rfl

abbrev Place:=(List Int)×((List Int)×(List Int)×Unit)×Int×Int×Unit
abbrev Place.cells (p:Place):List Int:=p.1
abbrev Place.h0 (p:Place):List Int:=p.2.1.1
abbrev Place.h1 (p:Place):List Int:=p.2.1.2.1
abbrev Place.turn (p:Place):Int:=p.2.2.1
abbrev Place.quiet (p:Place):Int:=p.2.2.2.1
theorem agree_self {α:Type} (x:Option α):agree x x=x:=by simp[agree]
theorem qjW {α:Type}:∀(t:AgT) (x:Option α),agT t x=x
 | .l,x=>rfl
 | .n a b,x=>by rw[agT,qjW a,qjW b,agree_self]
theorem qgd (s:List Int) (h:s.length≤1000000):qN s=some s:=by
 unfold qN;have:room (([]:List Int).length+s.length) 8=true:=qO (by simp;omega);rw[this]
 cases s with
 | nil=>simp[qc,agree_self]
 | cons a l=>simp[qc]
theorem concat2 (a b:List Int) (ha:a.length≤1000) (hb:b.length≤1000):qcE [a,b]=some (a++b):=by
 have w1:w64 (0+((a.length:Nat):Int))=(a.length:Int):=by rw[Int.zero_add];exact qf (by omega) (by omega)
 have w2:w64 ((a.length:Int)+((b.length:Nat):Int))=((a.length+b.length:Nat):Int):=by rw[qf (by omega) (by omega)];omega
 have w3:w64 ((0:Int)+1)=1:=by decide
 have w4:w64 ((1:Int)+1)=2:=by decide
 have g0:at? [a,b] 0=some a:=rfl;have g1:at? [a,b] 1=some b:=rfl;have l1:iterW (qac [a,b]) (((0:Int),(0:Int),()),())=some (((((a.length+b.length:Nat):Int)),()),()):=by
  have s0:qac [a,b] (((0:Int),(0:Int),()),())=some (.inl ((((a.length:Nat):Int),(1:Int),()),())):=by
   unfold qac;simp only[g0,w1,w3,Option.bind_some];rw[show decide (((a.length:Nat):Int)<0)=false by simp];rfl
  have s1:qac [a,b] ((((a.length:Nat):Int),(1:Int),()),())=some (.inl ((((a.length+b.length:Nat):Int),(2:Int),()),())):=by
   unfold qac;simp only[g1,w2,w4,Option.bind_some];rw[show decide (((a.length+b.length:Nat):Int)<0)=false by simp;omega];rfl
  have s2:qac [a,b] ((((a.length+b.length:Nat):Int),(2:Int),()),())=some (.inr ((((a.length+b.length:Nat):Int),()),())):=rfl;rw[qx s0,qx s1,qi s2]
 have l2:iterW (qad [a,b]) ((([]:List Int),(0:Int),()),())=some ((a++b,()),()):=by
  have s0:qad [a,b] ((([]:List Int),(0:Int),()),())=some (.inl ((a,(1:Int),()),())):=by
   unfold qad;simp only[g0,w3,Option.bind_some];rw[qO (by simp;omega)];rfl
  have s1:qad [a,b] ((a,(1:Int),()),())=some (.inl ((a++b,(2:Int),()),())):=by
   unfold qad;simp only[g1,w4,Option.bind_some];rw[qO (by omega)];rfl
  have s2:qad [a,b] ((a++b,(2:Int),()),())=some (.inr ((a++b,()),())):=rfl;rw[qx s0,qx s1,qi s2]
 unfold qcE;simp only[l1,Option.bind_some];rw[show decide (((a.length+b.length:Nat):Int)<0)=false by simp;omega]
 have w5:w64 (((a.length+b.length:Nat):Int)-0)=((a.length+b.length:Nat):Int):=by rw[Int.sub_zero];exact qf (by omega) (by omega)
 simp only[w5,cond_false];by_cases c:a.length+b.length=0
 ·rw[c];simp only[Int.natCast_zero,show decide ((0:Int)>0)=false by decide,cond_false,Option.bind_some];rw[l2];rfl
 ·have c1:decide (((a.length+b.length:Nat):Int)>0)=true:=by simp;omega
  have c2:decide (0<((a.length+b.length:Nat):Int))=true:=by simp;omega
  have c3:room ((((a.length+b.length:Nat):Int)).toNat) 8=true:=qO (by omega)
  have c4:∀l:List Int,qk 0 0 l.length=true:=fun l=>by simp[qk]
  simp only[c1,c2,c3,c4,cond_true,Bool.and_self,qc,Option.bind_some,List.take_zero];rw[l2];rfl

def outC (r:Rules) (d:Int):Bool:=decide (d<0)||decide (d>2*((r.pieces.length:Nat):Int))
def outH (d:Int):Bool:=decide (d<0)||decide (d>1000)
def outT (p:Place):Bool:=(((p.turn !=0)&&(p.turn !=1))||decide (p.quiet<0))||decide (p.quiet>200)
def qhT (r:Rules) (p:Place):Bool:=p.cells.any (outC r)||((p.h0++p.h1).any outH||outT p)
def qlf (r:Rules) (p:Place):Bool:=((((p.cells.length:Nat):Int)!=r.width*r.height)||(((p.h0.length:Nat):Int)!=((r.pieces.length:Nat):Int)))||(((p.h1.length:Nat):Int)!=((r.pieces.length:Nat):Int))
def qcG (r:Rules) (p:Place):Int:=if qz r≠0 then qz r else bif qlf r p then 3 else bif qhT r p then 4 else 0

structure VR0 (r:Rules):Prop where
 w1:1≤r.width
 w8:r.width≤8
 h1:1≤r.height
 h8:r.height≤8
 t1:1≤r.pieces.length
 t6:r.pieces.length≤6
 hand:∀q∈r.pieces,0≤q.2.1∧q.2.1≤64
 prom:∀q∈r.pieces,0≤q.2.2.1∧q.2.2.1≤((r.pieces.length:Nat):Int)
 ways:∀q∈r.pieces,q.2.2.2.1.length≤16
 way:∀q∈r.pieces,∀w∈q.2.2.2.1,(-7≤w.1∧w.1≤7)∧(-7≤w.2.1∧w.2.1≤7)∧¬(w.1=0∧w.2.1=0)∧(1≤w.2.2.1∧w.2.2.1≤7)∧(0≤w.2.2.2.1∧w.2.2.2.1≤2)
 start:((r.start.length:Nat):Int)=r.width*r.height
 startC:∀c∈r.start,0≤c∧c≤2*((r.pieces.length:Nat):Int)
 ends6:r.ends.length≤6
 ends:∀x∈r.ends,(0≤x.1∧x.1≤2)∧(if x.1=1 then x.2.2.1=0 else 1≤x.2.2.1∧x.2.2.1≤64)∧(if x.1=0 then x.2.1=0 else 0≤x.2.1∧x.2.1≤((r.pieces.length:Nat):Int)-1)
 blocked:0≤r.blocked∧r.blocked≤2
 quiet:0≤r.quiet∧r.quiet≤200
 repeats:r.repeats=0∨(2≤r.repeats∧r.repeats≤5)
structure Valid (r:Rules) (p:Place):Prop where
 r0:VR0 r
 cells:((p.cells.length:Nat):Int)=r.width*r.height
 l0:p.h0.length=r.pieces.length
 l1:p.h1.length=r.pieces.length
 cell:∀c∈p.cells,0≤c∧c≤2*((r.pieces.length:Nat):Int)
 hand0:∀c∈p.h0,0≤c∧c≤1000
 hand1:∀c∈p.h1,0≤c∧c≤1000
 turn:p.turn=0∨p.turn=1
 quiet:0≤p.quiet∧p.quiet≤200

theorem qvd {α:Type} {l:List α} {x:α} (h:x∈l):∃i,i<l.length∧l[i]?=some x:=by
 obtain⟨i,hi,e⟩:=List.mem_iff_getElem.1 h;exact⟨i,hi,by rw[List.getElem?_eq_getElem hi,e]⟩
theorem qbg {r:Rules} (h:qz r=0):VR0 r:=by
 unfold qz at h;split at h
 ·cases h
 split at h
 ·cases h
 rename_i _ h2;have h2:=Decidable.not_not.1 h2;split at h
 ·cases h
 rename_i h3;split at h
 ·cases h
 rename_i h4;split at h
 ·rename_i h5;exact absurd h h5
 rename_i h5;have h5:=qd4 (Decidable.not_not.1 h5);split at h
 ·cases h
 rename_i h6;have h6:=Decidable.not_not.1 h6;split at h
 ·rename_i h7;exact absurd h h7
 rename_i h7;have h7:=qd4 (Decidable.not_not.1 h7);split at h
 ·rename_i h8;exact absurd h h8
 rename_i h8;have h8:=Decidable.not_not.1 h8;unfold qnv at h8;split at h8
 ·cases h8
 rename_i h9;have h8:=qd4 h8;have hp:∀q∈r.pieces,(0≤q.2.1∧q.2.1≤64)∧(0≤q.2.2.1∧q.2.2.1≤((r.pieces.length:Nat):Int))∧q.2.2.2.1.length≤16∧q.2.2.2.1.any qru=false:=fun q hq=>by
  obtain⟨i,hi,e⟩:=qvd hq;have:=h5 i hi;unfold pErr at this;rw[e] at this;simp only at this;cases c1:(decide (q.1<65)||decide (q.1>90))
  ·cases c2:(r.pieces.take i).any (fun q'=>q'.1==q.1)
   ·cases c3:((!(qe q.2.1 0 64))||(!(qe q.2.2.1 0 ((r.pieces.length:Nat):Int))))
    ·cases c4:decide (((q.2.2.2.1.length:Nat):Int)>16)
     ·cases c5:q.2.2.2.1.any qru
      ·simp only[Bool.or_eq_false_iff,Bool.not_eq_false'] at c3;simp only[decide_eq_false_iff_not] at c4;exact⟨within_iff.1 c3.1,within_iff.1 c3.2,by omega,rfl⟩
      ·simp[c1,c2,c3,c4,c5] at this
     ·simp[c1,c2,c3,c4] at this
    ·simp[c1,c2,c3] at this
   ·simp[c1,c2] at this
  ·simp[c1] at this
 refine⟨h2.1.1,h2.1.2,h2.2.1,h2.2.2,by omega,by omega,fun q hq=>(hp q hq).1,fun q hq=>(hp q hq).2.1,fun q hq=>(hp q hq).2.2.1,fun q hq w hw=>?_,h6,fun c hc=>?_,by omega,fun x hx=>?_,?_,?_,?_⟩
 ·have:=(hp q hq).2.2.2;rw[List.any_eq_false] at this;have:=this w hw;unfold qru at this;simp only[Bool.not_eq_true,Bool.or_eq_false_iff,Bool.not_eq_false',within_iff,Bool.and_eq_false_iff,beq_eq_false_iff_ne] at this;refine⟨this.1.1.1.1,this.1.1.1.2,fun h=>?_,this.1.2,this.2⟩;rcases this.1.1.2 with h' | h'
  ·exact h' h.1
  ·exact h' h.2
 ·obtain⟨i,hi,e⟩:=qvd hc;have:=h7 i hi;unfold sErr at this;rw[List.getD_eq_getElem?_getD,e] at this;cases c1:qe c 0 (2*((r.pieces.length:Nat):Int))
  ·simp[c1] at this
  ·exact within_iff.1 c1
 ·obtain⟨i,hi,e⟩:=qvd hx;have:=h8 i hi;unfold eErr at this;rw[e] at this;simp only at this;cases c1:qe x.1 0 2
  ·simp[c1] at this
  ·cases c2:(!(bif x.1==1 then x.2.2.1==0 else qe x.2.2.1 1 64))||(!(bif x.1==0 then x.2.1==0 else qe x.2.1 0 (((r.pieces.length:Nat):Int)-1)))
   ·simp only[Bool.or_eq_false_iff,Bool.not_eq_false'] at c2;refine⟨within_iff.1 c1,?_,?_⟩
    ·have:=c2.1;by_cases e1:x.1=1
     ·rw[if_pos e1];simpa[e1] using this
     ·rw[if_neg e1];rw[beq_f e1,cond_false] at this;exact within_iff.1 this
    ·have:=c2.2;by_cases e1:x.1=0
     ·rw[if_pos e1];simpa[e1] using this
     ·rw[if_neg e1];rw[beq_f e1,cond_false] at this;exact within_iff.1 this
   ·simp[c1,c2] at this
 all_goals
  unfold quH at h;cases c1:(((!(qe r.blocked (0:Int) (2:Int)))||(!(qe r.quiet (0:Int) (200:Int))))||((r.repeats !=(0:Int))&&(!(qe r.repeats (2:Int) (5:Int)))))
  ·simp only[Bool.or_eq_false_iff,Bool.not_eq_false',within_iff,Bool.and_eq_false_iff,bne_eq_false_iff_eq] at c1
   first
   | exact c1.1.1
   | exact c1.1.2
   | exact c1.2
  ·simp[c1] at h
theorem VR0.area {r:Rules} (h:VR0 r):1≤r.width*r.height∧r.width*r.height≤64:=by
 have h1:r.width*r.height≤8*8:=Int.mul_le_mul h.w8 h.h8 (by have:=h.h1;omega) (by omega);have h2:1*1≤r.width*r.height:=Int.mul_le_mul h.w1 h.h1 (by omega) (by have:=h.w1;omega);omega
theorem qxw (r:Rules) (p:Place) (hr:VR0 r) (hn:p.1.length≤9223372036854775807):qjU r p=some (bif qlf r p then 3 else bif qhT r p then 4 else 0):=by
 have ha:=hr.area;have ht:=hr.t6;unfold qjU qlf;rw[show r.2.1*r.2.2.1=r.width*r.height from rfl,qf (n:=r.width*r.height) (by omega) (by omega)]
 cases hb:((((((p.1.length:Nat):Int)!=r.width*r.height)||(((p.2.1.1.length:Nat):Int)!=((r.2.2.2.1.length:Nat):Int)))||(((p.2.1.2.1.length:Nat):Int)!=((r.2.2.2.1.length:Nat):Int)))) with
 | true=>rfl
 | false =>
  simp only[Bool.or_eq_false_iff,bne_eq_false_iff_eq] at hb;obtain⟨⟨b1,b2⟩,b3⟩:=hb;have ht':r.2.2.2.1.length≤6:=ht;rw[cond_false,cond_false,concat2 _ _ (by omega) (by omega),Option.bind_some];unfold qhT
  have hl2:(p.2.1.1++p.2.1.2.1).length≤2000:=by simp;omega
  show _=some (bif (p.1.any (outC r)||((p.2.1.1++p.2.1.2.1).any outH||outT p)) then(4:Int) else 0);generalize p.2.1.1++p.2.1.2.1=l at hl2;have i1:iterW (qdk p r l) (((0:Int),()),())=some (bif p.1.any (outC r) then .inr ((true,()),()) else .inl ((),())):=by
   refine qag p.1 (outC r) (qdk p r l) (.inr ((true,()),())) (.inl ((),())) (fun i hi=>?_) ?_
   ·unfold qdk;simp only[show decide ((i:Int)<((p.1.length:Nat):Int))=true by simp;omega,cond_true];rw[at?_eq _ _ (by omega) (by omega)];simp only[Option.bind_some,Int.toNat_natCast,List.getElem?_eq_getElem hi];rw[qf (n:=(i:Int)+1) (by omega) (by omega),show decide ((i:Int)≥0)=true by simp];rw[qf (n:=(2:Int)*((r.2.2.2.1.length:Nat):Int)) (by omega) (by omega)];unfold outC;generalize (decide (p.1[i]<(0:Int))||decide (p.1[i]>((2:Int)*((r.2.2.2.1.length:Nat):Int))))=q
    cases q<;>rfl
   ·unfold qdk;simp
  have i2:iterW (qdi l p) (((0:Int),()),())=some (bif l.any outH then .inr ((true,()),()) else .inl ((),())):=by
   refine qag l outH (qdi l p) (.inr ((true,()),())) (.inl ((),())) (fun i hi=>?_) ?_
   ·unfold qdi;simp only[show decide ((i:Int)<((l.length:Nat):Int))=true by simp;omega,cond_true,Int.toNat_natCast,show inb (i:Int) l.length=true from inb_iff.2 ⟨by omega,by omega⟩,qc,show decide ((i:Int)≥0)=true by simp];rw[qf (n:=(i:Int)+1) (by omega) (by omega)]
    have e:getD' l i (0:Int)=l[i]:=by simp[getD',hi]
    have e':outH l[i]=(decide (getD' l i (0:Int)<(0:Int))||decide (getD' l i (0:Int)>(1000:Int))):=by rw[e];rfl
    rw[e'];generalize (decide (getD' l i (0:Int)<(0:Int))||decide (getD' l i (0:Int)>(1000:Int)))=q
    cases q<;>simp
   ·unfold qdi;simp
  have e4:iterW (qmD p r l) (((0:Int),()),())=_:=i1;have e6:iterW (qmh l p) (((0:Int),()),())=_:=i2;simp only[i1,i2,e4,e6,agree_self,Option.bind_some];unfold outT;cases p.1.any (outC r)
  ·cases l.any outH
   ·simp only[cond_false,Sum.elim_inl,Option.bind_some,Bool.false_or];exact(qba _ _ _)
   ·rfl
  ·rfl
theorem qqY (r:Rules) (p:Place) (hr:Rng qae r) (hn:p.1.length≤9223372036854775807):qhe r p=some (qcG r p):=by
 unfold qhe qcG;rw[qjR r hr,Option.bind_some];by_cases c:qz r=0
 ·rw[bne_f c,cond_false,if_neg (by simpa using c),qxw r p (qbg c) hn];rfl
 ·rw[bne_t c,cond_true,if_pos c]
theorem qv0 {r:Rules} {p:Place} (h:qcG r p=0):Valid r p:=by
 unfold qcG at h;split at h
 ·rename_i c;exact absurd h c
 rename_i c;have hv:=qbg (Decidable.not_not.1 c);cases c1:qlf r p
 ·rw[c1,cond_false] at h;cases c2:qhT r p
  ·unfold qlf at c1;unfold qhT outT at c2;simp only[Bool.or_eq_false_iff,bne_eq_false_iff_eq,List.any_eq_false,Bool.and_eq_false_iff,decide_eq_false_iff_not,List.mem_append,outC,outH,decide_eq_true_eq,Bool.not_eq_true] at c1 c2;obtain⟨⟨a1,a2⟩,a3⟩:=c1;obtain⟨b1,b2,⟨b3,b4⟩,b5⟩:=c2;exact⟨hv,a1,by omega,by omega,fun c hc=>by have:=b1 c hc;omega,fun c hc=>by have:=b2 c (.inl hc);omega,fun c hc=>by have:=b2 c (.inr hc);omega,b3,by omega⟩
  ·rw[c2] at h;cases h
 ·rw[c1] at h;cases h

abbrev RWay:=Int×Int×Int×Int×Unit
def cellI (p:Place) (s:Int):Int:=p.cells.getD s.toNat 0
def onB (r:Rules) (x y:Int):Bool:=decide (0≤x∧x<r.width∧0≤y∧y<r.height)
def sq (r:Rules) (x y:Int):Int:=y*r.width+x
def enemy (p:Place) (c:Int):Bool:=decide (c>0)&&((c-1).tmod 2 !=p.turn)
def mineB (p:Place) (c:Int):Bool:=decide (c>0)&&((c-1).tmod 2==p.turn)
def takes (p:Place) (w:RWay) (c:Int):Bool:=((c==0)&&(w.2.2.2.1 !=2))||(enemy p c&&(w.2.2.2.1 !=0))
def dyOf (p:Place) (w:RWay):Int:=if p.turn=1 then-w.2.1 else w.2.1
def wayL (r:Rules) (p:Place) (w:RWay):Nat→Int→Int→List Int
 | 0,_,_=>[]
 | n+1,x,y=>bif onB r (x+w.1) (y+dyOf p w) then(bif takes p w (cellI p (sq r (x+w.1) (y+dyOf p w))) then [sq r (x+w.1) (y+dyOf p w)] else [])++(bif cellI p (sq r (x+w.1) (y+dyOf p w))==0 then wayL r p w n (x+w.1) (y+dyOf p w) else []) else []
def wayS (r:Rules) (p:Place) (s:Int) (w:RWay):List Int:=wayL r p w w.2.2.1.toNat (s.tmod r.width) (s.tdiv r.width)

def WayOk (w:RWay):Prop:=(-7≤w.1∧w.1≤7)∧(-7≤w.2.1∧w.2.1≤7)∧¬(w.1=0∧w.2.1=0)∧(1≤w.2.2.1∧w.2.2.1≤7)∧(0≤w.2.2.2.1∧w.2.2.2.1≤2)
theorem Valid.wayOk {r:Rules} {p:Place} (h:Valid r p) {q:Piece} (hq:q∈r.pieces) {w:RWay} (hw:w∈q.2.2.2.1):WayOk w:=h.r0.way q hq w hw
theorem dyOf_rng {p:Place} {w:RWay} (h:WayOk w) : -7≤dyOf p w∧dyOf p w≤7:=by
 unfold dyOf;obtain⟨_,h1,_⟩:=h;split<;>omega
theorem onB_iff {r:Rules} {x y:Int}:onB r x y=true↔0≤x∧x<r.width∧0≤y∧y<r.height:=by simp[onB]
theorem qsF {y W H:Int} (hW:0≤W) (h0:0≤y) (h1:y<H):0≤y*W∧y*W≤W*H-W:=by
 refine⟨Int.mul_nonneg h0 hW,?_⟩;have:=Int.mul_le_mul_of_nonneg_right (show y≤H-1 by omega) hW;rw[Int.sub_mul,Int.one_mul,Int.mul_comm H W] at this;exact this
theorem qwB {r:Rules} (hr:VR0 r) {x y:Int} (h:onB r x y=true):0≤sq r x y∧sq r x y<r.width*r.height:=by
 obtain⟨h1,h2,h3,h4⟩:=onB_iff.1 h;have:=qsF (show 0≤r.width by have:=hr.w1;omega) h3 h4;unfold sq;omega
theorem qfi {p:Place} {s:Int} (h0:0≤s) (h1:s<((p.cells.length:Nat):Int)):at? p.1 s=some (cellI p s):=by
 rw[at?_eq p.1 s h0 h1];unfold cellI;have h1':s<((p.1.length:Nat):Int):=h1;rw[List.getD_eq_getElem?_getD,List.getElem?_eq_getElem (by show s.toNat<p.1.length;omega)];rfl
theorem qv9 {r:Rules} {p:Place} (h:Valid r p) (s:Int):0≤cellI p s∧cellI p s≤2*((r.pieces.length:Nat):Int):=by
 unfold cellI;rw[List.getD_eq_getElem?_getD]
 cases e:p.cells[s.toNat]? with
 | none=>simp;omega
 | some c=>exact h.cell c (List.mem_of_getElem? e)
theorem qnu {r:Rules} {p:Place} (h:Valid r p) (s:Int):0≤cellI p s∧cellI p s≤12:=by
 have:=qv9 h s;have:=h.r0.t6;omega
theorem qvQ (r:Rules) (p:Place) (w:RWay):∀(n:Nat) (x y:Int),(wayL r p w n x y).length≤n
 | 0,x,y=>by simp[wayL]
 | n+1,x,y=>by
  unfold wayL;have:=qvQ r p w n (x+w.1) (y+dyOf p w);cases onB r (x+w.1) (y+dyOf p w)
  ·simp
  ·cases takes p w (cellI p (sq r (x+w.1) (y+dyOf p w)))<;>cases (cellI p (sq r (x+w.1) (y+dyOf p w))==0)<;>simp<;>omega
theorem qwJ {r:Rules} {p:Place} {w:RWay} {t:Int}:∀ {n:Nat} {x y:Int},t∈wayL r p w n x y→∃j:Int,1≤j∧onB r (x+j*w.1) (y+j*dyOf p w)=true∧t=sq r (x+j*w.1) (y+j*dyOf p w)
 | 0,x,y,h=>by simp[wayL] at h
 | n+1,x,y,h=>by
  unfold wayL at h
  cases hb:onB r (x+w.1) (y+dyOf p w) with
  | false=>simp[hb] at h
  | true =>
   rw[hb,cond_true] at h;rcases List.mem_append.1 h with h | h
   ·refine⟨1,by omega,by simpa using hb,?_⟩
    cases ht:takes p w (cellI p (sq r (x+w.1) (y+dyOf p w)))<;>simp[ht] at h
    simpa using h
   ·cases hc:(cellI p (sq r (x+w.1) (y+dyOf p w))==0)<;>simp[hc] at h
    obtain⟨j,h1,h2,h3⟩:=qwJ h
    have e1:x+w.1+j*w.1=x+(j+1)*w.1:=by rw[Int.add_mul];omega
    have e2:y+dyOf p w+j*dyOf p w=y+(j+1)*dyOf p w:=by rw[Int.add_mul];omega
    rw[e1,e2] at h2 h3;exact⟨j+1,by omega,h2,h3⟩
theorem qo8 {r:Rules} {p:Place} (h:VR0 r) {w:RWay} {n:Nat} {x y t:Int} (ht:t∈wayL r p w n x y):0≤t∧t<r.width*r.height:=by
 obtain⟨j,h1,h2,h3⟩:=qwJ ht;rw[h3];exact qwB h h2
theorem qrS {r:Rules} (hr:VR0 r) {s:Int} (h0:0≤s) (h1:s<r.width*r.height):(0≤s.tmod r.width∧s.tmod r.width<r.width)∧0≤s.tdiv r.width∧s.tdiv r.width<r.height:=by
 have hw:=hr.w1;rw[Int.tmod_eq_emod_of_nonneg h0,Int.tdiv_eq_ediv_of_nonneg h0];refine⟨⟨Int.emod_nonneg _ (by omega),Int.emod_lt_of_pos _ (by omega)⟩,Int.ediv_nonneg h0 (by omega),Int.ediv_lt_of_lt_mul (by omega) (by rw[Int.mul_comm];exact h1)⟩
theorem qxA {r:Rules} {p:Place} (h:Valid r p) {w:RWay} (hw:WayOk w) (s:Int) :
  ((((w.2.2.2.1==(0:Int))&&(cellI p s==(0:Int)))||((w.2.2.2.1==(1:Int))&&((cellI p s==(0:Int))||((decide (cellI p s>(0:Int)))&&(((w64 (cellI p s-(1:Int))).tmod (2:Int))!=p.2.2.1)))))||((w.2.2.2.1==(2:Int))&&((decide (cellI p s>(0:Int)))&&(((w64 (cellI p s-(1:Int))).tmod (2:Int))!=p.2.2.1))))=takes p w (cellI p s):=by
 have hc:=qnu h s;rw[qf (n:=cellI p s-1) (by omega) (by omega)];obtain⟨_,_,_,_,h5⟩:=hw
 have h6:w.2.2.2.1=0∨w.2.2.2.1=1∨w.2.2.2.1=2:=by omega
 unfold takes enemy;rw[show p.turn=p.2.2.1 from rfl];generalize hA:(cellI p s==0)=A;have hA':A=true→decide (cellI p s>0)=false:=fun h=>by
  subst hA;rw[beq_iff_eq] at h;simp[h]
 generalize decide (cellI p s>0)=B at hA';generalize ((cellI p s-1).tmod 2 !=p.2.2.1)=C
 rcases h6 with h6 | h6 | h6<;>rw[h6]<;>cases A<;>cases B<;>cases C<;>simp_all
theorem qwh {r:Rules} {p:Place} (h:Valid r p) {w:RWay} (hw:WayOk w):∀(n:Nat) (out:List Int) (x y k:Int),0≤k→k+n=w.2.2.1→out.length≤k.toNat→(0≤x∧x<r.width)→(0≤y∧y<r.height) →
  iterW (qdz w r ((dyOf p w,()),()) p) ((out,x,y,k,()),())=some ((out++wayL r p w n x y,()),())
 | 0,out,x,y,k,h0,hk,ho,hx,hy=>by
  refine qi ?_;unfold qdz
  have:decide (k<w.2.2.1)=false:=by simp;omega
  simp only[this,cond_false,wayL,List.append_nil]
 | n+1,out,x,y,k,h0,hk,ho,hx,hy=>by
  have hr:=h.r0;have hd:=dyOf_rng (p:=p) hw;obtain⟨hdx,_,_,hm,_⟩:=hw;have:=hr.w8;have:=hr.h8;have:=hr.w1;have:=hr.h1;have ha:=hr.area
  have hlt:decide (k<w.2.2.1)=true:=by simp;omega
  have wx:w64 (x+w.1)=x+w.1:=qf (by omega) (by omega);have wy:w64 (y+dyOf p w)=y+dyOf p w:=qf (by omega) (by omega);have wk:w64 (k+1)=k+1:=qf (by omega) (by omega);have hoff:((((decide (x+w.1<(0:Int)))||(decide (x+w.1≥r.2.1)))||(decide (y+dyOf p w<(0:Int))))||(decide (y+dyOf p w≥r.2.2.1))) = !onB r (x+w.1) (y+dyOf p w):=by
   rw[Bool.eq_iff_iff];simp only[Bool.or_eq_true,decide_eq_true_eq,Bool.not_eq_true',onB,decide_eq_false_iff_not];show((x+w.1<0∨x+w.1≥r.width)∨y+dyOf p w<0)∨y+dyOf p w≥r.height↔_;omega
  unfold wayL
  cases hb:onB r (x+w.1) (y+dyOf p w) with
  | false =>
   refine qi ?_;unfold qdz;simp only[hlt,cond_true,wx,wy,hoff,hb,Bool.not_false,cond_false,List.append_nil]
  | true =>
   have hs:=qwB hr hb;obtain⟨b1,b2,b3,b4⟩:=onB_iff.1 hb;have hmul:=qsF (show 0≤r.width by omega) b3 b4;have w1:w64 ((y+dyOf p w)*r.2.1)=(y+dyOf p w)*r.2.1:=qf (by show _≤(y+dyOf p w)*r.width;omega) (by show(y+dyOf p w)*r.width≤_;omega);have w2:w64 ((y+dyOf p w)*r.2.1+(x+w.1))=sq r (x+w.1) (y+dyOf p w):=qf (by show _≤sq r (x+w.1) (y+dyOf p w);omega) (by show sq r (x+w.1) (y+dyOf p w)≤_;omega);have hat:=qfi (p:=p) hs.1 (by rw[h.cells];exact hs.2);have hlen:=h.cells
   have hstep:qdz w r ((dyOf p w,()),()) p ((out,x,y,k,()),())=(bif cellI p (sq r (x+w.1) (y+dyOf p w))!=0 then some (.inr ((out++(bif takes p w (cellI p (sq r (x+w.1) (y+dyOf p w))) then [sq r (x+w.1) (y+dyOf p w)] else []),()),())) else some (.inl ((out++(bif takes p w (cellI p (sq r (x+w.1) (y+dyOf p w))) then [sq r (x+w.1) (y+dyOf p w)] else []),x+w.1,y+dyOf p w,k+1,()),()))):=by
    unfold qdz
    simp only[hlt,cond_true,wx,wy,hoff,hb,Bool.not_true,cond_false,w1,w2,wk,hat,Option.bind_some,qxA h ⟨hdx,‹_›,‹_›,hm,‹_›⟩,show ∀b,imp b true=true from fun b=>by cases b<;>rfl,qc]
    have hroom:room (out.length+[sq r (x+w.1) (y+dyOf p w)].length) 8=true:=qO (by simp;omega);cases takes p w (cellI p (sq r (x+w.1) (y+dyOf p w)))
    ·simp
    ·simp only[cond_true,hroom,qc,Option.bind_some]
   cases hc:(cellI p (sq r (x+w.1) (y+dyOf p w))==0) with
   | true =>
    have hne:(cellI p (sq r (x+w.1) (y+dyOf p w))!=0)=false:=by simp only[bne,hc];rfl
    rw[hne,cond_false] at hstep
    rw[qx hstep,qwh h ⟨hdx,‹_›,‹_›,hm,‹_›⟩ n _ (x+w.1) (y+dyOf p w) (k+1) (by omega) (by omega) (by
     have:(bif takes p w (cellI p (sq r (x+w.1) (y+dyOf p w))) then [sq r (x+w.1) (y+dyOf p w)] else []).length≤1:=by cases takes p w (cellI p (sq r (x+w.1) (y+dyOf p w)))<;>simp
     rw[List.length_append];omega) ⟨b1,b2⟩ ⟨b3,b4⟩]
    simp[List.append_assoc]
   | false =>
    have hne:(cellI p (sq r (x+w.1) (y+dyOf p w))!=0)=true:=by simp only[bne,hc];rfl
    rw[hne,cond_true] at hstep;rw[qi hstep];simp
theorem way_spec {r:Rules} {p:Place} (h:Valid r p) {w:RWay} (hw:WayOk w) {s:Int} (h0:0≤s) (h1:s<r.width*r.height):qoD r p s w=some (wayS r p s w):=by
 have hr:=h.r0;have hd:=qrS hr h0 h1;have:=hr.w8;have:=hr.h8;have:=hr.w1;have:=hr.h1;obtain⟨hdx,hdy,hnz,hm,htk⟩:=id hw;unfold qoD wayS;have hq:(r.2.1 !=0)=true:=bne_t (by show ¬r.width=0;omega);have wdy:(bif (p.2.2.1==(1:Int)) then some (((w64 (0-w.2.1)),()),()) else some ((w.2.1,()),()))=some ((dyOf p w,()),()):=by
  unfold dyOf;by_cases e:p.turn=1
  ·rw[if_pos e,beq_t e,cond_true,qf (by omega) (by omega)];simp
  ·rw[if_neg e,beq_f e,cond_false]
 have wq:w64 (s.tdiv r.2.1)=s.tdiv r.2.1:=qf (by show _≤s.tdiv r.width;omega) (by show s.tdiv r.width≤_;omega);rw[wdy,Option.bind_some,hq,qc,qc,wq,qwh h hw w.2.2.1.toNat [] _ _ 0 (by omega) (by omega) (by simp) hd.1 hd.2];simp

theorem qpz (x y:Mv):mvLt x y=true↔x.1<y.1∨x.1=y.1∧(x.2.1<y.2.1∨x.2.1=y.2.1∧x.2.2.1<y.2.2.1):=by simp[mvLt]
theorem lt_f (x y:Mv):mvLt x y=false↔¬(x.1<y.1∨x.1=y.1∧(x.2.1<y.2.1∨x.2.1=y.2.1∧x.2.2.1<y.2.2.1)):=by rw[←qpz,Bool.not_eq_true]
theorem mv_eq {x y:Mv} (h1:x.1=y.1) (h2:x.2.1=y.2.1) (h3:x.2.2.1=y.2.2.1):x=y:=by
 obtain⟨a,b,c,⟨⟩⟩:=x;obtain⟨a',b',c',⟨⟩⟩:=y;simp only at h1 h2 h3;subst h1 h2 h3;rfl
theorem mv_beq (x y:Mv):((x.1==y.1)&&((x.2.1==y.2.1)&&((x.2.2.1==y.2.2.1)&&true)))=decide (x=y):=by
 rw[Bool.eq_iff_iff];simp only[Bool.and_eq_true,beq_iff_eq,decide_eq_true_eq,and_true];constructor
 ·rintro ⟨h1,h2,h3⟩;exact mv_eq h1 h2 h3
 ·rintro rfl;exact⟨rfl,rfl,rfl⟩

def dd1 (a:Mv):List Mv→List Mv
 | []=>[]
 | x::xs=>if x=a then dd1 a xs else x::dd1 x xs
def dd:List Mv→List Mv
 | []=>[]
 | x::xs=>x::dd1 x xs
theorem qsC (y:Mv):∀(l:List Mv) (a:Mv),dd1 a (l++[y])=dd1 a l++(if (a::l).getLast (by simp)=y then [] else [y])
 | [],a=>by simp only[List.nil_append,dd1,List.getLast_singleton];by_cases h:y=a<;>simp[h,eq_comm]
 | x::xs,a=>by
  simp only[List.cons_append,dd1];by_cases h:x=a
  ·subst h;rw[if_pos rfl,if_pos rfl,qsC y xs x];congr 2
  ·rw[if_neg h,if_neg h,qsC y xs x,List.cons_append];congr 2
theorem dd_snoc {l:List Mv} (hl:l≠[]) (y:Mv):dd (l++[y])=dd l++(if l.getLast hl=y then [] else [y]):=by
 cases l with
 | nil=>exact absurd rfl hl
 | cons x xs=>simp only[List.cons_append,dd,qsC]
theorem qrV (z:Mv):∀(l:List Mv) (a:Mv),z∈a::dd1 a l↔z∈a::l
 | [],a=>by simp[dd1]
 | x::xs,a=>by
  simp only[dd1];by_cases h:x=a
  ·subst h;rw[if_pos rfl,qrV z xs x];simp
  ·rw[if_neg h,List.mem_cons,qrV z xs x,←List.mem_cons]
theorem dd_mem (z:Mv) (l:List Mv):z∈dd l↔z∈l:=by
 cases l with
 | nil=>simp[dd]
 | cons x xs=>exact qrV z xs x
theorem dd1_lt:∀(l:List Mv) (a:Mv),(a::l).Pairwise (fun x y=>(!mvLt y x)=true)→(a::dd1 a l).Pairwise (fun x y=>mvLt x y=true)
 | [],a,h=>by simp[dd1]
 | x::xs,a,h=>by
  simp only[dd1];rw[List.pairwise_cons] at h;by_cases e:x=a
  ·subst e;rw[if_pos rfl];exact dd1_lt xs x h.2
  ·rw[if_neg e,List.pairwise_cons];refine⟨fun z hz=>?_,dd1_lt xs x h.2⟩;have hz':=(qrV z xs x).1 hz;have h1:=h.1 x (by simp);have hax:mvLt a x=true:=by
    rw[Bool.not_eq_true',lt_f] at h1;rw[qpz];by_cases c1:a.1=x.1
    ·by_cases c2:a.2.1=x.2.1
     ·by_cases c3:a.2.2.1=x.2.2.1
      ·exact absurd (mv_eq c1 c2 c3).symm e
      ·omega
     ·omega
    ·omega
   rcases List.mem_cons.1 hz' with rfl | hz2
   ·exact hax
   ·have h2:=(List.pairwise_cons.1 h.2).1 z hz2;rw[Bool.not_eq_true',lt_f] at h2;rw[qpz] at hax ⊢;omega
theorem dd_lt {l:List Mv} (h:l.Pairwise (fun x y=>(!mvLt y x)=true)):(dd l).Pairwise (fun x y=>mvLt x y=true):=by
 cases l with
 | nil=>simp[dd]
 | cons x xs=>exact dd1_lt xs x h
theorem sort_pw (l:List Mv):(qbW l).Pairwise (fun x y=>(!mvLt y x)=true):=by
 unfold qbW;apply List.pairwise_mergeSort
 ·intro a b c h1 h2;rw[Bool.not_eq_true',lt_f] at *;omega
 ·intro a b;rw[Bool.or_eq_true,Bool.not_eq_true',Bool.not_eq_true',lt_f,lt_f];omega
theorem sort_mem (z:Mv) (l:List Mv):z∈qbW l↔z∈l:=(List.mergeSort_perm l _).mem_iff
theorem sort_len (l:List Mv):(qbW l).length=l.length:=List.length_mergeSort l
theorem lt_irrefl (x:Mv):mvLt x x=false:=by rw[lt_f];omega
theorem qto:∀ {l m:List Mv},l.Pairwise (fun x y=>mvLt x y=true)→m.Pairwise (fun x y=>mvLt x y=true)→(∀z,z∈l↔z∈m)→l=m
 | [],[],_,_,_=>rfl
 | [],y::m,_,_,h=>by have:=(h y).2 (by simp);simp at this
 | x::l,[],_,_,h=>by have:=(h x).1 (by simp);simp at this
 | x::l,y::m,hl,hm,h=>by
  rw[List.pairwise_cons] at hl hm;have e:x=y:=by
   rcases List.mem_cons.1 ((h x).1 (by simp)) with e | e
   ·exact e
   ·rcases List.mem_cons.1 ((h y).2 (by simp)) with e2 | e2
    ·exact e2.symm
    ·have a:=hm.1 x e;have b:=hl.1 y e2;rw[qpz] at a b;omega
  subst e;congr 1;refine qto hl.2 hm.2 fun z=>⟨fun hz=>?_,fun hz=>?_⟩
  ·rcases List.mem_cons.1 ((h z).1 (by simp[hz])) with e | e
   ·subst e;have:=hl.1 z hz;rw[lt_irrefl] at this;cases this
   ·exact e
  ·rcases List.mem_cons.1 ((h z).2 (by simp[hz])) with e | e
   ·subst e;have:=hm.1 z hz;rw[lt_irrefl] at this;cases this
   ·exact e

abbrev d0:Mv:=((0:Int),((0:Int),((0:Int),())))
theorem qwK {xs:List Mv} {j:Nat} (h:j<xs.length):xs.take (j+1)=xs.take j++[getD' xs j d0]:=by
 rw[List.take_succ_eq_append_getElem h];simp[getD',h]
theorem dd_take {xs:List Mv} {j:Nat} (h:j<xs.length) (hj:1≤j):dd (xs.take (j+1))=dd (xs.take j)++(if getD' xs (j-1) d0=getD' xs j d0 then [] else [getD' xs j d0]):=by
 have hne:xs.take j≠[]:=by
  intro e;have:=congrArg List.length e;rw[List.length_take] at this;simp only[List.length_nil] at this;omega
 rw[qwK h,dd_snoc hne];have:(xs.take j).getLast hne=getD' xs (j-1) d0:=by
  rw[List.getLast_eq_getElem];simp only[List.getElem_take,List.length_take,getD'];rw[List.getD_eq_getElem?_getD,List.getElem?_eq_getElem (by omega)];simp only[Option.getD_some];congr 1;omega
 rw[this]
theorem compact5 (xs:List Mv) (k0:Nat) (hk0:1≤k0) (hk1:k0<xs.length) (hx:xs.length≤1000000) (hd:dd (xs.take (k0+1))=xs.take k0) :
  ∃r,iterW (qiD (((k0:Int),()),(xs,()))) (((k0:Int),(1:Int),()),(xs,()))=some r∧(∃k:Nat,r.1.1=(k:Int)∧k≤xs.length∧r.2.1.length=xs.length∧r.2.1.take k=dd xs):=by
 refine qq0 (fun x=>∃(k k2:Nat),x.1.1=(k:Int)∧x.1.2.1=(k2:Int)∧1≤k2∧k0+k2≤xs.length∧k0≤k∧k+1≤k0+k2∧x.2.1.length=xs.length∧(∀j,k0+k2≤j+1→getD' x.2.1 j d0=getD' xs j d0)∧x.2.1.take k=dd (xs.take (k0+k2))) (fun x=>xs.length-x.1.2.1.toNat) _ ?_ _ ⟨k0,1,rfl,rfl,by omega,by omega,by omega,by omega,rfl,fun _ _=>rfl,by rw[hd]⟩
 rintro ⟨⟨k,k2,⟨⟩⟩,ys,⟨⟩⟩ ⟨K,K2,e1,e2,h1,h2,h3,h4,h5,h6,h7⟩
 simp only at e1 e2 h5 h6 h7;subst e1 e2;unfold qiD;simp only[Int.toNat_natCast];by_cases hlt:K2<xs.length-k0
 ·left
  have c1:decide ((K2:Int)<((xs.length-k0:Nat):Int))=true:=by simp;omega
  have c2:inb (K2:Int) (xs.length-k0)=true:=inb_iff.2 ⟨by omega,by omega⟩
  have w1:w64 ((K2:Int)-1)=((K2-1:Nat):Int):=by rw[qf (by omega) (by omega)];omega
  have c3:inb ((K2-1:Nat):Int) (xs.length-k0)=true:=inb_iff.2 ⟨by omega,by omega⟩
  have w2:w64 ((K2:Int)+1)=((K2+1:Nat):Int):=by rw[qf (by omega) (by omega)];omega
  have w3:w64 ((K:Int)+1)=((K+1:Nat):Int):=by rw[qf (by omega) (by omega)];omega
  have c4:inb (K:Int) ys.length=true:=inb_iff.2 ⟨by omega,by omega⟩;have g1:getD' ys (k0+K2) d0=getD' xs (k0+K2) d0:=h6 _ (by omega);have g2:getD' ys (k0+(K2-1)) d0=getD' xs (k0+(K2-1)) d0:=h6 _ (by omega);have hdd:=dd_take (xs:=xs) (j:=k0+K2) (by omega) (by omega);simp only[c1,cond_true,c2,qc,w1,Int.toNat_natCast,c3,w2,w3,c4,mv_beq,g1,g2];by_cases he:getD' xs (k0+K2) d0=getD' xs (k0+(K2-1)) d0
  ·refine⟨(((K:Int),((K2+1:Nat):Int),()),(ys,())),by simp[he],⟨K,K2+1,rfl,rfl,by omega,by omega,by omega,by omega,h5,fun j hj=>h6 j (by omega),?_⟩,by simp;omega⟩;rw[show k0+(K2+1)=k0+K2+1 by omega,hdd,if_pos (by rw[he];congr 1;omega),List.append_nil];exact h7
  ·refine⟨((((K+1:Nat):Int),((K2+1:Nat):Int),()),(ys.set K (getD' xs (k0+K2) d0),())),by simp[he],⟨K+1,K2+1,rfl,rfl,by omega,by omega,by omega,by omega,by simp[h5],fun j hj=>?_,?_⟩,by simp;omega⟩
   ·rw[←h6 j (by omega)];simp only[getD'];simp only[List.getD_eq_getElem?_getD];rw[List.getElem?_set_ne (by omega)]
   ·rw[show k0+(K2+1)=k0+K2+1 by omega,hdd,if_neg (by intro e;apply he;rw[←e];congr 1;omega),←h7];rw[List.take_succ_eq_append_getElem (by simp;omega)];simp[List.take_set_of_le]
 ·right
  have c1:decide ((K2:Int)<((xs.length-k0:Nat):Int))=false:=by simp;omega
  refine⟨(((K:Int),()),(ys,())),by simp only[c1,cond_false],K,rfl,by omega,h5,?_⟩;rw[h7,show k0+K2=xs.length by omega,List.take_length]
theorem compact4 (xs:List Mv) (hx:xs.length≤1000000) (h2:2≤xs.length) :
  (Option.bind (α:=((Unit)×((List Mv)×Unit)) ⊕ (((List Mv)×Unit)×(Unit))) (iterW qfU (((1:Int),()),(xs,()))) (Sum.elim (fun x23=>some ((x23.2.1,()),())) some))=some ((dd xs,()),()):=by
 obtain⟨r,hr,hq⟩:=qq0 (f:=qfU) (fun x=>∃k:Nat,x=(((k:Int),()),(xs,()))∧1≤k∧k≤xs.length∧dd (xs.take k)=xs.take k) (fun x=>xs.length-x.1.1.toNat) (fun r=>r = .inl ((),(xs,()))∧dd xs=xs∨r = .inr ((dd xs,()),())) (by
  rintro x ⟨k,rfl,h1,h3,h4⟩
  unfold qfU;simp only[Int.toNat_natCast];by_cases hlt:k<xs.length
  ·have c1:decide ((k:Int)<((xs.length:Nat):Int))=true:=by simp;omega
   have c2:inb (k:Int) xs.length=true:=inb_iff.2 ⟨by omega,by omega⟩
   have w1:w64 ((k:Int)-1)=((k-1:Nat):Int):=by rw[qf (by omega) (by omega)];omega
   have c3:inb ((k-1:Nat):Int) xs.length=true:=inb_iff.2 ⟨by omega,by omega⟩
   have w2:w64 ((k:Int)+1)=((k+1:Nat):Int):=by rw[qf (by omega) (by omega)];omega
   have c4:qk (k:Int) ((xs.length:Nat):Int) xs.length=true:=by simp[qk];omega
   have hdd:=dd_take hlt h1;simp only[c1,cond_true,c2,qc,w1,Int.toNat_natCast,c3,c4,mv_beq];by_cases he:getD' xs k d0=getD' xs (k-1) d0
   ·right;rw[if_pos he.symm,List.append_nil,h4] at hdd;obtain⟨r,hr,K,e1,e2,e3,e4⟩:=compact5 xs k h1 hlt hx hdd;obtain⟨⟨k',⟨⟩⟩,ys,⟨⟩⟩:=r;simp only at e1 e3 e4;subst e1;refine⟨.inr ((dd xs,()),()),?_,.inr rfl⟩;rw[hr]
    have c5:qk (K:Int) ((ys.length:Nat):Int) ys.length=true:=by simp[qk];omega
    have c6:∀l:List Mv,K≤l.length→qk 0 (K:Int) l.length=true:=fun l hl=>by simp[qk];omega
    simp only[he,decide_true,cond_true,Option.bind_some,c5,qc,Int.toNat_natCast];rw[c6 _ (by simp;omega),qc,Option.bind_some,Sum.elim_inr,List.take_append_of_le_length (by simp;omega),List.take_take,Nat.min_self,e4]
   ·left;refine⟨((((k+1:Nat):Int),()),(xs,())),?_,⟨k+1,rfl,by omega,by omega,?_⟩,by simp;omega⟩
    ·simp only[he,decide_false,cond_false,Option.bind_some,Sum.elim_inl,w2]
    ·rw[hdd,if_neg (fun e=>he e.symm),h4,←qwK hlt]
  ·right
   have c1:decide ((k:Int)<((xs.length:Nat):Int))=false:=by simp;omega
   refine⟨.inl ((),(xs,())),by simp only[c1,cond_false],.inl ⟨rfl,?_⟩⟩
   have:k=xs.length:=by omega
   rw[this,List.take_length] at h4
   exact h4) (((1:Int),()),(xs,())) ⟨1,rfl,by omega,by omega,by
    cases xs with
    | nil=>rfl
    | cons x l=>rfl⟩
 rw[hr];rcases hq with ⟨rfl,e⟩ | rfl
 ·rw[e];rfl
 ·rfl
end Go.Proofs.YthidcmjpbokeeaaGreatDoor
