/- Several texts in one: HandicapLevelsS, DenS, DenP, DenW, LvlD, LvlE, LvlF, LvlG, LvlH. -/
import Derived.Test.YteahiolockghkaaGreatDoorMAA
import Derived.Test.YteahiolockghkaaGreatDoorMAD
import Derived.Shelf.SlSortCmp.NoneTotal
import Derived.Shelf.Strings.Builder1
namespace Go.Proofs.YteahiolockghkaaGreatDoor
open Go.Den
set_option linter.unusedVariables false
set_option maxRecDepth 100000
noncomputable section
def qml:Option Zv10 :=
 some ((ByteArray.mk #[84,73,67]),((3:Int),((3:Int),([((83:Int),((5:Int),((0:Int),(([]:List Zv55),()))))],((List.replicate 9 (0:Int)),(false,(false,([((0:Int),((0:Int),((3:Int),(false,()))))],((2:Int),((0:Int),((0:Int),())))))))))))
def qbc:ByteArray×Int×Int×Zv16×Zv73×Bool×Bool×Zv42×Int×Int×Int×Unit :=
 ((ByteArray.mk #[84,73,67]),((3:Int),((3:Int),([((83:Int),((5:Int),((0:Int),(([]:List Zv55),()))))],((List.replicate 9 (0:Int)),(false,(false,([((0:Int),((0:Int),((3:Int),(false,()))))],((2:Int),((0:Int),((0:Int),())))))))))))
theorem qu3:qml=some (qbc):=by
 unfold qml qbc
 first | rfl | simp only[qW]
def qew (r:ByteArray×Int×Int×Zv16×Zv73×Bool×Bool×Zv42×Int×Int×Int×Unit) (depth:Int):Option Zv69 :=
 Option.bind (qhl r) fun r3 =>
 bif (r3.2.1 !=0) then some ((0:Int),r3.2)
 else Option.bind (qb5 r (r3.1.1,((r3.1.2.1.1,(r3.1.2.1.2.1,())),r3.1.2.2)) depth) fun r4 =>
 bif (r4.2.1 !=0) then some ((0:Int),r4.2)
 else bif (decide (r4.1>0)) then some ((1:Int),((0:Int),()))
 else bif (decide (r4.1<0)) then some ((2:Int),((0:Int),()))
 else some ((3:Int),((0:Int),()))
def qdA:Option (Bool) :=
 Option.bind (qew ((qbc).1,(((qbc).2).1,((((qbc).2).2).1,(((((qbc).2).2).2).1,((((((qbc).2).2).2).2).1,(((((((qbc).2).2).2).2).2).1,((((((((qbc).2).2).2).2).2).2).1,(((((((((qbc).2).2).2).2).2).2).2).1,((((((((((qbc).2).2).2).2).2).2).2).2).1,(((((((((((qbc).2).2).2).2).2).2).2).2).2).1,((((((((((((qbc).2).2).2).2).2).2).2).2).2).2).1,()))))))))))) (0:Int)) fun r2 =>
 some ((r2.2.1==0)&&(r2.1==3))
def qad (s:ByteArray) (pfx:ByteArray):Option (Bool) :=
 req (imp (decide (((s.size:Nat):Int)≥((pfx.size:Nat):Int))) (qh (0:Int) ((pfx.size:Nat):Int) s.size)) (some ((decide (((s.size:Nat):Int)≥((pfx.size:Nat):Int)))&&((s.extract 0 (((pfx.size:Nat):Int)).toNat).toList==pfx.toList)))
def qag (s:ByteArray) (pfx:ByteArray):Option (ByteArray×Bool×Unit) :=
 Option.bind (qad s pfx) fun r2 =>
 bif (!r2) then some (s,(false,()))
 else req (qh ((pfx.size:Nat):Int) ((s.size:Nat):Int) s.size) (some ((s.extract (((pfx.size:Nat):Int)).toNat (((s.size:Nat):Int)).toNat),(true,())))
def qaZ (s:ByteArray) (pfx:ByteArray):Option (ByteArray×Bool×Unit) :=
 Option.bind (qag s pfx) fun r2 =>
 some r2
def qao (s:ByteArray) (sep:ByteArray):Option (ByteArray×ByteArray×Bool×Unit) :=
 Option.bind (idx1S s sep) fun r2 =>
 bif (decide (r2≥0)) then req (qh (0:Int) r2 s.size) (req (qh (w64 (r2+((sep.size:Nat):Int))) ((s.size:Nat):Int) s.size) (some ((s.extract 0 (r2).toNat),((s.extract ((w64 (r2+((sep.size:Nat):Int)))).toNat (((s.size:Nat):Int)).toNat),(true,())))))
 else some (s,((ByteArray.mk #[]),(false,())))
def qb4 (s:ByteArray) (sep:ByteArray):Option (ByteArray×ByteArray×Bool×Unit) :=
 Option.bind (qao s sep) fun r2 =>
 some r2
def qeU (s:ByteArray):Option (Bool) :=
 Option.bind (gopt (!(s.toList==(ByteArray.mk #[]).toList)) ByteArray.empty (trimS s (ByteArray.mk #[48,49,50,51,52,53,54,55,56,57]))) fun r3 =>
 Option.bind (gopt ((!(s.toList==(ByteArray.mk #[]).toList))&&(r3.toList==(ByteArray.mk #[]).toList)) 0 (strAt s (0:Int))) fun c4 =>
 some (((!(s.toList==(ByteArray.mk #[]).toList))&&(r3.toList==(ByteArray.mk #[]).toList))&&((((c4.toNat:Nat):Int)!=48)||(((s.size:Nat):Int)==1)))
def qhh (x1:Zv68×(Unit)):Option (Zv56 ⊕ Zv56) :=
 Option.bind (gat (decide (((x1.1.1.length:Nat):Int)>0)) (0:Int) x1.1.1 (w64 (((x1.1.1.length:Nat):Int)-1))) fun d2 =>
 bif ((decide (((x1.1.1.length:Nat):Int)>0))&&(d2==0)) then req (qh (0:Int) (w64 (((x1.1.1.length:Nat):Int)-1)) x1.1.1.length) (some (Sum.inl ((((x1.1.1.take ((w64 (((x1.1.1.length:Nat):Int)-1))).toNat).drop 0),()),())))
 else some (Sum.inr ((x1.1.1,()),()))
def qce (n:List Int):Option Zv73 :=
 Option.bind (iterW (qhh) ((n,()),())) fun x3 =>
 some x3.1.1
def qb8 (n:List Int) (x:Int) (x2:Zv52×(Unit)):Option (Zv38 ⊕ Zv45) :=
 bif (decide (x2.1.2.2.1<((n.length:Nat):Int))) then(Option.bind (at? n x2.1.2.2.1) fun d3 =>
 req (room (x2.1.1.length+([(IntKind.wrap .u32 (wu64 (x2.1.2.1+(wu64 ((wu64 d3)*(wu64 x))))))]).length) 4) (some (Sum.inl (((x2.1.1++[(IntKind.wrap .u32 (wu64 (x2.1.2.1+(wu64 ((wu64 d3)*(wu64 x))))))]),(shK .shr .u64 (wu64 (x2.1.2.1+(wu64 ((wu64 d3)*(wu64 x))))) (32:Int)),(w64 (x2.1.2.2.1+1)),()),()))))
 else some (Sum.inr ((x2.1.1,x2.1.2.1,()),()))
def qi7 (n:List Int) (x:Int) (y:Int):Option Zv73 :=
 req (decide (0≤(w64 (((n.length:Nat):Int)+1)))&&room ((w64 (((n.length:Nat):Int)+1))).toNat 4) (Option.bind (iterW (qb8 n x) ((([]:List (Int)),(wu64 y),(0:Int),()),())) fun x4 =>
 req (room (x4.1.1.length+([(IntKind.wrap .u32 x4.1.2.1)]).length) 4) (Option.bind (qce (x4.1.1++[(IntKind.wrap .u32 x4.1.2.1)])) fun r5 =>
 some r5))
def qdH (x1:Zv53×(Unit)) (x3:Zv69×(Unit)):Option (Zv58 ⊕ Zv66) :=
 bif (decide (x3.1.2.1<(if (9:Int)<((x1.1.1.size:Nat):Int) then(9:Int) else((x1.1.1.size:Nat):Int)))) then some (Sum.inl (((IntKind.wrap .u32 (x3.1.1*(10:Int))),(w64 (x3.1.2.1+1)),()),()))
 else some (Sum.inr ((x3.1.1,()),()))
def qeD (x1:Zv53×(Unit)):Option ((Zv53×(Unit)) ⊕ Zv56) :=
 bif (decide (((x1.1.1.size:Nat):Int)>0)) then(Option.bind (req (qh (0:Int) (if (9:Int)<((x1.1.1.size:Nat):Int) then(9:Int) else((x1.1.1.size:Nat):Int)) x1.1.1.size) (Option.bind (qmY (x1.1.1.extract 0 ((if (9:Int)<((x1.1.1.size:Nat):Int) then(9:Int) else((x1.1.1.size:Nat):Int))).toNat) (10:Int) (32:Int)) fun r2 =>
 Option.bind (iterW (qdH x1) (((1:Int),(0:Int),()),())) fun x4 =>
 Option.bind (qi7 x1.1.2.1 x4.1.1 (IntKind.wrap .u32 r2.1)) fun r5 =>
 req (qh (if (9:Int)<((x1.1.1.size:Nat):Int) then(9:Int) else((x1.1.1.size:Nat):Int)) ((x1.1.1.size:Nat):Int) x1.1.1.size) (some (((x1.1.1.extract ((if (9:Int)<((x1.1.1.size:Nat):Int) then(9:Int) else((x1.1.1.size:Nat):Int))).toNat (((x1.1.1.size:Nat):Int)).toNat),r5,()),())))) fun x6 =>
 some (Sum.inl ((x6.1.1,x6.1.2.1,()),())))
 else some (Sum.inr ((x1.1.2.1,()),()))
def qic (s:ByteArray):Option Zv73 :=
 Option.bind (iterW (qeD) ((s,([]:List Int),()),())) fun x7 =>
 some x7.1.1
def qcQ (x:Int):Option (Bool) :=
 some (x !=x)
def qv (x:Int):Bool :=
 (x !=x)
theorem qiD (x:Int):qcQ x=some (qv x):=by
 unfold qcQ qv
 first | rfl | simp only[qW]
def qb0 (x:Int) (y:Int):Option (Int) :=
 bif (qv x) then(bif (qv y) then some (0:Int)
 else some (-1:Int))
 else bif (qv y) then some (1:Int)
 else bif (decide (x<y)) then some (-1:Int)
 else bif (decide (x>y)) then some (1:Int)
 else some (0:Int)
def qal (x:Int) (y:Int):Int :=
 bif (qv x) then(bif (qv y) then(0:Int)
 else(-1:Int))
 else bif (qv y) then(1:Int)
 else bif (decide (x<y)) then(-1:Int)
 else bif (decide (x>y)) then(1:Int)
 else(0:Int)
theorem qhn (x:Int) (y:Int):qb0 x y=some (qal x y):=by
 unfold qb0 qal
 first | rfl | simp only[qW]
def qbw (n:List Int) (m:List Int) (x1:Zv72×(Unit)):Option (Zv66 ⊕ (Zv70 ⊕ Int)) :=
 bif (decide (x1.1.1≥0)) then(Option.bind (at? n x1.1.1) fun d2 =>
 Option.bind (at? m x1.1.1) fun d3 =>
 bif (d2 !=d3) then(Option.bind (at? n x1.1.1) fun d4 =>
 Option.bind (at? m x1.1.1) fun d5 =>
 some (Sum.inr (Sum.inr (qal d4 d5))))
 else some (Sum.inl (((w64 (x1.1.1-1)),()),())))
 else some (Sum.inr (Sum.inl ((),())))
def qeO (n:List Int) (m:List Int):Option (Int) :=
 bif (((n.length:Nat):Int)!=((m.length:Nat):Int)) then some (qG ((n.length:Nat):Int) ((m.length:Nat):Int))
 else Option.bind (α:=Zv70 ⊕ Int) (iterW (qbw n m) (((w64 (((n.length:Nat):Int)-1)),()),())) (Sum.elim (fun x6 =>
 some (0:Int)) some)
def qbf (s:List Int):Option Zv73 :=
 bif (s.isEmpty) then(agree (some ([]:List Int)) (req (room (([]:List Int).length+s.length) 4) (some (([]:List Int)++s))))
 else req (room (([]:List Int).length+s.length) 4) (some (([]:List Int)++s))
def qbS (n:List Int) (x:Int) (x2:Zv69×Zv68):Option (Zv39 ⊕ Zv46) :=
 bif (decide (x2.1.2.1≥0)) then(Option.bind (at? n x2.1.2.1) fun d3 =>
 req ((wu64 x)!=0) (req (inb x2.1.2.1 x2.2.1.length) (Option.bind (some (getD' x2.2.1 ((x2.1.2.1).toNat) (0:Int))) fun e4 =>
 Option.bind (some (x2.2.1.set ((x2.1.2.1).toNat) (IntKind.wrap .u32 (wu64 ((ior .u64 (shK .shl .u64 x2.1.1 (32:Int)) (wu64 d3)).tdiv (wu64 x)))))) fun y5 =>
 req ((wu64 x)!=0) (some (Sum.inl ((((ior .u64 (shK .shl .u64 x2.1.1 (32:Int)) (wu64 d3)).tmod (wu64 x)),(w64 (x2.1.2.1-1)),()),(y5,())))))))
 else some (Sum.inr ((x2.1.1,()),(x2.2.1,())))
def qdU (n:List Int) (x:Int):Option Zv61 :=
 req (decide (0≤((n.length:Nat):Int))&&(((n.length:Nat):Int)==((n.length:Nat):Int)&&room (((n.length:Nat):Int)).toNat 4)) (Option.bind (iterW (qbS n x) (((0:Int),(w64 (((n.length:Nat):Int)-1)),()),((List.replicate (((n.length:Nat):Int)).toNat (0:Int)),()))) fun x6 =>
 Option.bind (qce x6.2.1) fun r7 =>
 some (r7,((IntKind.wrap .u32 x6.1.1),())))
def qet (x:Int):Option Zv73 :=
 Option.bind (qce ([(IntKind.wrap .u32 x),(IntKind.wrap .u32 (shK .shr .u64 x (32:Int)))])) fun r2 =>
 some r2
def qcE (n:List Int) (k:Int) (x1:Zv52×(Unit)):Option (Zv38 ⊕ Zv45) :=
 bif (decide (x1.1.2.2.1<((n.length:Nat):Int))) then(Option.bind (at? n x1.1.2.2.1) fun d2 =>
 req (decide (0≤k)) (req (room (x1.1.1.length+([(IntKind.wrap .u32 (ior .u64 x1.1.2.1 (shK .shl .u64 (wu64 d2) k)))]).length) 4) (some (Sum.inl (((x1.1.1++[(IntKind.wrap .u32 (ior .u64 x1.1.2.1 (shK .shl .u64 (wu64 d2) k)))]),(shK .shr .u64 (ior .u64 x1.1.2.1 (shK .shl .u64 (wu64 d2) k)) (32:Int)),(w64 (x1.1.2.2.1+1)),()),())))))
 else some (Sum.inr ((x1.1.1,x1.1.2.1,()),()))
def qiq (n:List Int) (k:Int):Option Zv73 :=
 req (decide (0≤(w64 (((n.length:Nat):Int)+1)))&&room ((w64 (((n.length:Nat):Int)+1))).toNat 4) (Option.bind (iterW (qcE n k) ((([]:List (Int)),(0:Int),(0:Int),()),())) fun x3 =>
 req (room (x3.1.1.length+([(IntKind.wrap .u32 x3.1.2.1)]).length) 4) (some (x3.1.1++[(IntKind.wrap .u32 x3.1.2.1)])))
def qbu (m:List Int) (x17:Zv72×(Unit)):Option (Zv66 ⊕ Zv66) :=
 Option.bind (at? m (w64 (((m.length:Nat):Int)-1))) fun d18 =>
 req (decide (0≤x17.1.1)) (bif ((shK .shr .u32 (shK .shl .u32 d18 x17.1.1) (31:Int))==0) then some (Sum.inl (((w64 (x17.1.1+1)),()),()))
 else some (Sum.inr ((x17.1.1,()),())))
def qai (r22:List Int) (x23:Zv72×Zv50) (x26:Zv69×(Unit)):Option (Zv58 ⊕ Zv66) :=
 Option.bind (gat (decide (x26.1.2.1<4294967296)) (0:Int) r22 (w64 (((r22.length:Nat):Int)-2))) fun d27 =>
 req (imp (decide (x26.1.2.1<4294967296)) true) (req (imp (decide (x26.1.2.1<4294967296)) (inb (w64 (((r22.length:Nat):Int)-2)) (((w64 ((w64 (x23.1.1+((r22.length:Nat):Int)))+1))).toNat-(x23.1.1).toNat))) (bif ((decide (x26.1.2.1<4294967296))&&(decide ((wu64 (x26.1.1*(wu64 d27)))>(ior .u64 (shK .shl .u64 x26.1.2.1 (32:Int)) (wu64 (getD' x23.2.1 ((x23.1.1).toNat+((w64 (((r22.length:Nat):Int)-2))).toNat) (0:Int))))))) then(Option.bind (at? r22 (w64 (((r22.length:Nat):Int)-1))) fun d28 =>
 some (Sum.inl (((wu64 (x26.1.1-1)),(wu64 (x26.1.2.1+(wu64 d28))),()),())))
 else some (Sum.inr ((x26.1.1,()),()))))
def qaQ (x23:Zv72×Zv50) (r22:List Int) (x29:Zv72×(Unit)) (x30:Zv63×Zv68):Option ((Zv63×Zv68) ⊕ Zv46) :=
 bif (decide (x30.1.2.2.1<(((((w64 ((w64 (x23.1.1+((r22.length:Nat):Int)))+1))).toNat-(x23.1.1).toNat):Nat):Int))) then(Option.bind (bif (decide (x30.1.2.2.1<((r22.length:Nat):Int))) then(Option.bind (at? r22 x30.1.2.2.1) fun d31 =>
 some (((wu64 (x30.1.1+(wu64 (x29.1.1*(wu64 d31))))),()),()))
 else some ((x30.1.1,()),())) fun x32 =>
 req (inb x30.1.2.2.1 (((w64 ((w64 (x23.1.1+((r22.length:Nat):Int)))+1))).toNat-(x23.1.1).toNat)) (Option.bind (bif (decide ((w64 ((w64 ((w64 (getD' x30.2.1 ((x23.1.1).toNat+(x30.1.2.2.1).toNat) (0:Int)))-(w64 (iand .u64 x32.1.1 (4294967295:Int)))))-x30.1.2.1))<0)) then some (((1:Int),(w64 ((w64 ((w64 ((w64 (getD' x30.2.1 ((x23.1.1).toNat+(x30.1.2.2.1).toNat) (0:Int)))-(w64 (iand .u64 x32.1.1 (4294967295:Int)))))-x30.1.2.1))+4294967296)),()),())
 else some (((0:Int),(w64 ((w64 ((w64 (getD' x30.2.1 ((x23.1.1).toNat+(x30.1.2.2.1).toNat) (0:Int)))-(w64 (iand .u64 x32.1.1 (4294967295:Int)))))-x30.1.2.1)),()),())) fun x33 =>
 req (inb x30.1.2.2.1 (((w64 ((w64 (x23.1.1+((r22.length:Nat):Int)))+1))).toNat-(x23.1.1).toNat)) (Option.bind (some (getD' x30.2.1 ((x23.1.1).toNat+(x30.1.2.2.1).toNat) (0:Int))) fun e34 =>
 Option.bind (some (x30.2.1.set ((x23.1.1).toNat+(x30.1.2.2.1).toNat) (IntKind.wrap .u32 x33.1.2.1))) fun y35 =>
 some (Sum.inl (((shK .shr .u64 x32.1.1 (32:Int)),x33.1.1,(w64 (x30.1.2.2.1+1)),()),(y35,()))))))
 else some (Sum.inr ((x30.1.2.1,()),(x30.2.1,())))
def qaM (x23:Zv72×Zv50) (r22:List Int) (x39:Zv69×Zv68):Option (Zv39 ⊕ Zv57) :=
 bif (decide (x39.1.2.1<(((((w64 ((w64 (x23.1.1+((r22.length:Nat):Int)))+1))).toNat-(x23.1.1).toNat):Nat):Int))) then(req (inb x39.1.2.1 (((w64 ((w64 (x23.1.1+((r22.length:Nat):Int)))+1))).toNat-(x23.1.1).toNat)) (Option.bind (bif (decide (x39.1.2.1<((r22.length:Nat):Int))) then(Option.bind (at? r22 x39.1.2.1) fun d40 =>
 some (((wu64 ((wu64 (x39.1.1+(wu64 (getD' x39.2.1 ((x23.1.1).toNat+(x39.1.2.1).toNat) (0:Int)))))+(wu64 d40))),()),()))
 else some (((wu64 (x39.1.1+(wu64 (getD' x39.2.1 ((x23.1.1).toNat+(x39.1.2.1).toNat) (0:Int))))),()),())) fun x41 =>
 req (inb x39.1.2.1 (((w64 ((w64 (x23.1.1+((r22.length:Nat):Int)))+1))).toNat-(x23.1.1).toNat)) (Option.bind (some (getD' x39.2.1 ((x23.1.1).toNat+(x39.1.2.1).toNat) (0:Int))) fun e42 =>
 Option.bind (some (x39.2.1.set ((x23.1.1).toNat+(x39.1.2.1).toNat) (IntKind.wrap .u32 x41.1.1))) fun y43 =>
 some (Sum.inl (((shK .shr .u64 x41.1.1 (32:Int)),(w64 (x39.1.2.1+1)),()),(y43,()))))))
 else some (Sum.inr ((),(x39.2.1,())))
def qbo (r22:List Int) (x23:Zv72×Zv50):Option ((Zv72×Zv50) ⊕ ((Unit)×Zv50)) :=
 bif (decide (x23.1.1≥0)) then(Option.bind (req (qh x23.1.1 (w64 ((w64 (x23.1.1+((r22.length:Nat):Int)))+1)) x23.2.1.length) (req (inb ((r22.length:Nat):Int) (((w64 ((w64 (x23.1.1+((r22.length:Nat):Int)))+1))).toNat-(x23.1.1).toNat)) (req (inb (w64 (((r22.length:Nat):Int)-1)) (((w64 ((w64 (x23.1.1+((r22.length:Nat):Int)))+1))).toNat-(x23.1.1).toNat)) (Option.bind (at? r22 (w64 (((r22.length:Nat):Int)-1))) fun d24 =>
 req ((wu64 d24)!=0) (Option.bind (at? r22 (w64 (((r22.length:Nat):Int)-1))) fun d25 =>
 Option.bind (iterW (qai r22 x23) (((if (4294967295:Int)<(wu64 ((ior .u64 (shK .shl .u64 (wu64 (getD' x23.2.1 ((x23.1.1).toNat+(((r22.length:Nat):Int)).toNat) (0:Int))) (32:Int)) (wu64 (getD' x23.2.1 ((x23.1.1).toNat+((w64 (((r22.length:Nat):Int)-1))).toNat) (0:Int)))).tdiv (wu64 d24))) then(4294967295:Int) else(wu64 ((ior .u64 (shK .shl .u64 (wu64 (getD' x23.2.1 ((x23.1.1).toNat+(((r22.length:Nat):Int)).toNat) (0:Int))) (32:Int)) (wu64 (getD' x23.2.1 ((x23.1.1).toNat+((w64 (((r22.length:Nat):Int)-1))).toNat) (0:Int)))).tdiv (wu64 d24)))),(wu64 ((ior .u64 (shK .shl .u64 (wu64 (getD' x23.2.1 ((x23.1.1).toNat+(((r22.length:Nat):Int)).toNat) (0:Int))) (32:Int)) (wu64 (getD' x23.2.1 ((x23.1.1).toNat+((w64 (((r22.length:Nat):Int)-1))).toNat) (0:Int))))-(wu64 ((if (4294967295:Int)<(wu64 ((ior .u64 (shK .shl .u64 (wu64 (getD' x23.2.1 ((x23.1.1).toNat+(((r22.length:Nat):Int)).toNat) (0:Int))) (32:Int)) (wu64 (getD' x23.2.1 ((x23.1.1).toNat+((w64 (((r22.length:Nat):Int)-1))).toNat) (0:Int)))).tdiv (wu64 d24))) then(4294967295:Int) else(wu64 ((ior .u64 (shK .shl .u64 (wu64 (getD' x23.2.1 ((x23.1.1).toNat+(((r22.length:Nat):Int)).toNat) (0:Int))) (32:Int)) (wu64 (getD' x23.2.1 ((x23.1.1).toNat+((w64 (((r22.length:Nat):Int)-1))).toNat) (0:Int)))).tdiv (wu64 d24))))*(wu64 d25))))),()),())) fun x29 =>
 Option.bind (iterW (qaQ x23 r22 x29) (((0:Int),(0:Int),(0:Int),()),(x23.2.1,()))) fun x36 =>
 bif (x36.1.1==0) then(req (inb x23.1.1 x23.2.2.1.length) (Option.bind (some (getD' x23.2.2.1 ((x23.1.1).toNat) (0:Int))) fun e37 =>
 Option.bind (some (x23.2.2.1.set ((x23.1.1).toNat) (IntKind.wrap .u32 x29.1.1))) fun y38 =>
 some ((),(x36.2.1,y38,()))))
 else Option.bind (iterW (qaM x23 r22) (((0:Int),(0:Int),()),(x36.2.1,()))) fun x44 =>
 req (inb x23.1.1 x23.2.2.1.length) (Option.bind (some (getD' x23.2.2.1 ((x23.1.1).toNat) (0:Int))) fun e45 =>
 Option.bind (some (x23.2.2.1.set ((x23.1.1).toNat) (IntKind.wrap .u32 (wu64 (x29.1.1-1))))) fun y46 =>
 some ((),(x44.2.1,y46,())))))))) fun x47 =>
 some (Sum.inl (((w64 (x23.1.1-1)),()),(x47.2.1,x47.2.2.1,()))))
 else some (Sum.inr ((),(x23.2.1,x23.2.2.1,())))
def qcb (r49:List Int) (x19:Zv72×(Unit)) (x50:Zv72×Zv68):Option (Zv46 ⊕ Zv57) :=
 bif (decide (x50.1.1<((r49.length:Nat):Int))) then(Option.bind (at? r49 x50.1.1) fun d51 =>
 req (decide (0≤x19.1.1)) (req (inb x50.1.1 x50.2.1.length) (Option.bind (some (getD' x50.2.1 ((x50.1.1).toNat) (0:Int))) fun e52 =>
 Option.bind (some (x50.2.1.set ((x50.1.1).toNat) (shK .shr .u32 d51 x19.1.1))) fun y53 =>
 Option.bind (bif ((decide ((w64 (x50.1.1+1))<((r49.length:Nat):Int)))&&(decide (x19.1.1>0))) then(req (inb x50.1.1 y53.length) (Option.bind (at? r49 (w64 (x50.1.1+1))) fun d54 =>
 req (decide (0≤(w64 ((32:Int)-x19.1.1)))) (req (inb x50.1.1 y53.length) (Option.bind (some (getD' y53 ((x50.1.1).toNat) (0:Int))) fun e55 =>
 Option.bind (some (y53.set ((x50.1.1).toNat) (ior .u32 (getD' y53 ((x50.1.1).toNat) (0:Int)) (shK .shl .u32 d54 (w64 ((32:Int)-x19.1.1)))))) fun y56 =>
 some ((),(y56,()))))))
 else some ((),(y53,()))) fun x57 =>
 some (Sum.inl (((w64 (x50.1.1+1)),()),(x57.2.1,()))))))
 else some (Sum.inr ((),(x50.2.1,())))
def qci (n:List Int) (m:List Int):Option Zv50 :=
 Option.bind (qeO n m) fun r12 =>
 bif (decide (r12<0)) then(Option.bind (qbf n) fun r13 =>
 some (([]:List Int),(r13,())))
 else bif (((m.length:Nat):Int)==1) then(Option.bind (at? m (0:Int)) fun d14 =>
 Option.bind (qdU n d14) fun r15 =>
 Option.bind (qet (wu64 r15.2.1)) fun r16 =>
 some (r15.1,(r16,())))
 else Option.bind (iterW (qbu m) (((0:Int),()),())) fun x19 =>
 Option.bind (qiq n x19.1.1) fun r20 =>
 Option.bind (qiq m x19.1.1) fun r21 =>
 Option.bind (qce r21) fun r22 =>
 req (decide (0≤(w64 (((r20.length:Nat):Int)-((r22.length:Nat):Int))))&&((w64 (((r20.length:Nat):Int)-((r22.length:Nat):Int)))==(w64 (((r20.length:Nat):Int)-((r22.length:Nat):Int)))&&room ((w64 (((r20.length:Nat):Int)-((r22.length:Nat):Int)))).toNat 4)) (Option.bind (iterW (qbo r22) (((w64 ((w64 (((r20.length:Nat):Int)-((r22.length:Nat):Int)))-1)),()),(r20,(List.replicate ((w64 (((r20.length:Nat):Int)-((r22.length:Nat):Int)))).toNat (0:Int)),()))) fun x48 =>
 req (qh (0:Int) ((r22.length:Nat):Int) x48.2.1.length) (Option.bind (qce ((x48.2.1.take (((r22.length:Nat):Int)).toNat).drop 0)) fun r49 =>
 req (decide (0≤((r49.length:Nat):Int))&&(((r49.length:Nat):Int)==((r49.length:Nat):Int)&&room (((r49.length:Nat):Int)).toNat 4)) (Option.bind (iterW (qcb r49 x19) (((0:Int),()),((List.replicate (((r49.length:Nat):Int)).toNat (0:Int)),()))) fun x58 =>
 Option.bind (qce x48.2.2.1) fun r59 =>
 Option.bind (qce x58.2.1) fun r60 =>
 some (r59,(r60,())))))
def qdc (x1:Zv50×(Unit)):Option ((Zv50×(Unit)) ⊕ Zv56) :=
 bif (decide (((x1.1.2.1.length:Nat):Int)>0)) then(Option.bind (qci x1.1.1 x1.1.2.1) fun r2 =>
 some (Sum.inl ((x1.1.2.1,r2.2.1,()),())))
 else some (Sum.inr ((x1.1.1,()),()))
def qeV (n:List Int) (m:List Int):Option Zv73 :=
 Option.bind (iterW (qdc) ((n,m,()),())) fun x3 =>
 some x3.1.1
def qgD (n:List Int):Option (Bool) :=
 Option.bind (gat (((n.length:Nat):Int)==1) (0:Int) n (0:Int)) fun d2 =>
 some ((((n.length:Nat):Int)==1)&&(d2==1))
def qO (r:ByteArray):Option (Int) :=
 Option.bind (qaZ r (ByteArray.mk #[45])) fun r5 =>
 Option.bind (qb4 r5.1 (ByteArray.mk #[47])) fun r6 =>
 Option.bind (qeU r6.1) fun r7 =>
 Option.bind (gopt (r6.2.2.1&&(!(!r7))) false (qeU r6.2.1)) fun r8 =>
 bif (((!r7)||(r6.2.2.1&&(!r8)))||(r5.2.1&&(r6.1.toList==(ByteArray.mk #[48]).toList))) then some (5:Int)
 else bif ((decide (((r6.1.size:Nat):Int)>2000))||(decide (((r6.2.1.size:Nat):Int)>2000))) then some (2:Int)
 else Option.bind (bif r6.2.2.1 then(bif ((r6.2.1.toList==(ByteArray.mk #[48]).toList)||(r6.2.1.toList==(ByteArray.mk #[49]).toList)) then some ((true,()),())
 else Option.bind (qic r6.1) fun r9 =>
 Option.bind (qic r6.2.1) fun r10 =>
 Option.bind (qeV r9 r10) fun r11 =>
 Option.bind (qgD r11) fun r12 =>
 some (((!r12),()),()))
 else some ((false,()),())) fun x13 =>
 bif x13.1.1 then some (3:Int)
 else some (0:Int)
def qbO (l:List ByteArray) (x1:Zv72×(Unit)):Option (Zv66 ⊕ (Zv70 ⊕ Int)) :=
 bif (decide (x1.1.1<((l.length:Nat):Int))) then(Option.bind (at? l x1.1.1) fun d2 =>
 Option.bind (qO d2) fun r3 =>
 bif (r3 !=0) then some (Sum.inr (Sum.inr r3))
 else some (Sum.inl (((w64 (x1.1.1+1)),()),())))
 else some (Sum.inr (Sum.inl ((),())))
def qcK (l:List ByteArray):Option (Int) :=
 Option.bind (α:=Zv70 ⊕ Int) (iterW (qbO l) (((0:Int),()),())) (Sum.elim (fun x4 =>
 some (0:Int)) some)
def qbP (v:List ByteArray):Option (Int) :=
 bif (decide (((v.length:Nat):Int)>40)) then some (2:Int)
 else Option.bind (qcK v) fun r2 =>
 some r2
def qa8 (m:List Zv71) (x1:Zv72×(Unit)):Option (Zv66 ⊕ (Zv70 ⊕ Int)) :=
 bif (decide (x1.1.1<((m.length:Nat):Int))) then(Option.bind (at? m x1.1.1) fun d2 =>
 Option.bind (at? m (0:Int)) fun d3 =>
 bif (((d2.length:Nat):Int)!=((d3.length:Nat):Int)) then some (Sum.inr (Sum.inr (3:Int)))
 else Option.bind (qbP d2) fun r4 =>
 bif (r4 !=0) then some (Sum.inr (Sum.inr r4))
 else some (Sum.inl (((w64 (x1.1.1+1)),()),())))
 else some (Sum.inr (Sum.inl ((),())))
def qfe (m:List Zv71):Option (Int) :=
 bif (decide (((m.length:Nat):Int)>40)) then some (2:Int)
 else Option.bind (α:=Zv70 ⊕ Int) (iterW (qa8 m) (((0:Int),()),())) (Sum.elim (fun x5 =>
 some (0:Int)) some)
def qd4 (m:List Zv71):Option (Int) :=
 bif (((m.length:Nat):Int)==0) then some (0:Int)
 else Option.bind (at? m (0:Int)) fun d2 =>
 some ((d2.length:Nat):Int)
def qaO (m:List Zv71):Option (Int) :=
 bif (decide (((m.length:Nat):Int)>12)) then some (2:Int)
 else Option.bind (qfe m) fun r4 =>
 bif (r4 !=0) then some r4
 else Option.bind (qd4 m) fun r5 =>
 bif (r5==0) then some (8:Int)
 else Option.bind (qd4 m) fun r6 =>
 bif (decide (r6>12)) then some (2:Int)
 else some (0:Int)
def qnv (neg:Bool) (abs:List Int):Option Zv59 :=
 some ((neg&&(decide (((abs.length:Nat):Int)>0))),(abs,()))
def qaa (neg:Bool) (abs:List Int):Bool×Zv73×Unit :=
 ((neg&&(decide (((abs.length:Nat):Int)>0))),(abs,()))
theorem qvo (neg:Bool) (abs:List Int):qnv neg abs=some (qaa neg abs):=by
 unfold qnv qaa
 first | rfl | simp only[qW]
def qau (s:ByteArray):Option Zv34 :=
 Option.bind (qaZ s (ByteArray.mk #[45])) fun r4 =>
 Option.bind (qb4 r4.1 (ByteArray.mk #[47])) fun r5 =>
 Option.bind (qic r5.1) fun r6 =>
 Option.bind (bif r5.2.2.1 then(Option.bind (qic r5.2.1) fun r7 =>
 some ((),(((qaa r4.2.1 r6).1,(((qaa r4.2.1 r6).2).1,(r7,()))),())))
 else some ((),(((qaa r4.2.1 r6).1,(((qaa r4.2.1 r6).2).1,([(1:Int)],()))),()))) fun x8 =>
 some ((x8.2.1.1,(x8.2.1.2.1,())),x8.2.1.2.2)
def qbE (x2:(Zv73×Zv71×Unit)×(Unit)):Option (((Zv73×Zv71×Unit)×(Unit)) ⊕ Zv47) :=
 bif (decide (((x2.1.1.length:Nat):Int)>0)) then(Option.bind (qdU x2.1.1 (1000000000:Int)) fun r3 =>
 Option.bind (itoaS (w64 r3.2.1)) fun r4 =>
 Option.bind (bif (decide (((r3.1.length:Nat):Int)>0)) then(Option.bind (qkl (ByteArray.mk #[48]) (w64 ((9:Int)-((r4.size:Nat):Int)))) fun r5 =>
 req (qcF r5 r4) (some (((r5++r4),()),())))
 else some ((r4,()),())) fun x6 =>
 req (room (x2.1.2.1.length+([x6.1.1]).length) 16) (some (Sum.inl ((r3.1,(x2.1.2.1++[x6.1.1]),()),()))))
 else some (Sum.inr ((x2.1.2.1,()),()))
def qby (x8:Zv69×Zv62):Option ((Zv69×Zv62) ⊕ ((Unit)×Zv62)) :=
 bif (decide (x8.1.1<x8.1.2.1)) then(req (inb x8.1.2.1 x8.2.1.length) (req (inb x8.1.1 x8.2.1.length) (req (inb x8.1.1 x8.2.1.length) (Option.bind (some (getD' x8.2.1 ((x8.1.1).toNat) ByteArray.empty)) fun e9 =>
 Option.bind (some (x8.2.1.set ((x8.1.1).toNat) (getD' x8.2.1 ((x8.1.2.1).toNat) ByteArray.empty))) fun y10 =>
 req (inb x8.1.2.1 y10.length) (Option.bind (some (getD' y10 ((x8.1.2.1).toNat) ByteArray.empty)) fun e11 =>
 Option.bind (some (y10.set ((x8.1.2.1).toNat) (getD' x8.2.1 ((x8.1.1).toNat) ByteArray.empty))) fun y12 =>
 some (Sum.inl (((w64 (x8.1.1+1)),(w64 (x8.1.2.1-1)),()),(y12,()))))))))
 else some (Sum.inr ((),(x8.2.1,())))
def qbG (n:List Int):Option (ByteArray) :=
 bif (((n.length:Nat):Int)==0) then some (ByteArray.mk #[48])
 else Option.bind (iterW (qbE) ((n,([]:List ByteArray),()),())) fun x7 =>
 Option.bind (iterW (qby) (((0:Int),(w64 (((x7.1.1.length:Nat):Int)-1)),()),(x7.1.1,()))) fun x13 =>
 Option.bind (joinS x13.2.1 (ByteArray.mk #[])) fun r14 =>
 some r14
def qqe (q:Zv59×Zv73×Unit) (most:Int):Option (Bool) :=
 bif (decide ((if ((q.2.1.length:Nat):Int)>((q.1.2.1.length:Nat):Int) then((q.2.1.length:Nat):Int) else((q.1.2.1.length:Nat):Int))>(w64 ((w64 (most.tdiv 9))+2)))) then some false
 else Option.bind (qbG q.1.2.1) fun r3 =>
 Option.bind (gopt (decide (((r3.size:Nat):Int)≤most)) ByteArray.empty (qbG q.2.1)) fun r4 =>
 some ((decide (((r3.size:Nat):Int)≤most))&&(decide (((r4.size:Nat):Int)≤most)))
def qlZ (q:Zv59×Zv73×Unit):Option (ByteArray) :=
 Option.bind (qbG q.1.2.1) fun r3 =>
 Option.bind (bif q.1.1 then req (qcF (ByteArray.mk #[45]) r3) (some ((((ByteArray.mk #[45])++r3),()),()))
 else some ((r3,()),())) fun x4 =>
 Option.bind (qgD q.2.1) fun r5 =>
 Option.bind (bif (!r5) then(Option.bind (qbG q.2.1) fun r6 =>
 req (qcF (ByteArray.mk #[47]) r6) (req (qcF x4.1.1 ((ByteArray.mk #[47])++r6)) (some (((x4.1.1++((ByteArray.mk #[47])++r6)),()),()))))
 else some ((x4.1.1,()),())) fun x7 =>
 some x7.1.1
def qjc (q:Zv59×Zv73×Unit):Option Zv65 :=
 Option.bind (qqe q (2000:Int)) fun r3 =>
 bif (!r3) then some ((ByteArray.mk #[]),((2:Int),()))
 else Option.bind (qlZ q) fun r4 =>
 some (r4,((0:Int),()))
def qcd (m:List Int) (x2:Zv72×Zv68) (d3:Int) (x4:Zv69×Zv68):Option (Zv39 ⊕ Zv46) :=
 bif (decide (x4.1.2.1<((m.length:Nat):Int))) then(Option.bind (at? m x4.1.2.1) fun d5 =>
 req (inb (w64 (x2.1.1+x4.1.2.1)) x4.2.1.length) (req (inb (w64 (x2.1.1+x4.1.2.1)) x4.2.1.length) (Option.bind (some (getD' x4.2.1 (((w64 (x2.1.1+x4.1.2.1))).toNat) (0:Int))) fun e6 =>
 Option.bind (some (x4.2.1.set (((w64 (x2.1.1+x4.1.2.1))).toNat) (IntKind.wrap .u32 (wu64 (x4.1.1+(wu64 ((wu64 ((wu64 d3)*(wu64 d5)))+(wu64 (getD' x4.2.1 (((w64 (x2.1.1+x4.1.2.1))).toNat) (0:Int)))))))))) fun y7 =>
 some (Sum.inl (((shK .shr .u64 (wu64 (x4.1.1+(wu64 ((wu64 ((wu64 d3)*(wu64 d5)))+(wu64 (getD' x4.2.1 (((w64 (x2.1.1+x4.1.2.1))).toNat) (0:Int))))))) (32:Int)),(w64 (x4.1.2.1+1)),()),(y7,()))))))
 else some (Sum.inr ((x4.1.1,()),(x4.2.1,())))
def qb7 (n:List Int) (m:List Int) (x2:Zv72×Zv68):Option (Zv46 ⊕ Zv57) :=
 bif (decide (x2.1.1<((n.length:Nat):Int))) then(Option.bind (Option.bind (at? n x2.1.1) fun d3 =>
 Option.bind (iterW (qcd m x2 d3) (((0:Int),(0:Int),()),(x2.2.1,()))) fun x8 =>
 req (inb (w64 (x2.1.1+((m.length:Nat):Int))) x8.2.1.length) (Option.bind (some (getD' x8.2.1 (((w64 (x2.1.1+((m.length:Nat):Int)))).toNat) (0:Int))) fun e9 =>
 Option.bind (some (x8.2.1.set (((w64 (x2.1.1+((m.length:Nat):Int)))).toNat) (IntKind.wrap .u32 x8.1.1))) fun y10 =>
 some ((),(y10,())))) fun x11 =>
 some (Sum.inl (((w64 (x2.1.1+1)),()),(x11.2.1,()))))
 else some (Sum.inr ((),(x2.2.1,())))
def qdR (n:List Int) (m:List Int):Option Zv73 :=
 req (decide (0≤(w64 (((n.length:Nat):Int)+((m.length:Nat):Int))))&&((w64 (((n.length:Nat):Int)+((m.length:Nat):Int)))==(w64 (((n.length:Nat):Int)+((m.length:Nat):Int)))&&room ((w64 (((n.length:Nat):Int)+((m.length:Nat):Int)))).toNat 4)) (Option.bind (iterW (qb7 n m) (((0:Int),()),((List.replicate ((w64 (((n.length:Nat):Int)+((m.length:Nat):Int)))).toNat (0:Int)),()))) fun x12 =>
 Option.bind (qce x12.2.1) fun r13 =>
 some r13)
def qo (a:Bool×Zv73×Unit) (b:Bool×Zv73×Unit):Option Zv59 :=
 Option.bind (qdR a.2.1 b.2.1) fun r2 =>
 some (qaa (!(a.1==b.1)) r2)
def qay (x2:Zv50×(Unit)) (x3:Zv52×(Unit)):Option (Zv38 ⊕ Zv45) :=
 bif (decide (x3.1.2.2.1<((x2.1.1.length:Nat):Int))) then(Option.bind (at? x2.1.1 x3.1.2.2.1) fun d4 =>
 Option.bind (bif (decide (x3.1.2.2.1<((x2.1.2.1.length:Nat):Int))) then(Option.bind (at? x2.1.2.1 x3.1.2.2.1) fun d5 =>
 some (((wu64 ((wu64 (x3.1.2.1+(wu64 d4)))+(wu64 d5))),()),()))
 else some (((wu64 (x3.1.2.1+(wu64 d4))),()),())) fun x6 =>
 req (room (x3.1.1.length+([(IntKind.wrap .u32 x6.1.1)]).length) 4) (some (Sum.inl (((x3.1.1++[(IntKind.wrap .u32 x6.1.1)]),(shK .shr .u64 x6.1.1 (32:Int)),(w64 (x3.1.2.2.1+1)),()),()))))
 else some (Sum.inr ((x3.1.1,x3.1.2.1,()),()))
def qiO (n:List Int) (m:List Int):Option Zv73 :=
 Option.bind (bif (decide (((n.length:Nat):Int)<((m.length:Nat):Int))) then some ((m,n,()),())
 else some ((n,m,()),())) fun x2 =>
 req (decide (0≤(w64 (((x2.1.1.length:Nat):Int)+1)))&&room ((w64 (((x2.1.1.length:Nat):Int)+1))).toNat 4) (Option.bind (iterW (qay x2) ((([]:List (Int)),(0:Int),(0:Int),()),())) fun x7 =>
 req (room (x7.1.1.length+([(IntKind.wrap .u32 x7.1.2.1)]).length) 4) (Option.bind (qce (x7.1.1++[(IntKind.wrap .u32 x7.1.2.1)])) fun r8 =>
 some r8))
def qb6 (n:List Int) (m:List Int) (x2:Zv52×(Unit)):Option (Zv38 ⊕ Zv56) :=
 bif (decide (x2.1.2.2.1<((n.length:Nat):Int))) then(Option.bind (at? n x2.1.2.2.1) fun d3 =>
 Option.bind (bif (decide (x2.1.2.2.1<((m.length:Nat):Int))) then(Option.bind (at? m x2.1.2.2.1) fun d4 =>
 some (((w64 ((w64 ((w64 d3)-x2.1.2.1))-(w64 d4))),()),()))
 else some (((w64 ((w64 d3)-x2.1.2.1)),()),())) fun x5 =>
 Option.bind (bif (decide (x5.1.1<0)) then some (((1:Int),(w64 (x5.1.1+4294967296)),()),())
 else some (((0:Int),x5.1.1,()),())) fun x6 =>
 req (room (x2.1.1.length+([(IntKind.wrap .u32 x6.1.2.1)]).length) 4) (some (Sum.inl (((x2.1.1++[(IntKind.wrap .u32 x6.1.2.1)]),x6.1.1,(w64 (x2.1.2.2.1+1)),()),()))))
 else some (Sum.inr ((x2.1.1,()),()))
def qgw (n:List Int) (m:List Int):Option Zv73 :=
 req (decide (0≤((n.length:Nat):Int))&&room (((n.length:Nat):Int)).toNat 4) (Option.bind (iterW (qb6 n m) ((([]:List (Int)),(0:Int),(0:Int),()),())) fun x7 =>
 Option.bind (qce x7.1.1) fun r8 =>
 some r8)
def qeF (a:Bool×Zv73×Unit) (b:Bool×Zv73×Unit):Option Zv59 :=
 bif (a.1==b.1) then(Option.bind (qiO a.2.1 b.2.1) fun r5 =>
 some (qaa a.1 r5))
 else Option.bind (qeO a.2.1 b.2.1) fun r6 =>
 bif (decide (r6≥0)) then(Option.bind (qgw a.2.1 b.2.1) fun r7 =>
 some (qaa a.1 r7))
 else Option.bind (qgw b.2.1 a.2.1) fun r8 =>
 some (qaa b.1 r8)
def qZ (n:Bool×Zv73×Unit) (d:Bool×Zv73×Unit):Option Zv34 :=
 Option.bind (qeV n.2.1 d.2.1) fun r4 =>
 Option.bind (qci n.2.1 r4) fun r5 =>
 Option.bind (qci d.2.1 r4) fun r6 =>
 some ((qaa (!(n.1==d.1)) r5.1),(r6.1,()))
def qie (q:Zv59×Zv73×Unit) (r:Zv59×Zv73×Unit):Option Zv34 :=
 Option.bind (qo q.1 (false,r.2)) fun r6 =>
 Option.bind (qo r.1 (false,q.2)) fun r7 =>
 Option.bind (qeF r6 r7) fun r8 =>
 Option.bind (qdR q.2.1 r.2.1) fun r9 =>
 Option.bind (qZ r8 (false,(r9,()))) fun r10 =>
 some r10
def qga (a:ByteArray) (b:ByteArray):Option Zv65 :=
 Option.bind (Option.bind (qcK ([a,b])) fun r1 =>
 bif (r1 !=0) then some (((ByteArray.mk #[]),r1,()),())
 else Option.bind (qau a) fun r2 =>
 Option.bind (qau b) fun r3 =>
 Option.bind (qie r2 r3) fun r4 =>
 Option.bind (qjc r4) fun r5 =>
 some ((r5.1,r5.2.1,()),())) fun x6 =>
 some (x6.1.1,(x6.1.2.1,()))
def qaH (d6:List ByteArray) (amount:ByteArray) (x7:Zv54×(Unit)):Option ((Zv54×(Unit)) ⊕ (Zv47 ⊕ (Zv37 ⊕ (Zv33 ⊕ (Zv37 ⊕ Zv43))))) :=
 bif (decide (x7.1.2.1<((d6.length:Nat):Int))) then(Option.bind (at? d6 x7.1.2.1) fun d8 =>
 Option.bind (qga d8 amount) fun r9 =>
 bif (r9.2.1 !=0) then some (Sum.inr (Sum.inr (Sum.inr (Sum.inr (Sum.inr (([]:List Zv71),r9.2))))))
 else req (room (x7.1.1.length+([r9.1]).length) 16) (some (Sum.inl (((x7.1.1++[r9.1]),(w64 (x7.1.2.1+1)),()),()))))
 else some (Sum.inr (Sum.inl ((x7.1.1,()),())))
def qbm (m:List Zv71) (amount:ByteArray) (x5:Zv43×(Unit)):Option (Zv33 ⊕ (Zv37 ⊕ Zv43)) :=
 bif (decide (x5.1.2.1<((m.length:Nat):Int))) then(Option.bind (α:=Zv37 ⊕ (Zv33 ⊕ (Zv37 ⊕ Zv43))) (Option.bind (at? m x5.1.2.1) fun d6 =>
 Option.bind (α:=Zv47 ⊕ (Zv37 ⊕ (Zv33 ⊕ (Zv37 ⊕ Zv43)))) (iterW (qaH d6 amount) ((([]:List ByteArray),(0:Int),()),())) (Sum.elim (fun x10 =>
 req (room (x5.1.1.length+([x10.1.1]).length) 24) (some (Sum.inl (((x5.1.1++[x10.1.1]),()),())))) some)) (Sum.elim (fun x11 =>
 some (Sum.inl ((x11.1.1,(w64 (x5.1.2.1+1)),()),()))) some))
 else some (Sum.inr (Sum.inl ((x5.1.1,()),())))
def qda (m:List Zv71) (amount:ByteArray):Option Zv43 :=
 Option.bind (qaO m) fun r3 =>
 bif (r3 !=0) then some (([]:List Zv71),(r3,()))
 else Option.bind (qO amount) fun r4 =>
 bif (r4 !=0) then some (([]:List Zv71),(r4,()))
 else Option.bind (α:=Zv37 ⊕ Zv43) (iterW (qbm m amount) ((([]:List Zv71),(0:Int),()),())) (Sum.elim (fun x12 =>
 some (x12.1.1,((0:Int),()))) some)
def ql3 (l:List ByteArray) (x1:Zv17×(Unit)):Option (Zv11 ⊕ Zv14) :=
 bif (decide (x1.1.2.1<((l.length:Nat):Int))) then(Option.bind (at? l x1.1.2.1) fun d2 =>
 Option.bind (qau d2) fun r3 =>
 req (room (x1.1.1.length+([r3]).length) 56) (some (Sum.inl (((x1.1.1++[r3]),(w64 (x1.1.2.1+1)),()),()))))
 else some (Sum.inr ((x1.1.1,()),()))
def ratIn (l:List ByteArray):Option Zv28 :=
 Option.bind (iterW (ql3 l) ((([]:List Zv34),(0:Int),()),())) fun x4 =>
 some x4.1.1
def qfa (m:List Zv71) (x1:Zv13×(Unit)):Option ((Zv13×(Unit)) ⊕ ((Zv22×Unit)×(Unit))) :=
 bif (decide (x1.1.2.1<((m.length:Nat):Int))) then(Option.bind (at? m x1.1.2.1) fun d2 =>
 Option.bind (ratIn d2) fun r3 =>
 req (room (x1.1.1.length+([r3]).length) 24) (some (Sum.inl (((x1.1.1++[r3]),(w64 (x1.1.2.1+1)),()),()))))
 else some (Sum.inr ((x1.1.1,()),()))
def qlP (m:List Zv71):Option Zv22 :=
 Option.bind (iterW (qfa m) ((([]:List Zv28),(0:Int),()),())) fun x4 =>
 some x4.1.1
def qia (a:Bool×Zv73×Unit):Option Zv59 :=
 some (qaa (!a.1) a.2.1)
def qbq (a:Bool×Zv73×Unit):Bool×Zv73×Unit :=
 (qaa (!a.1) a.2.1)
theorem qsd (a:Bool×Zv73×Unit):qia a=some (qbq a):=by
 unfold qia qbq
 first | rfl | simp only[qW]
def qge (a:Bool×Zv73×Unit) (b:Bool×Zv73×Unit):Option Zv59 :=
 Option.bind (qeF a (qbq b)) fun r2 =>
 some r2
def qgv (a:Bool×Zv73×Unit):Option (Int) :=
 bif (((a.2.1.length:Nat):Int)==0) then some (0:Int)
 else bif a.1 then some (-1:Int)
 else some (1:Int)
def qS (a:Bool×Zv73×Unit):Int :=
 bif (((a.2.1.length:Nat):Int)==0) then(0:Int)
 else bif a.1 then(-1:Int)
 else(1:Int)
theorem qpr (a:Bool×Zv73×Unit):qgv a=some (qS a):=by
 unfold qgv qS
 first | rfl | simp only[qW]
def qgM (a:Bool×Zv73×Unit) (b:Bool×Zv73×Unit):Option (Int) :=
 Option.bind (qge a b) fun r2 =>
 some (qS r2)
def qnm (q:Zv59×Zv73×Unit) (r:Zv59×Zv73×Unit):Option (Int) :=
 Option.bind (qo q.1 (false,r.2)) fun r4 =>
 Option.bind (qo r.1 (false,q.2)) fun r5 =>
 Option.bind (qgM r4 r5) fun r6 =>
 some r6
def qfu (n:Int):Option Zv59 :=
 bif (decide (n<0)) then(Option.bind (qet (wu64 ((wu64 (w64 (0-(w64 (n+1)))))+1))) fun r3 =>
 some (true,(r3,())))
 else Option.bind (qet (wu64 n)) fun r4 =>
 some (false,(r4,()))
def bigOf (n:Int):Option Zv34 :=
 Option.bind (qfu n) fun r2 =>
 some (r2,([(1:Int)],()))
def qnO (q:Zv59×Zv73×Unit):Option Zv34 :=
 some ((qbq q.1),q.2)
def qaW (q:Zv59×Zv73×Unit):Zv59×Zv73×Unit :=
 ((qbq q.1),q.2)
theorem qvx (q:Zv59×Zv73×Unit):qnO q=some (qaW q):=by
 unfold qnO qaW
 first | rfl | simp only[qW]
def qdJ (q:Zv59×Zv73×Unit) (r:Zv59×Zv73×Unit):Option Zv34 :=
 Option.bind (qie q ((((qaW r).1).1,((((qaW r).1).2).1,())),(((qaW r).2).1,()))) fun r2 =>
 some r2
def qkC (q:Zv59×Zv73×Unit):Option (Int) :=
 some (qS q.1)
def qhe (q:Zv59×Zv73×Unit):Int :=
 (qS q.1)
theorem qtF (q:Zv59×Zv73×Unit):qkC q=some (qhe q):=by
 unfold qkC qhe
 first | rfl | simp only[qW]
def qab (s:List Zv34):Option Zv28 :=
 bif (s.isEmpty) then(agree (some ([]:List Zv34)) (req (room (([]:List Zv34).length+s.length) 56) (some (([]:List Zv34)++s))))
 else req (room (([]:List Zv34).length+s.length) 56) (some (([]:List Zv34)++s))
def qa3 (row:List Zv34) (x3:Zv61×(Unit)):Option (Zv45 ⊕ Zv56) :=
 bif (decide (x3.1.2.1<((row.length:Nat):Int))) then(Option.bind (at? row x3.1.2.1) fun d4 =>
 Option.bind (qeV x3.1.1 d4.2.1) fun r5 =>
 Option.bind (qci d4.2.1 r5) fun r6 =>
 Option.bind (qdR x3.1.1 r6.1) fun r7 =>
 some (Sum.inl ((r7,(w64 (x3.1.2.1+1)),()),())))
 else some (Sum.inr ((x3.1.1,()),()))
def qa6 (row:List Zv34) (x8:Zv68×(Unit)) (x9:(Zv49×Int×Unit)×(Unit)):Option (((Zv49×Int×Unit)×(Unit)) ⊕ (Zv40×(Unit))) :=
 bif (decide (x9.1.2.1<((row.length:Nat):Int))) then(Option.bind (at? row x9.1.2.1) fun d10 =>
 Option.bind (qci x8.1.1 d10.2.1) fun r11 =>
 Option.bind (qo d10.1 (false,(r11.1,()))) fun r12 =>
 req (room (x9.1.1.length+([r12]).length) 32) (some (Sum.inl (((x9.1.1++[r12]),(w64 (x9.1.2.1+1)),()),()))))
 else some (Sum.inr ((x9.1.1,()),()))
def qfs (row:List Zv34):Option Zv29 :=
 Option.bind (qet (1:Int)) fun r2 =>
 Option.bind (iterW (qa3 row) ((r2,(0:Int),()),())) fun x8 =>
 Option.bind (iterW (qa6 row x8) ((([]:List Zv59),(0:Int),()),())) fun x13 =>
 some (x13.1.1,(x8.1.1,()))
def qah (row:List Zv34):Option Zv29 :=
 Option.bind (qfs row) fun r2 =>
 some (r2.1,r2.2)
def qcs (s:List Int) (v:Int) (x1:Zv72×(Unit)):Option (Zv66 ⊕ (Zv70 ⊕ Int)) :=
 bif (decide (x1.1.1<((s.length:Nat):Int))) then(Option.bind (at? s x1.1.1) fun d2 =>
 bif (v==d2) then some (Sum.inr (Sum.inr x1.1.1))
 else some (Sum.inl (((w64 (x1.1.1+1)),()),())))
 else some (Sum.inr (Sum.inl ((),())))
def qct (s:List Int) (v:Int):Option (Int) :=
 Option.bind (α:=Zv70 ⊕ Int) (iterW (qcs s v) (((0:Int),()),())) (Sum.elim (fun x3 =>
 some (-1:Int)) some)
def qfF (a:Bool×Zv73×Unit) (b:Bool×Zv73×Unit):Option Zv59 :=
 Option.bind (qci a.2.1 b.2.1) fun r2 =>
 some (qaa (!(a.1==b.1)) r2.1)
def qpv (q:Zv59×Zv73×Unit) (r:Zv59×Zv73×Unit):Option Zv34 :=
 Option.bind (qo q.1 r.1) fun r4 =>
 Option.bind (qdR q.2.1 r.2.1) fun r5 =>
 Option.bind (qZ r4 (false,(r5,()))) fun r6 =>
 some r6
def qaj (y:List Zv34) (factors:List Zv73) (x1:Zv17×(Unit)):Option (Zv11 ⊕ Zv14) :=
 bif (decide (x1.1.2.1<((y.length:Nat):Int))) then(Option.bind (at? y x1.1.2.1) fun d2 =>
 Option.bind (at? factors x1.1.2.1) fun d3 =>
 Option.bind (qet (1:Int)) fun r4 =>
 Option.bind (qpv d2 ((false,(d3,())),(r4,()))) fun r5 =>
 req (room (x1.1.1.length+([r5]).length) 56) (some (Sum.inl (((x1.1.1++[r5]),(w64 (x1.1.2.1+1)),()),()))))
 else some (Sum.inr ((x1.1.1,()),()))
def qn (y:List Zv34) (factors:List Zv73):Option Zv28 :=
 Option.bind (iterW (qaj y factors) ((([]:List Zv34),(0:Int),()),())) fun x6 =>
 some x6.1.1
def qbB (p:Zv22×Zv28×Zv28×Unit) (x4:Zv61×(Unit)):Option (Zv45 ⊕ Zv56) :=
 bif (decide (x4.1.2.1<((p.2.1.length:Nat):Int))) then(Option.bind (at? p.2.1 x4.1.2.1) fun d5 =>
 Option.bind (bif (decide ((qhe d5)<0)) then req (room (x4.1.1.length+([x4.1.2.1]).length) 8) (some (((x4.1.1++[x4.1.2.1]),()),()))
 else some ((x4.1.1,()),())) fun x6 =>
 some (Sum.inl ((x6.1.1,(w64 (x4.1.2.1+1)),()),())))
 else some (Sum.inr ((x4.1.1,()),()))
def qpI (y21:List Zv59) (x23:Zv72×Zv40):Option (Zv23 ⊕ Zv30) :=
 bif (decide (x23.1.1<((y21.length:Nat):Int))) then(req (inb x23.1.1 x23.2.1.length) (req (inb x23.1.1 x23.2.1.length) (Option.bind (some (getD' x23.2.1 ((x23.1.1).toNat) (false,([],())))) fun e24 =>
 Option.bind (some (x23.2.1.set ((x23.1.1).toNat) (qbq (getD' x23.2.1 ((x23.1.1).toNat) (false,([],())))))) fun y25 =>
 some (Sum.inl (((w64 (x23.1.1+1)),()),(y25,()))))))
 else some (Sum.inr ((),(x23.2.1,())))
def qbA (p:Zv22×Zv28×Zv28×Unit) (x7:Zv68×(Unit)) (x9:((List Zv73)×Int×Unit)×((List (Zv49×(Option (List Nat))))×((List Nat)×Bool×Zv73×Zv73×Int×Unit)×Unit)):Option ((((List Zv73)×Int×Unit)×((List (Zv49×(Option (List Nat))))×((List Nat)×Bool×Zv73×Zv73×Int×Unit)×Unit)) ⊕ (Zv60×((List (Zv49×(Option (List Nat))))×((List Nat)×Bool×Zv73×Zv73×Int×Unit)×Unit))) :=
 bif (decide (x9.1.2.1<((p.1.length:Nat):Int))) then(Option.bind (Option.bind (at? p.1 x9.1.2.1) fun d10 =>
 Option.bind (Option.bind (at? p.2.1 x9.1.2.1) fun d11 =>
 agree (Option.bind (qab d10) fun r12 =>
 req (room (r12.length+([d11]).length) 56) (Option.bind (qah (r12++[d11])) fun r13 =>
 some ((r13.1,r13.2.1,()),()))) (Option.bind (qab d10) fun r14 =>
 req (room (r14.length+([d11]).length) 56) (Option.bind (qah (r14++[d11])) fun r15 =>
 some ((r15.1,r15.2.1,()),())))) fun x16 =>
 req (room (x9.1.1.length+([x16.1.2.1]).length) 24) (req (decide (0≤(w64 ((w64 ((w64 (((p.2.2.1.length:Nat):Int)+((p.2.1.length:Nat):Int)))+((x7.1.1.length:Nat):Int)))+1)))&&((w64 ((w64 ((w64 (((p.2.2.1.length:Nat):Int)+((p.2.1.length:Nat):Int)))+((x7.1.1.length:Nat):Int)))+1))==(w64 ((w64 ((w64 (((p.2.2.1.length:Nat):Int)+((p.2.1.length:Nat):Int)))+((x7.1.1.length:Nat):Int)))+1))&&room ((w64 ((w64 ((w64 (((p.2.2.1.length:Nat):Int)+((p.2.1.length:Nat):Int)))+((x7.1.1.length:Nat):Int)))+1))).toNat 32)) (req (qh (0:Int) ((p.2.2.1.length:Nat):Int) x16.1.1.length) (req (Nat.blt 0 ((x16.1.1.take (((p.2.2.1.length:Nat):Int)).toNat).drop 0).length&&Nat.blt 0 ((List.replicate ((w64 ((w64 ((w64 (((p.2.2.1.length:Nat):Int)+((p.2.1.length:Nat):Int)))+((x7.1.1.length:Nat):Int)))+1))).toNat (false,(([]:List Int),()))).length)) (Option.bind (qfu (1:Int)) fun r17 =>
 req (inb (w64 (((p.2.2.1.length:Nat):Int)+x9.1.2.1)) ((List.replicate ((w64 ((w64 ((w64 (((p.2.2.1.length:Nat):Int)+((p.2.1.length:Nat):Int)))+((x7.1.1.length:Nat):Int)))+1))).toNat (false,(([]:List Int),()))).take 0++(((x16.1.1.take (((p.2.2.1.length:Nat):Int)).toNat).drop 0).take ((List.replicate ((w64 ((w64 ((w64 (((p.2.2.1.length:Nat):Int)+((p.2.1.length:Nat):Int)))+((x7.1.1.length:Nat):Int)))+1))).toNat (false,(([]:List Int),()))).length)++(List.replicate ((w64 ((w64 ((w64 (((p.2.2.1.length:Nat):Int)+((p.2.1.length:Nat):Int)))+((x7.1.1.length:Nat):Int)))+1))).toNat (false,(([]:List Int),()))).drop (0+(min ((x16.1.1.take (((p.2.2.1.length:Nat):Int)).toNat).drop 0).length (List.replicate ((w64 ((w64 ((w64 (((p.2.2.1.length:Nat):Int)+((p.2.1.length:Nat):Int)))+((x7.1.1.length:Nat):Int)))+1))).toNat (false,(([]:List Int),()))).length)))).length) (Option.bind (some (getD' ((List.replicate ((w64 ((w64 ((w64 (((p.2.2.1.length:Nat):Int)+((p.2.1.length:Nat):Int)))+((x7.1.1.length:Nat):Int)))+1))).toNat (false,(([]:List Int),()))).take 0++(((x16.1.1.take (((p.2.2.1.length:Nat):Int)).toNat).drop 0).take ((List.replicate ((w64 ((w64 ((w64 (((p.2.2.1.length:Nat):Int)+((p.2.1.length:Nat):Int)))+((x7.1.1.length:Nat):Int)))+1))).toNat (false,(([]:List Int),()))).length)++(List.replicate ((w64 ((w64 ((w64 (((p.2.2.1.length:Nat):Int)+((p.2.1.length:Nat):Int)))+((x7.1.1.length:Nat):Int)))+1))).toNat (false,(([]:List Int),()))).drop (0+(min ((x16.1.1.take (((p.2.2.1.length:Nat):Int)).toNat).drop 0).length (List.replicate ((w64 ((w64 ((w64 (((p.2.2.1.length:Nat):Int)+((p.2.1.length:Nat):Int)))+((x7.1.1.length:Nat):Int)))+1))).toNat (false,(([]:List Int),()))).length)))) (((w64 (((p.2.2.1.length:Nat):Int)+x9.1.2.1))).toNat) (false,([],())))) fun e18 =>
 Option.bind (some (((List.replicate ((w64 ((w64 ((w64 (((p.2.2.1.length:Nat):Int)+((p.2.1.length:Nat):Int)))+((x7.1.1.length:Nat):Int)))+1))).toNat (false,(([]:List Int),()))).take 0++(((x16.1.1.take (((p.2.2.1.length:Nat):Int)).toNat).drop 0).take ((List.replicate ((w64 ((w64 ((w64 (((p.2.2.1.length:Nat):Int)+((p.2.1.length:Nat):Int)))+((x7.1.1.length:Nat):Int)))+1))).toNat (false,(([]:List Int),()))).length)++(List.replicate ((w64 ((w64 ((w64 (((p.2.2.1.length:Nat):Int)+((p.2.1.length:Nat):Int)))+((x7.1.1.length:Nat):Int)))+1))).toNat (false,(([]:List Int),()))).drop (0+(min ((x16.1.1.take (((p.2.2.1.length:Nat):Int)).toNat).drop 0).length (List.replicate ((w64 ((w64 ((w64 (((p.2.2.1.length:Nat):Int)+((p.2.1.length:Nat):Int)))+((x7.1.1.length:Nat):Int)))+1))).toNat (false,(([]:List Int),()))).length)))).set (((w64 (((p.2.2.1.length:Nat):Int)+x9.1.2.1))).toNat) r17)) fun y19 =>
 req (inb ((p.2.2.1.length:Nat):Int) x16.1.1.length) (req (inb (w64 (((y19.length:Nat):Int)-1)) y19.length) (Option.bind (some (getD' y19 (((w64 (((y19.length:Nat):Int)-1))).toNat) (false,([],())))) fun e20 =>
 Option.bind (some (y19.set (((w64 (((y19.length:Nat):Int)-1))).toNat) (getD' x16.1.1 ((((p.2.2.1.length:Nat):Int)).toNat) (false,([],()))))) fun y21 =>
 req (room (x9.2.2.1.2.2.2.1.length+([(w64 (((p.2.2.1.length:Nat):Int)+x9.1.2.1))]).length) 8) (Option.bind (qct x7.1.1 x9.1.2.1) fun r22 =>
 Option.bind (bif (decide (r22≥0)) then(Option.bind (iterW (qpI y21) (((0:Int),()),(y21,()))) fun x26 =>
 Option.bind (qfu (1:Int)) fun r27 =>
 req (inb (w64 ((w64 (((p.2.2.1.length:Nat):Int)+((p.2.1.length:Nat):Int)))+r22)) x26.2.1.length) (Option.bind (some (getD' x26.2.1 (((w64 ((w64 (((p.2.2.1.length:Nat):Int)+((p.2.1.length:Nat):Int)))+r22))).toNat) (false,([],())))) fun e28 =>
 Option.bind (some (x26.2.1.set (((w64 ((w64 (((p.2.2.1.length:Nat):Int)+((p.2.1.length:Nat):Int)))+r22))).toNat) r27)) fun y29 =>
 req (inb x9.1.2.1 (x9.2.2.1.2.2.2.1++[(w64 (((p.2.2.1.length:Nat):Int)+x9.1.2.1))]).length) (Option.bind (some (getD' (x9.2.2.1.2.2.2.1++[(w64 (((p.2.2.1.length:Nat):Int)+x9.1.2.1))]) ((x9.1.2.1).toNat) (0:Int))) fun e30 =>
 Option.bind (some ((x9.2.2.1.2.2.2.1++[(w64 (((p.2.2.1.length:Nat):Int)+x9.1.2.1))]).set ((x9.1.2.1).toNat) (w64 ((w64 (((p.2.2.1.length:Nat):Int)+((p.2.1.length:Nat):Int)))+r22)))) fun y31 =>
 some ((),(y29,y31,())))))
 else some ((),(y21,(x9.2.2.1.2.2.2.1++[(w64 (((p.2.2.1.length:Nat):Int)+x9.1.2.1))]),()))) fun x32 =>
 req (Nat.blt 0 x32.2.1.length) (Option.bind (some (addP x9.2.1 x32.2.1)) fun ns33 =>
 req (room (x9.2.2.1.1.length+([(x9.2.1.length+1)]).length) 24) (some (((x9.1.1++[x16.1.2.1]),()),(((x9.2.2.1.1++[(x9.2.1.length+1)]),(x9.2.2.1.2.1,(x9.2.2.1.2.2.1,(x32.2.2.1,x9.2.2.1.2.2.2.2)))),ns33,()))))))))))))) fun x34 =>
 some (Sum.inl ((x34.1.1,(w64 (x9.1.2.1+1)),()),(x34.2.2.1,(x34.2.1.1,(x34.2.1.2.1,(x34.2.1.2.2.1,(x34.2.1.2.2.2.1,x34.2.1.2.2.2.2)))),()))))
 else some (Sum.inr ((x9.1.1,()),(x9.2.1,(x9.2.2.1.1,(x9.2.2.1.2.1,(x9.2.2.1.2.2.1,(x9.2.2.1.2.2.2.1,x9.2.2.1.2.2.2.2)))),())))
def qbF (r36:Zv49×Zv73×Unit) (x35:Zv60×((List (Zv49×(Option (List Nat))))×((List Nat)×Bool×Zv73×Zv73×Int×Unit)×Unit)) (x37:Zv72×Zv40):Option (Zv23 ⊕ Zv30) :=
 bif (decide (x37.1.1<((r36.1.length:Nat):Int))) then(req (inb x37.1.1 r36.1.length) (Option.bind (qo (qbq (getD' r36.1 ((x37.1.1).toNat) (false,([],())))) (x35.2.2.1.2.1,(x35.2.2.1.2.2.1,()))) fun r38 =>
 req (inb x37.1.1 x37.2.1.length) (Option.bind (some (getD' x37.2.1 ((x37.1.1).toNat) (false,([],())))) fun e39 =>
 Option.bind (some (x37.2.1.set ((x37.1.1).toNat) r38)) fun y40 =>
 some (Sum.inl (((w64 (x37.1.1+1)),()),(y40,()))))))
 else some (Sum.inr ((),(x37.2.1,())))
def qpT (x42:Zv72×Zv40) (x35:Zv60×((List (Zv49×(Option (List Nat))))×((List Nat)×Bool×Zv73×Zv73×Int×Unit)×Unit)) (r36:Zv49×Zv73×Unit) (x43:Zv72×Zv40):Option (Zv23 ⊕ Zv30) :=
 bif (decide (x43.1.1<((x42.2.1.length:Nat):Int))) then(req (inb x43.1.1 x43.2.1.length) (req (inb (getD' x35.2.2.1.2.2.2.1 ((x42.1.1).toNat) (0:Int)) r36.1.length) (req (inb x42.1.1 x35.2.2.1.1.length) (req (inb x43.1.1 (lnP x35.2.1 (getD' x35.2.2.1.1 ((x42.1.1).toNat) (0:Nat)))) (Option.bind (qo (getD' r36.1 (((getD' x35.2.2.1.2.2.2.1 ((x42.1.1).toNat) (0:Int))).toNat) (false,([],()))) (getD' (ndP x35.2.1 [] (getD' x35.2.2.1.1 ((x42.1.1).toNat) (0:Nat))) ((x43.1.1).toNat) (false,([],())))) fun r44 =>
 Option.bind (qeF (getD' x43.2.1 ((x43.1.1).toNat) (false,([],()))) r44) fun r45 =>
 req (inb x43.1.1 x43.2.1.length) (Option.bind (some (getD' x43.2.1 ((x43.1.1).toNat) (false,([],())))) fun e46 =>
 Option.bind (some (x43.2.1.set ((x43.1.1).toNat) r45)) fun y47 =>
 some (Sum.inl (((w64 (x43.1.1+1)),()),(y47,())))))))))
 else some (Sum.inr ((),(x43.2.1,())))
def qbI (x35:Zv60×((List (Zv49×(Option (List Nat))))×((List Nat)×Bool×Zv73×Zv73×Int×Unit)×Unit)) (p:Zv22×Zv28×Zv28×Unit) (r36:Zv49×Zv73×Unit) (x42:Zv72×Zv40):Option (Zv23 ⊕ Zv30) :=
 bif (decide (x42.1.1<((x35.2.2.1.2.2.2.1.length:Nat):Int))) then(Option.bind (req (inb x42.1.1 x35.2.2.1.2.2.2.1.length) (req (imp (decide ((getD' x35.2.2.1.2.2.2.1 ((x42.1.1).toNat) (0:Int))<((p.2.2.1.length:Nat):Int))) (inb (getD' x35.2.2.1.2.2.2.1 ((x42.1.1).toNat) (0:Int)) r36.1.length)) (Option.bind (bif ((decide ((getD' x35.2.2.1.2.2.2.1 ((x42.1.1).toNat) (0:Int))<((p.2.2.1.length:Nat):Int)))&&((qS (getD' r36.1 (((getD' x35.2.2.1.2.2.2.1 ((x42.1.1).toNat) (0:Int))).toNat) (false,([],()))))!=0)) then(Option.bind (iterW (qpT x42 x35 r36) (((0:Int),()),(x42.2.1,()))) fun x48 =>
 some ((),(x48.2.1,())))
 else some ((),(x42.2.1,()))) fun x49 =>
 some ((),(x49.2.1,()))))) fun x50 =>
 some (Sum.inl (((w64 (x42.1.1+1)),()),(x50.2.1,()))))
 else some (Sum.inr ((),(x42.2.1,())))
def qaT (x53:(Unit)×(((List Nat)×Bool×Zv73×Zv73×Int×Unit)×(List (Zv49×(Option (List Nat))))×Unit)) (x54:Zv72×(Unit)):Option (Zv66 ⊕ Zv66) :=
 req (imp (decide (x54.1.1<x53.2.1.2.2.2.2.1)) (inb x54.1.1 (lnP x53.2.2.1 (getD' x53.2.1.1 (((w64 (((x53.2.1.1.length:Nat):Int)-1))).toNat) (0:Nat))))) (bif ((decide (x54.1.1<x53.2.1.2.2.2.2.1))&&(decide ((qS (getD' (ndP x53.2.2.1 [] (getD' x53.2.1.1 (((w64 (((x53.2.1.1.length:Nat):Int)-1))).toNat) (0:Nat))) ((x54.1.1).toNat) (false,([],()))))≥0))) then some (Sum.inl (((w64 (x54.1.1+1)),()),()))
 else some (Sum.inr ((x54.1.1,()),())))
def qV (x53:(Unit)×(((List Nat)×Bool×Zv73×Zv73×Int×Unit)×(List (Zv49×(Option (List Nat))))×Unit)) (x55:Zv72×(Unit)) (x56:Zv69×(Unit)):Option (Zv58 ⊕ Zv66) :=
 bif (decide (x56.1.2.1<((x53.2.1.2.2.2.1.length:Nat):Int))) then(Option.bind (req (inb x56.1.2.1 x53.2.1.1.length) (req (inb x55.1.1 (lnP x53.2.2.1 (getD' x53.2.1.1 ((x56.1.2.1).toNat) (0:Nat)))) (bif (decide ((qS (getD' (ndP x53.2.2.1 [] (getD' x53.2.1.1 ((x56.1.2.1).toNat) (0:Nat))) ((x55.1.1).toNat) (false,([],()))))≤0)) then some ((x56.1.1,()),())
 else bif (decide (x56.1.1<0)) then some ((x56.1.2.1,()),())
 else req (inb x56.1.2.1 x53.2.1.1.length) (req (inb (w64 (((lnP x53.2.2.1 (getD' x53.2.1.1 0 (0:Nat)):Nat):Int)-1)) (lnP x53.2.2.1 (getD' x53.2.1.1 ((x56.1.2.1).toNat) (0:Nat)))) (req (inb x56.1.1 x53.2.1.1.length) (req (inb x55.1.1 (lnP x53.2.2.1 (getD' x53.2.1.1 ((x56.1.1).toNat) (0:Nat)))) (req (inb x56.1.1 x53.2.1.1.length) (req (inb (w64 (((lnP x53.2.2.1 (getD' x53.2.1.1 0 (0:Nat)):Nat):Int)-1)) (lnP x53.2.2.1 (getD' x53.2.1.1 ((x56.1.1).toNat) (0:Nat)))) (Option.bind (qo (getD' (ndP x53.2.2.1 [] (getD' x53.2.1.1 ((x56.1.2.1).toNat) (0:Nat))) (((w64 (((lnP x53.2.2.1 (getD' x53.2.1.1 0 (0:Nat)):Nat):Int)-1))).toNat) (false,([],()))) (getD' (ndP x53.2.2.1 [] (getD' x53.2.1.1 ((x56.1.1).toNat) (0:Nat))) ((x55.1.1).toNat) (false,([],())))) fun r57 =>
 Option.bind (qo (getD' (ndP x53.2.2.1 [] (getD' x53.2.1.1 ((x56.1.1).toNat) (0:Nat))) (((w64 (((lnP x53.2.2.1 (getD' x53.2.1.1 0 (0:Nat)):Nat):Int)-1))).toNat) (false,([],()))) (getD' (ndP x53.2.2.1 [] (getD' x53.2.1.1 ((x56.1.2.1).toNat) (0:Nat))) ((x55.1.1).toNat) (false,([],())))) fun r58 =>
 Option.bind (qgM r57 r58) fun r59 =>
 req (imp ((r59==0)&&(!(decide (r59<0)))) (inb x56.1.2.1 x53.2.1.2.2.2.1.length)) (req (imp ((r59==0)&&(!(decide (r59<0)))) (inb x56.1.1 x53.2.1.2.2.2.1.length)) (Option.bind (bif ((decide (r59<0))||((r59==0)&&(decide ((getD' x53.2.1.2.2.2.1 ((x56.1.2.1).toNat) (0:Int))<(getD' x53.2.1.2.2.2.1 ((x56.1.1).toNat) (0:Int)))))) then some ((x56.1.2.1,()),())
 else some ((x56.1.1,()),())) fun x60 =>
 some ((x60.1.1,()),())))))))))))) fun x61 =>
 some (Sum.inl ((x61.1.1,(w64 (x56.1.2.1+1)),()),())))
 else some (Sum.inr ((x56.1.1,()),()))
def qba (x63:Zv72×((List (Zv49×(Option (List Nat))))×Unit)) (x53:(Unit)×(((List Nat)×Bool×Zv73×Zv73×Int×Unit)×(List (Zv49×(Option (List Nat))))×Unit)) (x62:Zv72×(Unit)) (x55:Zv72×(Unit)) (x64:Zv72×((List (Zv49×(Option (List Nat))))×Unit)):Option ((Zv72×((List (Zv49×(Option (List Nat))))×Unit)) ⊕ ((Unit)×((List (Zv49×(Option (List Nat))))×Unit))) :=
 bif (decide (x64.1.1<((lnP x63.2.1 (getD' x53.2.1.1 ((x63.1.1).toNat) (0:Nat)):Nat):Int))) then(req (inb x64.1.1 (lnP x64.2.1 (getD' x53.2.1.1 ((x63.1.1).toNat) (0:Nat)))) (req (inb x62.1.1 x53.2.1.1.length) (req (inb x64.1.1 (lnP x64.2.1 (getD' x53.2.1.1 ((x62.1.1).toNat) (0:Nat)))) (Option.bind (qo (getD' (ndP x64.2.1 [] (getD' x53.2.1.1 ((x63.1.1).toNat) (0:Nat))) ((x64.1.1).toNat) (false,([],()))) (getD' (ndP x53.2.2.1 [] (getD' x53.2.1.1 ((x62.1.1).toNat) (0:Nat))) ((x55.1.1).toNat) (false,([],())))) fun r65 =>
 Option.bind (qo (getD' (ndP x63.2.1 [] (getD' x53.2.1.1 ((x63.1.1).toNat) (0:Nat))) ((x55.1.1).toNat) (false,([],()))) (getD' (ndP x64.2.1 [] (getD' x53.2.1.1 ((x62.1.1).toNat) (0:Nat))) ((x64.1.1).toNat) (false,([],())))) fun r66 =>
 Option.bind (qge r65 r66) fun r67 =>
 Option.bind (qfF r67 (x53.2.1.2.1,(x53.2.1.2.2.1,()))) fun r68 =>
 req (inb x64.1.1 (lnP x64.2.1 (getD' x53.2.1.1 ((x63.1.1).toNat) (0:Nat)))) (Option.bind (some (setP x64.2.1 [] (getD' x53.2.1.1 ((x63.1.1).toNat) (0:Nat)) ((ndP x64.2.1 [] (getD' x53.2.1.1 ((x63.1.1).toNat) (0:Nat))).set ((x64.1.1).toNat) r68))) fun ns69 =>
 some (Sum.inl (((w64 (x64.1.1+1)),()),(ns69,()))))))))
 else some (Sum.inr ((),(x64.2.1,())))
def qT (x53:(Unit)×(((List Nat)×Bool×Zv73×Zv73×Int×Unit)×(List (Zv49×(Option (List Nat))))×Unit)) (x62:Zv72×(Unit)) (x55:Zv72×(Unit)) (x63:Zv72×((List (Zv49×(Option (List Nat))))×Unit)):Option ((Zv72×((List (Zv49×(Option (List Nat))))×Unit)) ⊕ ((Unit)×((List (Zv49×(Option (List Nat))))×Unit))) :=
 bif (decide (x63.1.1<((x53.2.1.1.length:Nat):Int))) then(Option.bind (req (inb x63.1.1 x53.2.1.1.length) (bif (x63.1.1==x62.1.1) then some ((),(x63.2.1,()))
 else req (inb x55.1.1 (lnP x63.2.1 (getD' x53.2.1.1 ((x63.1.1).toNat) (0:Nat)))) (Option.bind (iterW (qba x63 x53 x62 x55) (((0:Int),()),(x63.2.1,()))) fun x70 =>
 some ((),(x70.2.1,()))))) fun x71 =>
 some (Sum.inl (((w64 (x63.1.1+1)),()),(x71.2.1,()))))
 else some (Sum.inr ((),(x63.2.1,())))
def qoe (x73:Zv72×((List (Zv49×(Option (List Nat))))×Unit)) (x53:(Unit)×(((List Nat)×Bool×Zv73×Zv73×Int×Unit)×(List (Zv49×(Option (List Nat))))×Unit)) (x74:Zv72×((List (Zv49×(Option (List Nat))))×Unit)):Option ((Zv72×((List (Zv49×(Option (List Nat))))×Unit)) ⊕ ((Unit)×((List (Zv49×(Option (List Nat))))×Unit))) :=
 bif (decide (x74.1.1<((lnP x73.2.1 (getD' x53.2.1.1 ((x73.1.1).toNat) (0:Nat)):Nat):Int))) then(req (inb x74.1.1 (lnP x74.2.1 (getD' x53.2.1.1 ((x73.1.1).toNat) (0:Nat)))) (req (inb x74.1.1 (lnP x74.2.1 (getD' x53.2.1.1 ((x73.1.1).toNat) (0:Nat)))) (Option.bind (some (setP x74.2.1 [] (getD' x53.2.1.1 ((x73.1.1).toNat) (0:Nat)) ((ndP x74.2.1 [] (getD' x53.2.1.1 ((x73.1.1).toNat) (0:Nat))).set ((x74.1.1).toNat) (qbq (getD' (ndP x74.2.1 [] (getD' x53.2.1.1 ((x73.1.1).toNat) (0:Nat))) ((x74.1.1).toNat) (false,([],()))))))) fun ns75 =>
 some (Sum.inl (((w64 (x74.1.1+1)),()),(ns75,()))))))
 else some (Sum.inr ((),(x74.2.1,())))
def qoa (x53:(Unit)×(((List Nat)×Bool×Zv73×Zv73×Int×Unit)×(List (Zv49×(Option (List Nat))))×Unit)) (x73:Zv72×((List (Zv49×(Option (List Nat))))×Unit)):Option ((Zv72×((List (Zv49×(Option (List Nat))))×Unit)) ⊕ ((Unit)×((List (Zv49×(Option (List Nat))))×Unit))) :=
 bif (decide (x73.1.1<((x53.2.1.1.length:Nat):Int))) then(Option.bind (req (inb x73.1.1 x53.2.1.1.length) (Option.bind (iterW (qoe x73 x53) (((0:Int),()),(x73.2.1,()))) fun x76 =>
 some ((),(x76.2.1,())))) fun x77 =>
 some (Sum.inl (((w64 (x73.1.1+1)),()),(x77.2.1,()))))
 else some (Sum.inr ((),(x73.2.1,())))
def qaf (x53:(Unit)×(((List Nat)×Bool×Zv73×Zv73×Int×Unit)×(List (Zv49×(Option (List Nat))))×Unit)):Option (((Unit)×(((List Nat)×Bool×Zv73×Zv73×Int×Unit)×(List (Zv49×(Option (List Nat))))×Unit)) ⊕ (Zv72×(((List Nat)×Bool×Zv73×Zv73×Int×Unit)×(List (Zv49×(Option (List Nat))))×Unit))) :=
 Option.bind (α:=((Unit)×(((List Nat)×Bool×Zv73×Zv73×Int×Unit)×(List (Zv49×(Option (List Nat))))×Unit)) ⊕ (((Unit)×(((List Nat)×Bool×Zv73×Zv73×Int×Unit)×(List (Zv49×(Option (List Nat))))×Unit)) ⊕ (Zv72×(((List Nat)×Bool×Zv73×Zv73×Int×Unit)×(List (Zv49×(Option (List Nat))))×Unit)))) (req (inb (w64 (((x53.2.1.1.length:Nat):Int)-1)) x53.2.1.1.length) (Option.bind (iterW (qaT x53) (((0:Int),()),())) fun x55 =>
 bif (x55.1.1==x53.2.1.2.2.2.2.1) then some (Sum.inr (Sum.inr (((-1:Int),()),((x53.2.1.1,(x53.2.1.2.1,(x53.2.1.2.2.1,(x53.2.1.2.2.2.1,x53.2.1.2.2.2.2)))),x53.2.2.1,()))))
 else req (inb (0:Int) x53.2.1.1.length) (Option.bind (iterW (qV x53 x55) (((-1:Int),(0:Int),()),())) fun x62 =>
 bif (decide (x62.1.1<0)) then some (Sum.inr (Sum.inr ((x55.1.1,()),((x53.2.1.1,(x53.2.1.2.1,(x53.2.1.2.2.1,(x53.2.1.2.2.2.1,x53.2.1.2.2.2.2)))),x53.2.2.1,()))))
 else req (inb x62.1.1 x53.2.1.1.length) (req (inb x55.1.1 (lnP x53.2.2.1 (getD' x53.2.1.1 ((x62.1.1).toNat) (0:Nat)))) (Option.bind (iterW (qT x53 x62 x55) (((0:Int),()),(x53.2.2.1,()))) fun x72 =>
 Option.bind (bif (decide ((qS (getD' (ndP x53.2.2.1 [] (getD' x53.2.1.1 ((x62.1.1).toNat) (0:Nat))) ((x55.1.1).toNat) (false,([],()))))<0)) then(Option.bind (iterW (qoa x53) (((0:Int),()),(x72.2.1,()))) fun x78 =>
 some ((),((qbq (getD' (ndP x53.2.2.1 [] (getD' x53.2.1.1 ((x62.1.1).toNat) (0:Nat))) ((x55.1.1).toNat) (false,([],())))),x78.2.1,())))
 else some ((),((getD' (ndP x53.2.2.1 [] (getD' x53.2.1.1 ((x62.1.1).toNat) (0:Nat))) ((x55.1.1).toNat) (false,([],()))),x72.2.1,()))) fun x79 =>
 req (inb x62.1.1 x53.2.1.2.2.2.1.length) (Option.bind (some (getD' x53.2.1.2.2.2.1 ((x62.1.1).toNat) (0:Int))) fun e80 =>
 Option.bind (some (x53.2.1.2.2.2.1.set ((x62.1.1).toNat) x55.1.1)) fun y81 =>
 some (Sum.inl ((),((x53.2.1.1,(x79.2.1.1,(x79.2.1.2.1,(y81,x53.2.1.2.2.2.2)))),x79.2.2.1,()))))))))) (Sum.elim (fun x82 =>
 some (Sum.inl ((),((x82.2.1.1,(x82.2.1.2.1,(x82.2.1.2.2.1,(x82.2.1.2.2.2.1,x82.2.1.2.2.2.2)))),x82.2.2.1,())))) some)
def qm (p:Zv22×Zv28×Zv28×Unit) (x84:Zv72×Zv21):Option (Zv12 ⊕ Zv15) :=
 bif (decide (x84.1.1<(((List.replicate (((p.2.2.1.length:Nat):Int)).toNat ((false,(([]:List Int),())),(([]:List Int),()))).length:Nat):Int))) then(Option.bind (bigOf (0:Int)) fun r85 =>
 req (inb x84.1.1 x84.2.1.length) (Option.bind (some (getD' x84.2.1 ((x84.1.1).toNat) ((false,([],())),([],())))) fun e86 =>
 Option.bind (some (x84.2.1.set ((x84.1.1).toNat) (r85.1,(r85.2.1,())))) fun y87 =>
 some (Sum.inl (((w64 (x84.1.1+1)),()),(y87,())))))
 else some (Sum.inr ((),(x84.2.1,())))
def qk (x83:Zv72×(((List Nat)×Bool×Zv73×Zv73×Int×Unit)×(List (Zv49×(Option (List Nat))))×Unit)) (p:Zv22×Zv28×Zv28×Unit) (x89:Zv72×Zv21):Option (Zv12 ⊕ Zv15) :=
 bif (decide (x89.1.1<((x83.2.1.2.2.2.1.length:Nat):Int))) then(req (inb x89.1.1 x83.2.1.2.2.2.1.length) (Option.bind (bif (decide ((getD' x83.2.1.2.2.2.1 ((x89.1.1).toNat) (0:Int))<((p.2.2.1.length:Nat):Int))) then(Option.bind (at? ((x83.2.1.1.take (((p.2.1.length:Nat):Int)).toNat).drop 0) x89.1.1) fun d90 =>
 Option.bind (at? ((x83.2.1.1.take (((p.2.1.length:Nat):Int)).toNat).drop 0) x89.1.1) fun d91 =>
 req (inb (w64 (((lnP x83.2.2.1 d91:Nat):Int)-1)) (lnP x83.2.2.1 d90)) (Option.bind (qZ (getD' (ndP x83.2.2.1 [] d90) (((w64 (((lnP x83.2.2.1 d91:Nat):Int)-1))).toNat) (false,([],()))) (x83.2.1.2.1,(x83.2.1.2.2.1,()))) fun r92 =>
 req (inb (getD' x83.2.1.2.2.2.1 ((x89.1.1).toNat) (0:Int)) x89.2.1.length) (Option.bind (some (getD' x89.2.1 (((getD' x83.2.1.2.2.2.1 ((x89.1.1).toNat) (0:Int))).toNat) ((false,([],())),([],())))) fun e93 =>
 Option.bind (some (x89.2.1.set (((getD' x83.2.1.2.2.2.1 ((x89.1.1).toNat) (0:Int))).toNat) r92)) fun y94 =>
 some ((),(y94,())))))
 else some ((),(x89.2.1,()))) fun x95 =>
 some (Sum.inl (((w64 (x89.1.1+1)),()),(x95.2.1,())))))
 else some (Sum.inr ((),(x89.2.1,())))
def qa9 (p:Zv22×Zv28×Zv28×Unit) (x83:Zv72×(((List Nat)×Bool×Zv73×Zv73×Int×Unit)×(List (Zv49×(Option (List Nat))))×Unit)) (r36:Zv49×Zv73×Unit) (x97:Zv17×(Unit)):Option (Zv11 ⊕ Zv14) :=
 bif (decide (x97.1.2.1<((p.2.1.length:Nat):Int))) then(req (inb (w64 (((p.2.2.1.length:Nat):Int)+x97.1.2.1)) (lnP x83.2.2.1 (getD' x83.2.1.1 ((((p.2.1.length:Nat):Int)).toNat) (0:Nat)))) (Option.bind (qo (x83.2.1.2.1,(x83.2.1.2.2.1,())) (false,r36.2)) fun r98 =>
 Option.bind (qZ (getD' (ndP x83.2.2.1 [] (getD' x83.2.1.1 ((((p.2.1.length:Nat):Int)).toNat) (0:Nat))) (((w64 (((p.2.2.1.length:Nat):Int)+x97.1.2.1))).toNat) (false,([],()))) r98) fun r99 =>
 req (room (x97.1.1.length+([r99]).length) 56) (some (Sum.inl (((x97.1.1++[r99]),(w64 (x97.1.2.1+1)),()),())))))
 else some (Sum.inr ((x97.1.1,()),()))
def qhg (p:Zv22×Zv28×Zv28×Unit):Option (Int×Zv28×Zv28×Zv28×Zv34×Unit) :=
 Option.bind (iterW (qbB p) ((([]:List Int),(0:Int),()),())) fun x7 =>
 Option.bind (qfu (1:Int)) fun r8 =>
 Option.bind (iterW (qbA p x7) ((([]:List Zv73),(0:Int),()),(([]:List (Zv49×(Option (List Nat)))),(([]:List Nat),(r8.1,(r8.2.1,(([]:List Int),((w64 (((p.2.2.1.length:Nat):Int)+((p.2.1.length:Nat):Int))),()))))),()))) fun x35 =>
 bif (decide (((x7.1.1.length:Nat):Int)>0)) then none
 else Option.bind (qah p.2.2.1) fun r36 =>
 req (decide (0≤(w64 ((w64 ((w64 (((p.2.2.1.length:Nat):Int)+((p.2.1.length:Nat):Int)))+((x7.1.1.length:Nat):Int)))+1)))&&((w64 ((w64 ((w64 (((p.2.2.1.length:Nat):Int)+((p.2.1.length:Nat):Int)))+((x7.1.1.length:Nat):Int)))+1))==(w64 ((w64 ((w64 (((p.2.2.1.length:Nat):Int)+((p.2.1.length:Nat):Int)))+((x7.1.1.length:Nat):Int)))+1))&&room ((w64 ((w64 ((w64 (((p.2.2.1.length:Nat):Int)+((p.2.1.length:Nat):Int)))+((x7.1.1.length:Nat):Int)))+1))).toNat 32)) (Option.bind (iterW (qbF r36 x35) (((0:Int),()),((List.replicate ((w64 ((w64 ((w64 (((p.2.2.1.length:Nat):Int)+((p.2.1.length:Nat):Int)))+((x7.1.1.length:Nat):Int)))+1))).toNat (false,(([]:List Int),()))),()))) fun x41 =>
 Option.bind (iterW (qbI x35 p r36) (((0:Int),()),(x41.2.1,()))) fun x51 =>
 req (Nat.blt 0 x51.2.1.length) (Option.bind (some (addP x35.2.1 x51.2.1)) fun ns52 =>
 req (room (x35.2.2.1.1.length+([(x35.2.1.length+1)]).length) 24) (Option.bind (iterW (qaf) ((),(((x35.2.2.1.1++[(x35.2.1.length+1)]),(x35.2.2.1.2.1,(x35.2.2.1.2.2.1,(x35.2.2.1.2.2.2.1,x35.2.2.1.2.2.2.2)))),ns52,()))) fun x83 =>
 req (inb ((p.2.1.length:Nat):Int) x83.2.1.1.length) (req (qh (0:Int) ((p.2.1.length:Nat):Int) x83.2.1.1.length) (bif (decide (x83.1.1≥0)) then(req (decide (0≤((p.2.2.1.length:Nat):Int))&&(((p.2.2.1.length:Nat):Int)==((p.2.2.1.length:Nat):Int)&&room (((p.2.2.1.length:Nat):Int)).toNat 56)) (Option.bind (iterW (qm p) (((0:Int),()),((List.replicate (((p.2.2.1.length:Nat):Int)).toNat ((false,(([]:List Int),())),(([]:List Int),()))),()))) fun x88 =>
 Option.bind (iterW (qk x83 p) (((0:Int),()),(x88.2.1,()))) fun x96 =>
 none))
 else Option.bind (iterW (qa9 p x83 r36) ((([]:List Zv34),(0:Int),()),())) fun x100 =>
 Option.bind (req (inb (w64 (((lnP x83.2.2.1 (getD' x83.2.1.1 ((((p.2.1.length:Nat):Int)).toNat) (0:Nat)):Nat):Int)-1)) (lnP x83.2.2.1 (getD' x83.2.1.1 ((((p.2.1.length:Nat):Int)).toNat) (0:Nat)))) (agree (req (decide (0≤((p.2.2.1.length:Nat):Int))&&(((p.2.2.1.length:Nat):Int)==((p.2.2.1.length:Nat):Int)&&room (((p.2.2.1.length:Nat):Int)).toNat 56)) (Option.bind (iterW (qm p) (((0:Int),()),((List.replicate (((p.2.2.1.length:Nat):Int)).toNat ((false,(([]:List Int),())),(([]:List Int),()))),()))) fun x105 =>
 Option.bind (iterW (qk x83 p) (((0:Int),()),(x105.2.1,()))) fun x113 =>
 Option.bind (qn x100.1.1 x35.1.1) fun r114 =>
 Option.bind (qo (x83.2.1.2.1,(x83.2.1.2.2.1,())) (false,r36.2)) fun r115 =>
 Option.bind (qZ (getD' (ndP x83.2.2.1 [] (getD' x83.2.1.1 ((((p.2.1.length:Nat):Int)).toNat) (0:Nat))) (((w64 (((lnP x83.2.2.1 (getD' x83.2.1.1 ((((p.2.1.length:Nat):Int)).toNat) (0:Nat)):Nat):Int)-1))).toNat) (false,([],()))) r115) fun r116 =>
 some ((),(((0:Int),(x113.2.1,(r114,(([]:List Zv34),(r116.1.1,(r116.1.2.1,r116.2)))))),())))) (agree (agree (req (decide (0≤((p.2.2.1.length:Nat):Int))&&(((p.2.2.1.length:Nat):Int)==((p.2.2.1.length:Nat):Int)&&room (((p.2.2.1.length:Nat):Int)).toNat 56)) (Option.bind (iterW (qm p) (((0:Int),()),((List.replicate (((p.2.2.1.length:Nat):Int)).toNat ((false,(([]:List Int),())),(([]:List Int),()))),()))) fun x121 =>
 Option.bind (iterW (qk x83 p) (((0:Int),()),(x121.2.1,()))) fun x129 =>
 Option.bind (qn x100.1.1 x35.1.1) fun r130 =>
 Option.bind (qo (x83.2.1.2.1,(x83.2.1.2.2.1,())) (false,r36.2)) fun r131 =>
 Option.bind (qZ (getD' (ndP x83.2.2.1 [] (getD' x83.2.1.1 ((((p.2.1.length:Nat):Int)).toNat) (0:Nat))) (((w64 (((lnP x83.2.2.1 (getD' x83.2.1.1 ((((p.2.1.length:Nat):Int)).toNat) (0:Nat)):Nat):Int)-1))).toNat) (false,([],()))) r131) fun r132 =>
 some ((),(((0:Int),(x129.2.1,(r130,(([]:List Zv34),(r132.1.1,(r132.1.2.1,r132.2)))))),())))) (agree (agree (req (decide (0≤((p.2.2.1.length:Nat):Int))&&(((p.2.2.1.length:Nat):Int)==((p.2.2.1.length:Nat):Int)&&room (((p.2.2.1.length:Nat):Int)).toNat 56)) (Option.bind (iterW (qm p) (((0:Int),()),((List.replicate (((p.2.2.1.length:Nat):Int)).toNat ((false,(([]:List Int),())),(([]:List Int),()))),()))) fun x137 =>
 Option.bind (iterW (qk x83 p) (((0:Int),()),(x137.2.1,()))) fun x145 =>
 Option.bind (qn x100.1.1 x35.1.1) fun r146 =>
 Option.bind (qo (x83.2.1.2.1,(x83.2.1.2.2.1,())) (false,r36.2)) fun r147 =>
 Option.bind (qZ (getD' (ndP x83.2.2.1 [] (getD' x83.2.1.1 ((((p.2.1.length:Nat):Int)).toNat) (0:Nat))) (((w64 (((lnP x83.2.2.1 (getD' x83.2.1.1 ((((p.2.1.length:Nat):Int)).toNat) (0:Nat)):Nat):Int)-1))).toNat) (false,([],()))) r147) fun r148 =>
 some ((),(((0:Int),(x145.2.1,(r146,(([]:List Zv34),(r148.1.1,(r148.1.2.1,r148.2)))))),())))) (req (decide (0≤((p.2.2.1.length:Nat):Int))&&(((p.2.2.1.length:Nat):Int)==((p.2.2.1.length:Nat):Int)&&room (((p.2.2.1.length:Nat):Int)).toNat 56)) (Option.bind (iterW (qm p) (((0:Int),()),((List.replicate (((p.2.2.1.length:Nat):Int)).toNat ((false,(([]:List Int),())),(([]:List Int),()))),()))) fun x153 =>
 Option.bind (iterW (qk x83 p) (((0:Int),()),(x153.2.1,()))) fun x161 =>
 Option.bind (qn x100.1.1 x35.1.1) fun r162 =>
 Option.bind (qo (x83.2.1.2.1,(x83.2.1.2.2.1,())) (false,r36.2)) fun r163 =>
 Option.bind (qZ (getD' (ndP x83.2.2.1 [] (getD' x83.2.1.1 ((((p.2.1.length:Nat):Int)).toNat) (0:Nat))) (((w64 (((lnP x83.2.2.1 (getD' x83.2.1.1 ((((p.2.1.length:Nat):Int)).toNat) (0:Nat)):Nat):Int)-1))).toNat) (false,([],()))) r163) fun r164 =>
 some ((),(((0:Int),(x161.2.1,(r162,(([]:List Zv34),(r164.1.1,(r164.1.2.1,r164.2)))))),()))))) (agree (req (decide (0≤((p.2.2.1.length:Nat):Int))&&(((p.2.2.1.length:Nat):Int)==((p.2.2.1.length:Nat):Int)&&room (((p.2.2.1.length:Nat):Int)).toNat 56)) (Option.bind (iterW (qm p) (((0:Int),()),((List.replicate (((p.2.2.1.length:Nat):Int)).toNat ((false,(([]:List Int),())),(([]:List Int),()))),()))) fun x169 =>
 Option.bind (iterW (qk x83 p) (((0:Int),()),(x169.2.1,()))) fun x177 =>
 Option.bind (qn x100.1.1 x35.1.1) fun r178 =>
 Option.bind (qo (x83.2.1.2.1,(x83.2.1.2.2.1,())) (false,r36.2)) fun r179 =>
 Option.bind (qZ (getD' (ndP x83.2.2.1 [] (getD' x83.2.1.1 ((((p.2.1.length:Nat):Int)).toNat) (0:Nat))) (((w64 (((lnP x83.2.2.1 (getD' x83.2.1.1 ((((p.2.1.length:Nat):Int)).toNat) (0:Nat)):Nat):Int)-1))).toNat) (false,([],()))) r179) fun r180 =>
 some ((),(((0:Int),(x177.2.1,(r178,(([]:List Zv34),(r180.1.1,(r180.1.2.1,r180.2)))))),())))) (req (decide (0≤((p.2.2.1.length:Nat):Int))&&(((p.2.2.1.length:Nat):Int)==((p.2.2.1.length:Nat):Int)&&room (((p.2.2.1.length:Nat):Int)).toNat 56)) (Option.bind (iterW (qm p) (((0:Int),()),((List.replicate (((p.2.2.1.length:Nat):Int)).toNat ((false,(([]:List Int),())),(([]:List Int),()))),()))) fun x185 =>
 Option.bind (iterW (qk x83 p) (((0:Int),()),(x185.2.1,()))) fun x193 =>
 Option.bind (qn x100.1.1 x35.1.1) fun r194 =>
 Option.bind (qo (x83.2.1.2.1,(x83.2.1.2.2.1,())) (false,r36.2)) fun r195 =>
 Option.bind (qZ (getD' (ndP x83.2.2.1 [] (getD' x83.2.1.1 ((((p.2.1.length:Nat):Int)).toNat) (0:Nat))) (((w64 (((lnP x83.2.2.1 (getD' x83.2.1.1 ((((p.2.1.length:Nat):Int)).toNat) (0:Nat)):Nat):Int)-1))).toNat) (false,([],()))) r195) fun r196 =>
 some ((),(((0:Int),(x193.2.1,(r194,(([]:List Zv34),(r196.1.1,(r196.1.2.1,r196.2)))))),()))))))) (agree (agree (req (decide (0≤((p.2.2.1.length:Nat):Int))&&(((p.2.2.1.length:Nat):Int)==((p.2.2.1.length:Nat):Int)&&room (((p.2.2.1.length:Nat):Int)).toNat 56)) (Option.bind (iterW (qm p) (((0:Int),()),((List.replicate (((p.2.2.1.length:Nat):Int)).toNat ((false,(([]:List Int),())),(([]:List Int),()))),()))) fun x201 =>
 Option.bind (iterW (qk x83 p) (((0:Int),()),(x201.2.1,()))) fun x209 =>
 Option.bind (qn x100.1.1 x35.1.1) fun r210 =>
 Option.bind (qo (x83.2.1.2.1,(x83.2.1.2.2.1,())) (false,r36.2)) fun r211 =>
 Option.bind (qZ (getD' (ndP x83.2.2.1 [] (getD' x83.2.1.1 ((((p.2.1.length:Nat):Int)).toNat) (0:Nat))) (((w64 (((lnP x83.2.2.1 (getD' x83.2.1.1 ((((p.2.1.length:Nat):Int)).toNat) (0:Nat)):Nat):Int)-1))).toNat) (false,([],()))) r211) fun r212 =>
 some ((),(((0:Int),(x209.2.1,(r210,(([]:List Zv34),(r212.1.1,(r212.1.2.1,r212.2)))))),())))) (agree (agree (req (decide (0≤((p.2.2.1.length:Nat):Int))&&(((p.2.2.1.length:Nat):Int)==((p.2.2.1.length:Nat):Int)&&room (((p.2.2.1.length:Nat):Int)).toNat 56)) (Option.bind (iterW (qm p) (((0:Int),()),((List.replicate (((p.2.2.1.length:Nat):Int)).toNat ((false,(([]:List Int),())),(([]:List Int),()))),()))) fun x217 =>
 Option.bind (iterW (qk x83 p) (((0:Int),()),(x217.2.1,()))) fun x225 =>
 Option.bind (qn x100.1.1 x35.1.1) fun r226 =>
 Option.bind (qo (x83.2.1.2.1,(x83.2.1.2.2.1,())) (false,r36.2)) fun r227 =>
 Option.bind (qZ (getD' (ndP x83.2.2.1 [] (getD' x83.2.1.1 ((((p.2.1.length:Nat):Int)).toNat) (0:Nat))) (((w64 (((lnP x83.2.2.1 (getD' x83.2.1.1 ((((p.2.1.length:Nat):Int)).toNat) (0:Nat)):Nat):Int)-1))).toNat) (false,([],()))) r227) fun r228 =>
 some ((),(((0:Int),(x225.2.1,(r226,(([]:List Zv34),(r228.1.1,(r228.1.2.1,r228.2)))))),())))) (req (decide (0≤((p.2.2.1.length:Nat):Int))&&(((p.2.2.1.length:Nat):Int)==((p.2.2.1.length:Nat):Int)&&room (((p.2.2.1.length:Nat):Int)).toNat 56)) (Option.bind (iterW (qm p) (((0:Int),()),((List.replicate (((p.2.2.1.length:Nat):Int)).toNat ((false,(([]:List Int),())),(([]:List Int),()))),()))) fun x233 =>
 Option.bind (iterW (qk x83 p) (((0:Int),()),(x233.2.1,()))) fun x241 =>
 Option.bind (qn x100.1.1 x35.1.1) fun r242 =>
 Option.bind (qo (x83.2.1.2.1,(x83.2.1.2.2.1,())) (false,r36.2)) fun r243 =>
 Option.bind (qZ (getD' (ndP x83.2.2.1 [] (getD' x83.2.1.1 ((((p.2.1.length:Nat):Int)).toNat) (0:Nat))) (((w64 (((lnP x83.2.2.1 (getD' x83.2.1.1 ((((p.2.1.length:Nat):Int)).toNat) (0:Nat)):Nat):Int)-1))).toNat) (false,([],()))) r243) fun r244 =>
 some ((),(((0:Int),(x241.2.1,(r242,(([]:List Zv34),(r244.1.1,(r244.1.2.1,r244.2)))))),()))))) (agree (req (decide (0≤((p.2.2.1.length:Nat):Int))&&(((p.2.2.1.length:Nat):Int)==((p.2.2.1.length:Nat):Int)&&room (((p.2.2.1.length:Nat):Int)).toNat 56)) (Option.bind (iterW (qm p) (((0:Int),()),((List.replicate (((p.2.2.1.length:Nat):Int)).toNat ((false,(([]:List Int),())),(([]:List Int),()))),()))) fun x249 =>
 Option.bind (iterW (qk x83 p) (((0:Int),()),(x249.2.1,()))) fun x257 =>
 Option.bind (qn x100.1.1 x35.1.1) fun r258 =>
 Option.bind (qo (x83.2.1.2.1,(x83.2.1.2.2.1,())) (false,r36.2)) fun r259 =>
 Option.bind (qZ (getD' (ndP x83.2.2.1 [] (getD' x83.2.1.1 ((((p.2.1.length:Nat):Int)).toNat) (0:Nat))) (((w64 (((lnP x83.2.2.1 (getD' x83.2.1.1 ((((p.2.1.length:Nat):Int)).toNat) (0:Nat)):Nat):Int)-1))).toNat) (false,([],()))) r259) fun r260 =>
 some ((),(((0:Int),(x257.2.1,(r258,(([]:List Zv34),(r260.1.1,(r260.1.2.1,r260.2)))))),())))) (req (decide (0≤((p.2.2.1.length:Nat):Int))&&(((p.2.2.1.length:Nat):Int)==((p.2.2.1.length:Nat):Int)&&room (((p.2.2.1.length:Nat):Int)).toNat 56)) (Option.bind (iterW (qm p) (((0:Int),()),((List.replicate (((p.2.2.1.length:Nat):Int)).toNat ((false,(([]:List Int),())),(([]:List Int),()))),()))) fun x265 =>
 Option.bind (iterW (qk x83 p) (((0:Int),()),(x265.2.1,()))) fun x273 =>
 Option.bind (qn x100.1.1 x35.1.1) fun r274 =>
 Option.bind (qo (x83.2.1.2.1,(x83.2.1.2.2.1,())) (false,r36.2)) fun r275 =>
 Option.bind (qZ (getD' (ndP x83.2.2.1 [] (getD' x83.2.1.1 ((((p.2.1.length:Nat):Int)).toNat) (0:Nat))) (((w64 (((lnP x83.2.2.1 (getD' x83.2.1.1 ((((p.2.1.length:Nat):Int)).toNat) (0:Nat)):Nat):Int)-1))).toNat) (false,([],()))) r275) fun r276 =>
 some ((),(((0:Int),(x273.2.1,(r274,(([]:List Zv34),(r276.1.1,(r276.1.2.1,r276.2)))))),()))))))) (agree (req (decide (0≤((p.2.2.1.length:Nat):Int))&&(((p.2.2.1.length:Nat):Int)==((p.2.2.1.length:Nat):Int)&&room (((p.2.2.1.length:Nat):Int)).toNat 56)) (Option.bind (iterW (qm p) (((0:Int),()),((List.replicate (((p.2.2.1.length:Nat):Int)).toNat ((false,(([]:List Int),())),(([]:List Int),()))),()))) fun x281 =>
 Option.bind (iterW (qk x83 p) (((0:Int),()),(x281.2.1,()))) fun x289 =>
 Option.bind (qn x100.1.1 x35.1.1) fun r290 =>
 Option.bind (qo (x83.2.1.2.1,(x83.2.1.2.2.1,())) (false,r36.2)) fun r291 =>
 Option.bind (qZ (getD' (ndP x83.2.2.1 [] (getD' x83.2.1.1 ((((p.2.1.length:Nat):Int)).toNat) (0:Nat))) (((w64 (((lnP x83.2.2.1 (getD' x83.2.1.1 ((((p.2.1.length:Nat):Int)).toNat) (0:Nat)):Nat):Int)-1))).toNat) (false,([],()))) r291) fun r292 =>
 some ((),(((0:Int),(x289.2.1,(r290,(([]:List Zv34),(r292.1.1,(r292.1.2.1,r292.2)))))),())))) (agree (agree (req (decide (0≤((p.2.2.1.length:Nat):Int))&&(((p.2.2.1.length:Nat):Int)==((p.2.2.1.length:Nat):Int)&&room (((p.2.2.1.length:Nat):Int)).toNat 56)) (Option.bind (iterW (qm p) (((0:Int),()),((List.replicate (((p.2.2.1.length:Nat):Int)).toNat ((false,(([]:List Int),())),(([]:List Int),()))),()))) fun x297 =>
 Option.bind (iterW (qk x83 p) (((0:Int),()),(x297.2.1,()))) fun x305 =>
 Option.bind (qn x100.1.1 x35.1.1) fun r306 =>
 Option.bind (qo (x83.2.1.2.1,(x83.2.1.2.2.1,())) (false,r36.2)) fun r307 =>
 Option.bind (qZ (getD' (ndP x83.2.2.1 [] (getD' x83.2.1.1 ((((p.2.1.length:Nat):Int)).toNat) (0:Nat))) (((w64 (((lnP x83.2.2.1 (getD' x83.2.1.1 ((((p.2.1.length:Nat):Int)).toNat) (0:Nat)):Nat):Int)-1))).toNat) (false,([],()))) r307) fun r308 =>
 some ((),(((0:Int),(x305.2.1,(r306,(([]:List Zv34),(r308.1.1,(r308.1.2.1,r308.2)))))),())))) (req (decide (0≤((p.2.2.1.length:Nat):Int))&&(((p.2.2.1.length:Nat):Int)==((p.2.2.1.length:Nat):Int)&&room (((p.2.2.1.length:Nat):Int)).toNat 56)) (Option.bind (iterW (qm p) (((0:Int),()),((List.replicate (((p.2.2.1.length:Nat):Int)).toNat ((false,(([]:List Int),())),(([]:List Int),()))),()))) fun x313 =>
 Option.bind (iterW (qk x83 p) (((0:Int),()),(x313.2.1,()))) fun x321 =>
 Option.bind (qn x100.1.1 x35.1.1) fun r322 =>
 Option.bind (qo (x83.2.1.2.1,(x83.2.1.2.2.1,())) (false,r36.2)) fun r323 =>
 Option.bind (qZ (getD' (ndP x83.2.2.1 [] (getD' x83.2.1.1 ((((p.2.1.length:Nat):Int)).toNat) (0:Nat))) (((w64 (((lnP x83.2.2.1 (getD' x83.2.1.1 ((((p.2.1.length:Nat):Int)).toNat) (0:Nat)):Nat):Int)-1))).toNat) (false,([],()))) r323) fun r324 =>
 some ((),(((0:Int),(x321.2.1,(r322,(([]:List Zv34),(r324.1.1,(r324.1.2.1,r324.2)))))),()))))) (agree (req (decide (0≤((p.2.2.1.length:Nat):Int))&&(((p.2.2.1.length:Nat):Int)==((p.2.2.1.length:Nat):Int)&&room (((p.2.2.1.length:Nat):Int)).toNat 56)) (Option.bind (iterW (qm p) (((0:Int),()),((List.replicate (((p.2.2.1.length:Nat):Int)).toNat ((false,(([]:List Int),())),(([]:List Int),()))),()))) fun x329 =>
 Option.bind (iterW (qk x83 p) (((0:Int),()),(x329.2.1,()))) fun x337 =>
 Option.bind (qn x100.1.1 x35.1.1) fun r338 =>
 Option.bind (qo (x83.2.1.2.1,(x83.2.1.2.2.1,())) (false,r36.2)) fun r339 =>
 Option.bind (qZ (getD' (ndP x83.2.2.1 [] (getD' x83.2.1.1 ((((p.2.1.length:Nat):Int)).toNat) (0:Nat))) (((w64 (((lnP x83.2.2.1 (getD' x83.2.1.1 ((((p.2.1.length:Nat):Int)).toNat) (0:Nat)):Nat):Int)-1))).toNat) (false,([],()))) r339) fun r340 =>
 some ((),(((0:Int),(x337.2.1,(r338,(([]:List Zv34),(r340.1.1,(r340.1.2.1,r340.2)))))),())))) (req (decide (0≤((p.2.2.1.length:Nat):Int))&&(((p.2.2.1.length:Nat):Int)==((p.2.2.1.length:Nat):Int)&&room (((p.2.2.1.length:Nat):Int)).toNat 56)) (Option.bind (iterW (qm p) (((0:Int),()),((List.replicate (((p.2.2.1.length:Nat):Int)).toNat ((false,(([]:List Int),())),(([]:List Int),()))),()))) fun x345 =>
 Option.bind (iterW (qk x83 p) (((0:Int),()),(x345.2.1,()))) fun x353 =>
 Option.bind (qn x100.1.1 x35.1.1) fun r354 =>
 Option.bind (qo (x83.2.1.2.1,(x83.2.1.2.2.1,())) (false,r36.2)) fun r355 =>
 Option.bind (qZ (getD' (ndP x83.2.2.1 [] (getD' x83.2.1.1 ((((p.2.1.length:Nat):Int)).toNat) (0:Nat))) (((w64 (((lnP x83.2.2.1 (getD' x83.2.1.1 ((((p.2.1.length:Nat):Int)).toNat) (0:Nat)):Nat):Int)-1))).toNat) (false,([],()))) r355) fun r356 =>
 some ((),(((0:Int),(x353.2.1,(r354,(([]:List Zv34),(r356.1.1,(r356.1.2.1,r356.2)))))),()))))))))))) fun x357 =>
 some (x357.2.1.1,(x357.2.1.2.1,(x357.2.1.2.2.1,(x357.2.1.2.2.2.1,(((x357.2.1.2.2.2.2.1,(x357.2.1.2.2.2.2.2.1,())),x357.2.1.2.2.2.2.2.2),()))))))))))
def qh6 (q:Zv59×Zv73×Unit) (r:Zv59×Zv73×Unit):Option Zv34 :=
 Option.bind (qo q.1 (false,r.2)) fun r4 =>
 Option.bind (qo r.1 (false,q.2)) fun r5 =>
 Option.bind (qZ r4 r5) fun r6 =>
 some r6
def qa1 (d11:List Zv34) (x12:Zv72×Zv35):Option (Zv20 ⊕ Zv24) :=
 bif (decide (x12.1.1<((d11.length:Nat):Int))) then(Option.bind (at? d11 x12.1.1) fun d13 =>
 Option.bind (qnm d13 ((x12.2.1.1,(x12.2.1.2.1,())),x12.2.1.2.2)) fun r14 =>
 Option.bind (bif (decide (r14<0)) then some ((),((d13.1.1,(d13.1.2.1,d13.2)),()))
 else some ((),(x12.2.1,()))) fun x15 =>
 some (Sum.inl (((w64 (x12.1.1+1)),()),(x15.2.1,()))))
 else some (Sum.inr ((),(x12.2.1,())))
def qaz (m:List Zv28) (x10:Zv72×Zv35):Option (Zv20 ⊕ Zv24) :=
 bif (decide (x10.1.1<((m.length:Nat):Int))) then(Option.bind (Option.bind (at? m x10.1.1) fun d11 =>
 Option.bind (iterW (qa1 d11) (((0:Int),()),(x10.2.1,()))) fun x16 =>
 some ((),(x16.2.1,()))) fun x17 =>
 some (Sum.inl (((w64 (x10.1.1+1)),()),(x17.2.1,()))))
 else some (Sum.inr ((),(x10.2.1,())))
def qa5 (d26:List Zv34) (x24:Zv27×(Unit)) (x27:Zv17×(Unit)):Option (Zv11 ⊕ Zv14) :=
 bif (decide (x27.1.2.1<((d26.length:Nat):Int))) then(Option.bind (at? d26 x27.1.2.1) fun d28 =>
 Option.bind (qie d28 x24.1.1) fun r29 =>
 req (room (x27.1.1.length+([r29]).length) 56) (some (Sum.inl (((x27.1.1++[r29]),(w64 (x27.1.2.1+1)),()),()))))
 else some (Sum.inr ((x27.1.1,()),()))
def qa7 (m:List Zv28) (x24:Zv27×(Unit)) (x25:Zv72×Zv9):Option (Zv5 ⊕ Zv8) :=
 bif (decide (x25.1.1<((m.length:Nat):Int))) then(Option.bind (Option.bind (at? m x25.1.1) fun d26 =>
 Option.bind (iterW (qa5 d26 x24) ((([]:List Zv34),(0:Int),()),())) fun x30 =>
 Option.bind (agree (agree (req (room (x25.2.1.1.length+([x30.1.1]).length) 24) (Option.bind (bigOf (1:Int)) fun r31 =>
 req (room (x25.2.1.2.1.length+([(r31.1,(r31.2.1,()))]).length) 56) (some ((),(((x25.2.1.1++[x30.1.1]),((x25.2.1.2.1++[(r31.1,(r31.2.1,()))]),(x25.2.1.2.2.1,()))),()))))) (req (room (x25.2.1.1.length+([x30.1.1]).length) 24) (Option.bind (bigOf (1:Int)) fun r32 =>
 req (room (x25.2.1.2.1.length+([(r32.1,(r32.2.1,()))]).length) 56) (some ((),(((x25.2.1.1++[x30.1.1]),((x25.2.1.2.1++[(r32.1,(r32.2.1,()))]),(x25.2.1.2.2.1,()))),())))))) (req (room (x25.2.1.1.length+([x30.1.1]).length) 24) (Option.bind (bigOf (1:Int)) fun r33 =>
 req (room (x25.2.1.2.1.length+([(r33.1,(r33.2.1,()))]).length) 56) (some ((),(((x25.2.1.1++[x30.1.1]),((x25.2.1.2.1++[(r33.1,(r33.2.1,()))]),(x25.2.1.2.2.1,()))),())))))) fun x34 =>
 some ((),((x34.2.1.1,(x34.2.1.2.1,(x34.2.1.2.2.1,()))),()))) fun x35 =>
 some (Sum.inl (((w64 (x25.1.1+1)),()),((x35.2.1.1,(x35.2.1.2.1,(x35.2.1.2.2.1,()))),()))))
 else some (Sum.inr ((),((x25.2.1.1,(x25.2.1.2.1,(x25.2.1.2.2.1,()))),())))
def qa4 (d37:List Zv34) (x38:Zv72×Zv9):Option (Zv5 ⊕ Zv8) :=
 bif (decide (x38.1.1<((d37.length:Nat):Int))) then(Option.bind (bigOf (1:Int)) fun r39 =>
 req (room (x38.2.1.2.2.1.length+([(r39.1,(r39.2.1,()))]).length) 56) (some (Sum.inl (((w64 (x38.1.1+1)),()),((x38.2.1.1,(x38.2.1.2.1,((x38.2.1.2.2.1++[(r39.1,(r39.2.1,()))]),()))),())))))
 else some (Sum.inr ((),((x38.2.1.1,(x38.2.1.2.1,(x38.2.1.2.2.1,()))),())))
def qcY (r41:Int×Zv28×Zv28×Zv28×Zv34×Unit) (x42:Zv17×(Unit)):Option (Zv11 ⊕ Zv14) :=
 bif (decide (x42.1.2.1<((r41.2.1.length:Nat):Int))) then(req (inb x42.1.2.1 r41.2.1.length) (Option.bind (qh6 ((((getD' r41.2.1 ((x42.1.2.1).toNat) ((false,([],())),([],()))).1).1,((((getD' r41.2.1 ((x42.1.2.1).toNat) ((false,([],())),([],()))).1).2).1,())),(((getD' r41.2.1 ((x42.1.2.1).toNat) ((false,([],())),([],()))).2).1,())) r41.2.2.2.2.1) fun r43 =>
 req (room (x42.1.1.length+([r43]).length) 56) (some (Sum.inl (((x42.1.1++[r43]),(w64 (x42.1.2.1+1)),()),())))))
 else some (Sum.inr ((x42.1.1,()),()))
def qcX (r41:Int×Zv28×Zv28×Zv28×Zv34×Unit) (x45:Zv17×(Unit)):Option (Zv11 ⊕ Zv14) :=
 bif (decide (x45.1.2.1<((r41.2.2.1.length:Nat):Int))) then(req (inb x45.1.2.1 r41.2.2.1.length) (Option.bind (qh6 ((((getD' r41.2.2.1 ((x45.1.2.1).toNat) ((false,([],())),([],()))).1).1,((((getD' r41.2.2.1 ((x45.1.2.1).toNat) ((false,([],())),([],()))).1).2).1,())),(((getD' r41.2.2.1 ((x45.1.2.1).toNat) ((false,([],())),([],()))).2).1,())) r41.2.2.2.2.1) fun r46 =>
 req (room (x45.1.1.length+([r46]).length) 56) (some (Sum.inl (((x45.1.1++[r46]),(w64 (x45.1.2.1+1)),()),())))))
 else some (Sum.inr ((x45.1.1,()),()))
def qfd (m:List Zv28):Option (Zv34×Zv28×Zv28×Unit) :=
 Option.bind (at? m (0:Int)) fun d8 =>
 Option.bind (at? d8 (0:Int)) fun d9 =>
 Option.bind (iterW (qaz m) (((0:Int),()),((d9.1.1,(d9.1.2.1,d9.2)),()))) fun x18 =>
 Option.bind (agree (Option.bind (bigOf (1:Int)) fun r19 =>
 agree (Option.bind (qdJ (r19.1,(r19.2.1,())) ((x18.2.1.1,(x18.2.1.2.1,())),x18.2.1.2.2)) fun r20 =>
 some ((r20,()),())) (Option.bind (qdJ (r19.1,(r19.2.1,())) ((x18.2.1.1,(x18.2.1.2.1,())),x18.2.1.2.2)) fun r21 =>
 some ((r21,()),()))) (Option.bind (bigOf (1:Int)) fun r22 =>
 Option.bind (qdJ (r22.1,(r22.2.1,())) ((x18.2.1.1,(x18.2.1.2.1,())),x18.2.1.2.2)) fun r23 =>
 some ((r23,()),()))) fun x24 =>
 Option.bind (iterW (qa7 m x24) (((0:Int),()),((([]:List Zv28),(([]:List Zv34),(([]:List Zv34),()))),()))) fun x36 =>
 Option.bind (at? m (0:Int)) fun d37 =>
 Option.bind (iterW (qa4 d37) (((0:Int),()),((x36.2.1.1,(x36.2.1.2.1,(x36.2.1.2.2.1,()))),()))) fun x40 =>
 Option.bind (qhg (x40.2.1.1,(x40.2.1.2.1,(x40.2.1.2.2.1,())))) fun r41 =>
 Option.bind (iterW (qcY r41) ((([]:List Zv34),(0:Int),()),())) fun x44 =>
 Option.bind (iterW (qcX r41) ((([]:List Zv34),(0:Int),()),())) fun x47 =>
 Option.bind (bigOf (1:Int)) fun r48 =>
 Option.bind (qh6 (r48.1,(r48.2.1,())) r41.2.2.2.2.1) fun r49 =>
 Option.bind (qdJ r49 x24.1.1) fun r50 =>
 some (r50,(x47.1.1,(x44.1.1,())))
def qc6 (l:List Zv34) (x1:Zv54×(Unit)):Option ((Zv54×(Unit)) ⊕ (Zv47 ⊕ Zv54)) :=
 bif (decide (x1.1.2.1<((l.length:Nat):Int))) then(Option.bind (at? l x1.1.2.1) fun d2 =>
 Option.bind (qjc d2) fun r3 =>
 bif (r3.2.1 !=0) then some (Sum.inr (Sum.inr (([]:List ByteArray),r3.2)))
 else req (room (x1.1.1.length+([r3.1]).length) 16) (some (Sum.inl (((x1.1.1++[r3.1]),(w64 (x1.1.2.1+1)),()),()))))
 else some (Sum.inr (Sum.inl ((x1.1.1,()),())))
def qjW (l:List Zv34):Option Zv54 :=
 Option.bind (α:=Zv47 ⊕ Zv54) (iterW (qc6 l) ((([]:List ByteArray),(0:Int),()),())) (Sum.elim (fun x4 =>
 some (x4.1.1,((0:Int),()))) some)
def qb3 (m:List Zv71):Option ((ByteArray×Zv71×Zv71×Unit)×Int×Unit) :=
 Option.bind (qaO m) fun r5 =>
 bif (r5 !=0) then some (((ByteArray.mk #[]),(([]:List ByteArray),(([]:List ByteArray),()))),(r5,()))
 else Option.bind (qlP m) fun r6 =>
 Option.bind (qfd r6) fun r7 =>
 req (room (([r7.1]).length+r7.2.1.length) 56) (req (room (([r7.1]++r7.2.1).length+r7.2.2.1.length) 56) (Option.bind (qjW (([r7.1]++r7.2.1)++r7.2.2.1)) fun r8 =>
 bif (r8.2.1 !=0) then some (((ByteArray.mk #[]),(([]:List ByteArray),(([]:List ByteArray),()))),r8.2)
 else req (inb (0:Int) r8.1.length) (agree (req (qh (1:Int) (w64 (((r7.2.1.length:Nat):Int)+1)) r8.1.length&&(decide ((w64 (((r7.2.1.length:Nat):Int)+1))≤(w64 (((r7.2.1.length:Nat):Int)+1)))&&decide ((w64 (((r7.2.1.length:Nat):Int)+1))≤((r8.1.length:Nat):Int)))) (req (qh (w64 (((r7.2.1.length:Nat):Int)+1)) ((r8.1.length:Nat):Int) r8.1.length) (some (((getD' r8.1 0 ByteArray.empty),(((r8.1.take ((w64 (((r7.2.1.length:Nat):Int)+1))).toNat).drop 1),(((r8.1.take (((r8.1.length:Nat):Int)).toNat).drop ((w64 (((r7.2.1.length:Nat):Int)+1))).toNat),()))),((0:Int),()))))) (req (qh (w64 (((r7.2.1.length:Nat):Int)+1)) ((r8.1.length:Nat):Int) r8.1.length) (req (qh (1:Int) (w64 (((r7.2.1.length:Nat):Int)+1)) r8.1.length&&(decide ((w64 (((r7.2.1.length:Nat):Int)+1))≤(w64 (((r7.2.1.length:Nat):Int)+1)))&&decide ((w64 (((r7.2.1.length:Nat):Int)+1))≤((r8.1.length:Nat):Int)))) (some (((getD' r8.1 0 ByteArray.empty),(((r8.1.take ((w64 (((r7.2.1.length:Nat):Int)+1))).toNat).drop 1),(((r8.1.take (((r8.1.length:Nat):Int)).toNat).drop ((w64 (((r7.2.1.length:Nat):Int)+1))).toNat),()))),((0:Int),()))))))))
def qbH (m:List Zv71):Option Zv65 :=
 Option.bind (qb3 m) fun r2 =>
 some (r2.1.1,r2.2)
def qoA (a:ByteArray):Option Zv65 :=
 Option.bind (Option.bind (qO a) fun r1 =>
 bif (r1 !=0) then some (((ByteArray.mk #[]),r1,()),())
 else Option.bind (qau a) fun r2 =>
 Option.bind (qjc ((((qaW r2).1).1,((((qaW r2).1).2).1,())),(((qaW r2).2).1,()))) fun r3 =>
 some ((r3.1,r3.2.1,()),())) fun x4 =>
 some (x4.1.1,(x4.1.2.1,()))
def qbD (m:List Zv71):Option Zv43 :=
 Option.bind (qbH m) fun r4 =>
 bif (r4.2.1 !=0) then some (([]:List Zv71),r4.2)
 else Option.bind (qoA r4.1) fun r5 =>
 bif (r5.2.1 !=0) then some (([]:List Zv71),r5.2)
 else Option.bind (qda m r5.1) fun r6 =>
 some (r6.1,r6.2)
def qpc (a:ByteArray) (b:ByteArray):Option Zv65 :=
 Option.bind (Option.bind (qcK ([a,b])) fun r1 =>
 bif (r1 !=0) then some (((ByteArray.mk #[]),r1,()),())
 else Option.bind (qau a) fun r2 =>
 Option.bind (qau b) fun r3 =>
 Option.bind (qdJ r2 r3) fun r4 =>
 Option.bind (qjc r4) fun r5 =>
 some ((r5.1,r5.2.1,()),())) fun x6 =>
 some (x6.1.1,(x6.1.2.1,()))
def qaw (d15:List ByteArray) (r8:Zv67×Int×Unit) (amount:ByteArray) (r10:Zv67×Int×Unit) (x13:Zv72×(Unit)) (m:List Zv71) (x14:Zv72×(Unit)) (r9:ByteArray×Int×Unit) (x16:Zv72×(Unit)):Option (Zv66 ⊕ (Zv70 ⊕ (Zv70 ⊕ (Zv66 ⊕ (Zv70 ⊕ (Zv70 ⊕ (Zv66 ⊕ (Zv70 ⊕ Bool)))))))) :=
 bif (decide (x16.1.1<((d15.length:Nat):Int))) then(Option.bind (at? d15 x16.1.1) fun d17 =>
 Option.bind (gat (!(((((getD' ([(r8.1,(amount,r8.2)),(r10.1,((ByteArray.mk #[]),r10.2))]) ((x13.1.1).toNat) ([],(ByteArray.empty,((0:Int),())))).1).length:Nat):Int)!=((m.length:Nat):Int))) [] ((getD' ([(r8.1,(amount,r8.2)),(r10.1,((ByteArray.mk #[]),r10.2))]) ((x13.1.1).toNat) ([],(ByteArray.empty,((0:Int),())))).1) x14.1.1) fun d18 =>
 bif ((((((getD' ([(r8.1,(amount,r8.2)),(r10.1,((ByteArray.mk #[]),r10.2))]) ((x13.1.1).toNat) ([],(ByteArray.empty,((0:Int),())))).1).length:Nat):Int)!=((m.length:Nat):Int))||(((d18.length:Nat):Int)!=((d15.length:Nat):Int))) then some (Sum.inr (Sum.inr (Sum.inr (Sum.inr (Sum.inr (Sum.inr (Sum.inr (Sum.inr false))))))))
 else Option.bind (bif (!((((getD' ([(r8.1,(amount,r8.2)),(r10.1,((ByteArray.mk #[]),r10.2))]) ((x13.1.1).toNat) ([],(ByteArray.empty,((0:Int),())))).2).1).toList==(ByteArray.mk #[]).toList)) then(Option.bind (qga d17 amount) fun r19 =>
 some ((r19.1,r19.2.1,()),()))
 else Option.bind (qpc d17 r9.1) fun r20 =>
 some ((r20.1,r20.2.1,()),())) fun x21 =>
 Option.bind (gat (!(x21.1.2.1 !=0)) [] ((getD' ([(r8.1,(amount,r8.2)),(r10.1,((ByteArray.mk #[]),r10.2))]) ((x13.1.1).toNat) ([],(ByteArray.empty,((0:Int),())))).1) x14.1.1) fun d22 =>
 Option.bind (gat (!(x21.1.2.1 !=0)) ByteArray.empty d22 x16.1.1) fun d23 =>
 bif ((x21.1.2.1 !=0)||(!(d23.toList==x21.1.1.toList))) then some (Sum.inr (Sum.inr (Sum.inr (Sum.inr (Sum.inr (Sum.inr (Sum.inr (Sum.inr false))))))))
 else some (Sum.inl (((w64 (x16.1.1+1)),()),())))
 else some (Sum.inr (Sum.inl ((),())))
def qK (m:List Zv71) (r8:Zv67×Int×Unit) (amount:ByteArray) (r10:Zv67×Int×Unit) (x13:Zv72×(Unit)) (r9:ByteArray×Int×Unit) (x14:Zv72×(Unit)):Option (Zv66 ⊕ (Zv70 ⊕ (Zv70 ⊕ (Zv66 ⊕ (Zv70 ⊕ Bool))))) :=
 bif (decide (x14.1.1<((m.length:Nat):Int))) then(Option.bind (α:=Zv70 ⊕ (Zv66 ⊕ (Zv70 ⊕ (Zv70 ⊕ (Zv66 ⊕ (Zv70 ⊕ Bool)))))) (Option.bind (at? m x14.1.1) fun d15 =>
 Option.bind (α:=Zv70 ⊕ (Zv70 ⊕ (Zv66 ⊕ (Zv70 ⊕ (Zv70 ⊕ (Zv66 ⊕ (Zv70 ⊕ Bool))))))) (iterW (qaw d15 r8 amount r10 x13 m x14 r9) (((0:Int),()),())) (Sum.elim (fun x24 =>
 some (Sum.inl ((),()))) some)) (Sum.elim (fun x25 =>
 some (Sum.inl (((w64 (x14.1.1+1)),()),()))) some))
 else some (Sum.inr (Sum.inl ((),())))
def qax (r8:Zv67×Int×Unit) (amount:ByteArray) (r10:Zv67×Int×Unit) (m:List Zv71) (r9:ByteArray×Int×Unit) (x13:Zv72×(Unit)):Option (Zv66 ⊕ (Zv70 ⊕ Bool)) :=
 bif (decide (x13.1.1<((([(r8.1,(amount,r8.2)),(r10.1,((ByteArray.mk #[]),r10.2))]).length:Nat):Int))) then(Option.bind (α:=Zv70 ⊕ (Zv66 ⊕ (Zv70 ⊕ Bool))) (req (inb x13.1.1 ([(r8.1,(amount,r8.2)),(r10.1,((ByteArray.mk #[]),r10.2))]).length) (bif ((((getD' ([(r8.1,(amount,r8.2)),(r10.1,((ByteArray.mk #[]),r10.2))]) ((x13.1.1).toNat) ([],(ByteArray.empty,((0:Int),())))).2).2).1 !=0) then some (Sum.inl ((),()))
 else Option.bind (α:=Zv70 ⊕ (Zv70 ⊕ (Zv66 ⊕ (Zv70 ⊕ Bool)))) (iterW (qK m r8 amount r10 x13 r9) (((0:Int),()),())) (Sum.elim (fun x26 =>
 some (Sum.inl ((),()))) some))) (Sum.elim (fun x27 =>
 some (Sum.inl (((w64 (x13.1.1+1)),()),()))) some))
 else some (Sum.inr (Sum.inl ((),())))
def qcq (m:List Zv71) (amount:ByteArray):Option (Bool) :=
 Option.bind (qdA) fun r7 =>
 bif (!r7) then some false
 else Option.bind (qda m amount) fun r8 =>
 Option.bind (qbH m) fun r9 =>
 Option.bind (qbD m) fun r10 =>
 Option.bind (qb3 m) fun r11 =>
 bif (r11.2.1 !=0) then some ((((r9.2.1==r11.2.1)&&(r9.1.toList==(ByteArray.mk #[]).toList))&&(r10.2.1==r11.2.1))&&(((r10.1.length:Nat):Int)==0))
 else bif ((r9.2.1 !=0)||(!(r9.1.toList==r11.1.1.toList))) then some false
 else Option.bind (qO amount) fun r12 =>
 bif (r12 !=0) then some ((r8.2.1==r12)&&(((r8.1.length:Nat):Int)==0))
 else Option.bind (α:=Zv70 ⊕ Bool) (iterW (qax r8 amount r10 m r9) (((0:Int),()),())) (Sum.elim (fun x28 =>
 some true) some)
end
end Go.Proofs.YteahiolockghkaaGreatDoor
namespace Go.Den
open Go.Eng Go.Sort Go.Proofs Go.Shelf Go.Lib
set_option linter.unusedVariables false
set_option linter.unusedSectionVars false
set_option linter.unusedSimpArgs false
instance (τ:Ty):Inhabited (D τ):=⟨dflt τ⟩

theorem qug {α:Type} [Inhabited α] (enc:α→List Value) (k:Nat) (hk:∀x,(enc x).length=k):∀(l:List α) (t:Nat),t<l.length*k→(l.map enc).flatten[t]?=some ((enc l[t / k]!)[t % k]!)
 | [],t,h=>by simp at h
 | x::l,t,h=>by
  rw[List.map_cons,List.flatten_cons];have k0:0<k:=by
   rcases Nat.eq_zero_or_pos k with e | e
   ·subst e;simp at h
   ·exact e
  by_cases ht:t<k
  ·rw[List.getElem?_append_left (by rw[hk];exact ht),Nat.div_eq_of_lt ht,Nat.mod_eq_of_lt ht];simp[hk,ht]
  ·rw[List.getElem?_append_right (by rw[hk];omega),hk,qug enc k hk l (t-k) (by rw[List.length_cons,Nat.add_mul] at h;omega)];obtain⟨u,rfl⟩:∃u,t=u+k:=⟨t-k,by omega⟩;rw[Nat.add_sub_cancel,Nat.add_div_right _ k0,Nat.add_mod_right];simp
theorem flen {α:Type} (enc:α→List Value) (k:Nat) (hk:∀x,(enc x).length=k):∀l:List α,((l.map enc).flatten).length=l.length*k
 | []=>by simp
 | x::l=>by rw[List.map_cons,List.flatten_cons,List.length_append,hk,flen enc k hk l,List.length_cons,Nat.add_mul];omega
theorem qoG {α:Type} [Inhabited α] (enc:α→List Value) (k:Nat) (hk:∀x,(enc x).length=k) (l:List α):flatK enc k l.toArray=((l.map enc).flatten).toArray:=by
 have hl:=flen enc k hk l;refine ext_get! (by simp[hl]) fun t ht=>?_
 have ht':t<l.toArray.size*k:=by simpa using ht
 rw[get_flatK _ _ _ _ ht'];have:=qug enc k hk l t (by simpa using ht');simp[this]

variable [CT : Ctx]
theorem qhZ {w:World} {S:Sp}:∀(τ:Ty) (x:D τ),τ.flat=true→Rep w S τ x [] (qbh τ x)
 | .int k,x,_=>⟨rfl,rfl⟩
 | .bool,x,_=>⟨rfl,rfl⟩
 | .str,x,_=>⟨rfl,rfl⟩
 | .nil,x,_=>⟨rfl,rfl⟩
 | .sl e,x,h=>by cases h
 | .osl i e,x,h=>by cases h
 | .obx _,x,h=>by cases h
 | .err,x,h=>by cases h
 | .bld _ _,x,h=>by cases h
 | .st f r,x,h=>by
  simp only[Ty.flat,Bool.and_eq_true] at h;exact⟨_,_,[],[],rfl,rfl,qhZ f x.1 h.1,qhZ r x.2 h.2⟩
theorem qqD {w:World} {S:Sp} {τ:Ty} (hf:τ.flat=true):∀ {xs:List (D τ)} {us:List Value},RepL (fun x c=>Rep w S τ x [] c) xs us→us=(xs.map (qbh τ)).flatten
 | [],us,h=>h
 | x::xs,us,⟨c,r,e,h1,h2⟩=>by
  rw[e,qlR τ hf h1,qqD hf h2];rfl
theorem qrc {w:World} {S:Sp} {τ:Ty} (hf:τ.flat=true):∀(xs:List (D τ)),RepL (fun x c=>Rep w S τ x [] c) xs (xs.map (qbh τ)).flatten
 | []=>rfl
 | x::xs=>⟨_,_,rfl,qhZ τ x hf,qrc hf xs⟩
theorem chg_grow {w w':World} (h:Chg (CT:=⟨[],[],true,[],none,none⟩) [] w w'):∃q os',w'=grow (w.drewN q) os':=by
 refine⟨w'.drawn-w.drawn,w'.heap.extract w.heap.size w'.heap.size,?_⟩;obtain⟨heap,tape,drawn,os,output⟩:=w;obtain⟨heap',tape',drawn',os',output'⟩:=w';obtain⟨h1,h2,h3,h4,h5,h6⟩:=h;simp only at h1 h2 h3 h4 h5 h6;subst h1 h2 h3;have h6:=h6 trivial;have:heap'=heap++heap'.extract heap.size heap'.size:=by
  apply Array.ext_getElem?;intro j;rw[Array.getElem?_append];by_cases hj:j<heap.size
  ·rw[if_pos hj];exact h5 j hj (by simp)
  ·rw[if_neg hj,Array.getElem?_extract];by_cases hj2:j<heap'.size
   ·rw[if_pos (by omega)];congr 1;omega
   ·rw[if_neg (by omega),Array.getElem?_eq_none (by omega)]
 show World.mk heap' tape' drawn' os' output'=World.mk (heap++heap'.extract heap.size heap'.size) tape' (drawn+(drawn'-drawn)) os' output';rw[←this];congr 1;omega

section
variable {P : Program} {ρ : Ren}
theorem qtg (L:SlLaysF0.n6 P ρ) {f:FuncId} (hf6:ρ.f 6=f) {τ:Ty} {i:TypeId} (hi:ρ.t 24=i) (hflat:τ.flat=true) (hagg:τ.isAgg=true) (aE:∀w,(isAgg i).run P w = .ok true w) (zE:∀w,(Go.sizeOf i).run P w = .ok τ.size w) {g:FuncId} {res:List Ty} {φ:DL [τ,τ]→Option Int} {tot:Option (DL [τ,τ]→Int)}
  (hc:ConOK (CT:=⟨[],[],true,[],none,none⟩) P g ⟨[τ,τ],true,res,.int .i64,φ,tot⟩) (cf:D τ→D τ→Int) (hcf:∀x y,φ (x,y,())=some (cf x y)) (hO:SWO (ltOf cf)) (hT:∀x y,(ltOf cf) x y=false→(ltOf cf) y x=false→x=y) (eg:∀args w,(callFunc g args).run P w = .ok (.enter g args) w) :
  SrtOK P f ⟨i,τ,some g,fun xs=>xs.mergeSort fun x y=>!(ltOf cf) y x⟩:=by
 subst hf6;subst hi;refine⟨hflat,fun xs=>List.length_mergeSort xs,fun w S v M xs us hlen hown hrep=>?_⟩;simp only at hown hrep ⊢;have hsz:∀x:D τ,(qbh τ x).length=τ.size:=fun x=>Rep.length τ (qhZ (w:=w) (S:=S) τ x hflat);have hus:=qqD hflat hrep;rcases hown with ⟨rfl,⟨ao,rfl⟩,h3,h4⟩ | ⟨b,cap,cur,rfl,rfl,hb,hcap,hcap2,hcs,htake⟩
 ·have hxs:xs=[]:=List.length_eq_zero_iff.1 h3;subst hxs;refine(AnyF.slices_SortFunc_none L ao 0 _ w).mono ?_
  rintro e w' ⟨rfl,rfl⟩
  exact⟨rfl,Chg.refl _ _,us,.inl ⟨rfl,⟨ao,rfl⟩,rfl,h4⟩,by subst h4;simp[RepL]⟩
 ·have hrow:=hb;obtain⟨fz,hb,hfz⟩:=hb;have hcmp:CmpLays P g #[] (qbh τ) τ.size cf b 0 xs.toArray.size w:=fun m os dk hdk x y=>by
   have:=ConOK.calls (CT:=⟨[],[],true,[],none,none⟩) hc (sortWorldK (qbh τ) τ.size w b 0 m dk os) ⟨fun _=>False,fun _=>none⟩ (#[.agg (qbh τ x).toArray,.agg (qbh τ y).toArray] ++ #[]) (x,y,()) (cf x y) (fun _ h=>h.elim) (tabR_nil (CT:=⟨[],[],true,[],none,none⟩) rfl rfl)
    ⟨_,_,rfl,⟨qbh τ x,qhZ (CT:=⟨[],[],true,[],none,none⟩) τ x hflat,by simp[oneV,hagg]⟩,_,_,rfl,⟨qbh τ y,qhZ (CT:=⟨[],[],true,[],none,none⟩) τ y hflat,by simp[oneV,hagg]⟩,rfl⟩ (hcf x y)
   refine this.mono ?_
   rintro e w' ⟨v,rfl,hch,M',cs,_,_,hr,hv⟩
   refine⟨?_,chg_grow hch⟩;rw[hv,hr.2];rfl
  have hblk:b<w.heap.size:=(Array.getElem?_eq_some_iff.1 hb).1
  have hul:us.length=xs.length*τ.size:=by rw[hus];exact flen _ _ hsz xs
  have hnc:xs.length*τ.size≤cur.size:=by rw[hcs];exact Nat.mul_le_mul_right _ hcap
  have hH:HoldsK (qbh τ) τ.size w b 0 xs.toArray:=by
   intro j hj;rw[size_flatK] at hj;rw[qoG _ _ hsz,←hus]
   have hj':j<us.length:=by rw[hul];simpa using hj
   refine⟨?_,by rw[Nat.zero_add];exact hrow.fro (by omega)⟩;simp only[World.cell?,hb,Nat.zero_add];have:cur[j]?=us[j]?:=by
    rw[←htake,List.getElem?_take,if_pos (by rw[←hul];exact hj'),Array.getElem?_toList]
   simp[this,hj']
  have:=AnyQ.slices_SortFunc_total L τ.size aE zE (qbh τ) hsz (fun x v hv=>Rep.one τ (qhZ (w:=w) (S:=S) τ x hflat) v hv) cf hO g #[] b 0 cap xs.toArray w eg hcmp hH hblk (by simpa using hlen) hT;simp only[List.size_toArray] at this;refine this.mono ?_
  rintro e w' ⟨rfl,n,os,rfl⟩
  have hl:=List.length_mergeSort (le:=fun x y=>!ltOf cf y x) xs;generalize hys:xs.mergeSort (fun x y=>!ltOf cf y x)=ys at hl ⊢;simp only[hys]
  have hyl:((ys.map (qbh τ)).flatten).length=xs.length*τ.size:=by rw[flen _ _ hsz ys,hl]
  have hheap:∀j,j<w.heap.size→(sortWorldK (qbh τ) τ.size w b 0 n ys.toArray os).heap[j]?=if b=j then some (.cells (putCells id 0 (flatK (qbh τ) τ.size ys.toArray) cur) (ρ.t 24) fz) else w.heap[j]?:=fun j hj=>by
   simp only[sortWorldK,putRowK,putRow,grow,mapBlock,Sort.ahead];rw[Array.getElem?_append_left (by simpa using hj),Array.getElem?_modify];by_cases e:b=j
   ·subst e;simp[hb,onCells]
   ·simp[e]
  refine⟨trivial,⟨rfl,rfl,rfl,?_,fun j hj hn=>?_,?_⟩,_,.inr ⟨b,cap,putCells id 0 (flatK (qbh τ) τ.size ys.toArray) cur,rfl,rfl,?_,hcap,hcap2,?_,rfl⟩,?_⟩
  ·simp[sortWorldK,putRowK,putRow,grow,mapBlock,Sort.ahead]
  ·rw[hheap j hj,if_neg (fun e=>hn (by simp[e]))]
  ·simp[sortWorldK,putRowK,putRow,grow,mapBlock,Sort.ahead]
  ·exact⟨fz,by rw[hheap b hblk,if_pos rfl],by simpa[putCells] using hfz⟩
  ·simp[putCells,hcs]
  ·have:(putCells id 0 (flatK (qbh τ) τ.size ys.toArray) cur).toList.take (xs.length*τ.size)=(ys.map (qbh τ)).flatten:=by
    apply List.ext_getElem?;intro j;rw[List.getElem?_take];by_cases hj:j<xs.length*τ.size
    ·rw[if_pos hj,Array.getElem?_toList,qoG _ _ hsz]
     have h1:j<cur.size:=by omega
     simp[putCells,Array.getElem?_mapIdx,h1,hyl,hj]
    ·rw[if_neg hj,List.getElem?_eq_none (by rw[hyl];omega)]
   rw[this];exact qrc hflat ys
end
end Go.Den
namespace Go.Den
set_option linter.unusedVariables false
set_option linter.unusedSimpArgs false

theorem qkL {T α:Type} {f:T→Option (T ⊕ α)}:∀ {n m:Nat} {x:T} {r:α},iterN f n x=some r→n≤m→iterN f m x=some r
 | 0,_,_,_,h,_=>by simp[iterN] at h
 | n+1,0,_,_,_,h=>by omega
 | n+1,m+1,x,r,h,hm=>by
  simp only[iterN] at h ⊢
  match hf:f x with
  | none=>simp[hf] at h
  | some (.inr q)=>simp only[hf] at h ⊢;exact h
  | some (.inl y)=>simp only[hf] at h ⊢;exact qkL h (by omega)
theorem qlO {T α:Type} {f:T→Option (T ⊕ α)} {n:Nat} {x:T} {r:α} (h:iterN f n x=some r):iterW f x=some r:=by
 have hx:∃n,(iterN f n x).isSome=true:=⟨n,by rw[h];rfl⟩;unfold iterW;rw[dif_pos hx];obtain⟨q,hq⟩:=Option.isSome_iff_exists.1 (Classical.choose_spec hx);rw[hq];rcases Nat.le_total n (Classical.choose hx) with hl | hl
 ·rw[←hq,qkL h hl]
 ·rw[←h,qkL hq hl]
theorem qnc {T α:Type} {f:T→Option (T ⊕ α)} {x:T} {r:α} (h:iterW f x=some r):∃n,iterN f n x=some r:=by
 unfold iterW at h;split at h
 ·exact⟨_,h⟩
 ·cases h
theorem qX {T α:Type} {f:T→Option (T ⊕ α)} {x y:T} (h:f x=some (.inl y)):iterW f x=iterW f y:=by
 cases hy:iterW f y with
 | some r =>
  obtain⟨n,hn⟩:=qnc hy;exact qlO (n:=n+1) (by simp[iterN,h,hn])
 | none =>
  cases hx:iterW f x with
  | none=>rfl
  | some r =>
   obtain⟨n,hn⟩:=qnc hx
   cases n with
   | zero=>simp[iterN] at hn
   | succ n =>
    simp only[iterN,h] at hn;rw[qlO hn] at hy;cases hy
theorem qz {T α:Type} {f:T→Option (T ⊕ α)} {x:T} {r:α} (h:f x=some (.inr r)):iterW f x=some r:=qlO (n:=1) (by simp[iterN,h])
theorem qg {T α:Type} {f:T→Option (T ⊕ α)} (I:T→Prop) (μ:T→Nat) (Q:α→Prop)
  (h:∀x,I x→(∃y,f x=some (.inl y)∧I y∧μ y<μ x)∨(∃r,f x=some (.inr r)∧Q r)):∀x,I x→∃r,iterW f x=some r∧Q r:=by
 have key:∀(n:Nat) x,μ x<n→I x→∃r,iterW f x=some r∧Q r:=by
  intro n
  induction n with
  | zero=>intro x hx;omega
  | succ n ih =>
   intro x hx hi;rcases h x hi with ⟨y,h1,h2,h3⟩ | ⟨r,h1,h2⟩
   ·rw[qX h1];exact ih y (by omega) h2
   ·exact⟨r,qz h1,h2⟩
 exact fun x hi=>key _ x (Nat.lt_succ_self _) hi
theorem qgn {T α:Type} {f:T→Option (T ⊕ α)} (n:Nat) (st:Nat→T) (r:α) (hs:∀i,i<n→f (st i)=some (.inl (st (i+1)))) (he:f (st n)=some (.inr r)):iterW f (st 0)=some r:=by
 have key:∀k,k≤n→iterW f (st (n-k))=some r:=by
  intro k
  induction k with
  | zero=>intro _;exact qz he
  | succ k ih =>
   intro hk;have:=hs (n-(k+1)) (by omega);rw[show n-(k+1)+1=n-k by omega] at this;rw[qX this];exact ih (by omega)
 have:=key n (Nat.le_refl _)
 rwa [Nat.sub_self] at this
theorem qdg {α β:Type} (xs:List α) (p:α→Bool) (f:((Int×Unit)×Unit)→Option (((Int×Unit)×Unit) ⊕ β)) (A B:β)
  (h1:∀i (hi:i<xs.length),f (((i:Int),()),())=bif p xs[i] then some (.inr A) else some (.inl ((((i+1:Nat):Int),()),()))) (h2:f (((xs.length:Int),()),())=some (.inr B)) :
  iterW f ((0,()),())=some (bif xs.any p then A else B):=by
 have key:∀k i,i+k=xs.length→iterW f (((i:Int),()),())=some (bif (xs.drop i).any p then A else B):=by
  intro k
  induction k with
  | zero =>
   intro i hi
   have:i=xs.length:=by omega
   subst this;rw[qz h2];simp
  | succ k ih =>
   intro i hi
   have hl:i<xs.length:=by omega
   have hs:=h1 i hl;rw[List.drop_eq_getElem_cons hl]
   cases hp:p xs[i] with
   | true =>
    rw[hp] at hs;rw[qz hs];simp only[List.any_cons,hp,Bool.true_or,cond_true]
   | false =>
    rw[hp] at hs;rw[qX hs,ih (i+1) (by omega)];simp only[List.any_cons,hp,Bool.false_or]
 have:=key xs.length 0 (by omega);simpa using this
def scan {β:Type} (e:Nat→Option β) (B:β):Nat→Nat→β
 | _,0=>B
 | i,k+1=>match e i with
  | some b=>b
  | none=>scan e B (i+1) k
theorem qvX {β:Type} (n:Nat) (f:((Int×Unit)×Unit)→Option (((Int×Unit)×Unit) ⊕ β)) (e:Nat→Option β) (B:β)
  (h1:∀i,i<n→f (((i:Int),()),())=match e i with
   | some b=>some (.inr b)
   | none=>some (.inl ((((i+1:Nat):Int),()),()))) (h2:f (((n:Int),()),())=some (.inr B)) :
  iterW f ((0,()),())=some (scan e B 0 n):=by
 have key:∀k i,i+k=n→iterW f (((i:Int),()),())=some (scan e B i k):=by
  intro k
  induction k with
  | zero =>
   intro i hi
   have:i=n:=by omega
   subst this;exact qz h2
  | succ k ih =>
   intro i hi;have hs:=h1 i (by omega);unfold scan
   match he:e i with
   | some b=>rw[he] at hs;exact qz hs
   | none=>rw[he] at hs;rw[qX hs];exact ih (i+1) (by omega)
 exact key n 0 (by omega)
theorem qi {n:Int} (h1 : -9223372036854775808≤n) (h2:n≤9223372036854775807):w64 n=n:=by
 simp[w64,IntKind.wrap,IntKind.signed,IntKind.bits];omega
theorem qcl {n b:Nat} (h:n*b≤140737488355328):room n b=true:=Nat.ble_eq_true_of_le h
theorem beq_f {α:Type} [BEq α] [LawfulBEq α] {a b:α} (h:¬a=b):(a==b)=false:=by simpa using h
theorem bne_t {α:Type} [BEq α] [LawfulBEq α] {a b:α} (h:¬a=b):(a !=b)=true:=by simpa using h
theorem beq_t {α:Type} [BEq α] [LawfulBEq α] {a b:α} (h:a=b):(a==b)=true:=by simpa using h
theorem bne_f {α:Type} [BEq α] [LawfulBEq α] {a b:α} (h:a=b):(a !=b)=false:=by simpa using h
theorem qc {α:Type} (x:Option α):req true x=x:=rfl
theorem at?_eq {α:Type} (xs:List α) (i:Int) (h0:0≤i) (h1:i<(xs.length:Int)):at? xs i=some (xs[i.toNat]'(by omega)):=by
 simp[at?,h0,List.getElem?_eq_getElem (show i.toNat<xs.length by omega)]
theorem inb_iff {i:Int} {n:Nat}:inb i n=true↔0≤i∧i<(n:Int):=by simp[inb]
def Le {α:Type} (a b:Option α):Prop:=∀r,a=some r→b=some r
theorem Le.refl {α:Type} (a:Option α):Le a a:=fun _ h=>h
theorem Le.bind {α β:Type} {a b:Option α} {f g:α→Option β} (h:Le a b) (hf:∀x,Le (f x) (g x)):Le (Option.bind a f) (Option.bind b g):=fun r hr=>by
 obtain⟨x,h1,h2⟩:=Option.bind_eq_some_iff.1 hr;rw[h x h1];exact hf x r h2
theorem Le.elim {α β γ:Type} {f g:α→Option γ} {f' g':β→Option γ} (h:∀x,Le (f x) (g x)) (h':∀x,Le (f' x) (g' x)):∀x,Le (Sum.elim f f' x) (Sum.elim g g' x)
 | .inl x=>h x
 | .inr x=>h' x
theorem Le.cond {α:Type} {c:Bool} {a b a' b':Option α} (h:Le a a') (h':Le b b'):Le (bif c then a else b) (bif c then a' else b'):=by
 cases c
 ·exact h'
 ·exact h
theorem Le.req {α:Type} {c:Bool} {a b:Option α} (h:Le a b):Le (req c a) (req c b):=by
 cases c
 ·exact Le.refl _
 ·exact h
theorem Le.gopt {α:Type} {c:Bool} {d:α} {a b:Option α} (h:Le a b):Le (gopt c d a) (gopt c d b):=by
 cases c
 ·exact Le.refl _
 ·exact h
theorem Le.map {α β:Type} {f:α→β} {a b:Option α} (h:Le a b):Le (Option.map f a) (Option.map f b):=fun r hr=>by
 obtain⟨x,h1,h2⟩:=Option.map_eq_some_iff.1 hr;rw[h x h1,←h2];rfl
theorem Le.iter {T α:Type} {f g:T→Option (T ⊕ α)} (h:∀x,Le (f x) (g x)) (n:Nat) (x:T):Le (iterN f n x) (iterW g x):=by
 have key:∀n x,Le (iterN f n x) (iterN g n x):=by
  intro n
  induction n with
  | zero=>intro x;exact Le.refl _
  | succ n ih =>
   intro x r hr;simp only[iterN] at hr ⊢
   match hf:f x with
   | none=>rw[hf] at hr;cases hr
   | some (.inl y)=>rw[hf] at hr;rw[h x _ hf];exact ih y r hr
   | some (.inr q)=>rw[hf] at hr;rw[h x _ hf];exact hr
 exact fun r hr=>qlO (key n x r hr)
def Mono {T α:Type} (G:(T→Option α)→T→Option α):Prop:=∀φ ψ,(∀x,Le (φ x) (ψ x))→∀x,Le (G φ x) (G ψ x)
theorem Le.fix {T α:Type} {F G:(T→Option α)→T→Option α} (h:∀φ ψ,(∀x,Le (φ x) (ψ x))→∀x,Le (F φ x) (G ψ x)) (hG:Mono G) (n:Nat) (x:T):Le (fixN F n x) (fixW G x):=by
 have key:∀n x,Le (fixN F n x) (fixN G n x):=by
  intro n
  induction n with
  | zero=>intro x;exact Le.refl _
  | succ n ih=>intro x;exact h _ _ ih x
 have up:∀n x,Le (fixN G n x) (fixN G (n+1) x):=by
  intro n
  induction n with
  | zero=>intro x r hr;cases hr
  | succ n ih=>intro x;exact hG _ _ ih x
 have mono:∀k n x,Le (fixN G n x) (fixN G (n+k) x):=by
  intro k
  induction k with
  | zero=>intro n x;exact Le.refl _
  | succ k ih=>intro n x r hr;exact up _ x r (ih n x r hr)
 intro r hr;have h1:=key n x r hr;have hx:∃n,(fixN G n x).isSome=true:=⟨n,by rw[h1];rfl⟩;unfold fixW;rw[dif_pos hx];obtain⟨q,hq⟩:=Option.isSome_iff_exists.1 (Classical.choose_spec hx);rw[hq];rcases Nat.le_total n (Classical.choose hx) with hl | hl
 ·have:=mono (Classical.choose hx-n) n x r h1;rw[show n+(Classical.choose hx-n)=Classical.choose hx by omega,hq] at this;exact this
 ·have:=mono (n-Classical.choose hx) (Classical.choose hx) x q hq;rw[show Classical.choose hx+(n-Classical.choose hx)=n by omega,h1] at this;exact this.symm
end Go.Den
namespace Go.Den
open Go.Eng Go.Proofs Go.Shelf Go.RowKit
set_option linter.unusedVariables false
set_option linter.unusedSectionVars false
set_option linter.unusedSimpArgs false
variable [CT : Ctx]
variable {P : Program} {ρ : Ren}

theorem ck_of (L:Lays.n240 P ρ) (X:Builder.X72 P ρ):CkOK P (ρ.f 240) (ρ.t 72):=by
 intro w b p v hheap hp;rcases hp with rfl | rfl
 ·refine(Any.Builder_copyCheck_fresh L X b w (by simp[World.cell?,hheap]) (by simp[World.shape?,hheap]) (by simp[World.frozen?,hheap])).mono ?_
  rintro e w' ⟨rfl,rfl⟩
  have hs:=setCell_eq_setRow w b 0 #[.pointer none,v] (ρ.t 72) (0,0) (.pointer (some ⟨b,0,none⟩)) hheap;rw[hs];exact⟨rfl,qe3,setRow_heap w b _ _ (ρ.t 72) (0,0) hheap⟩
 ·refine(Any.Builder_copyCheck_used L X b w (by simp[World.cell?,hheap])).mono ?_
  rintro e w' ⟨rfl,rfl⟩
  exact⟨rfl,Chg.refl _ _,hheap⟩
end Go.Den
namespace Go.Proofs.YteahiolockghkaaGreatDoor
open Go.Den
namespace Lvl
set_option linter.unusedVariables false
set_option linter.unusedSimpArgs false

theorem wu_id {z:Int} (h0:0≤z) (h1:z<18446744073709551616):wu64 z=z:=by
 simp only[wu64,IntKind.wrap_u64];omega
theorem wi_id {z:Int} (h0 : -9223372036854775808≤z) (h1:z<9223372036854775808):w64 z=z:=qi h0 (by omega)
theorem wr_32 (z:Int):IntKind.wrap .u32 z=z % 4294967296:=by
 simp[IntKind.wrap,IntKind.signed,IntKind.bits]
theorem qkN {z:Int} (h0:0≤z):shK .shr .u64 z 32=z / 4294967296:=by
 show z.fdiv (2 ^ (min (32:Int).toNat 64))=_;rw[Int.fdiv_eq_ediv_of_nonneg z (by decide)];rfl
theorem qp {A:Type} (l:List A) {i:Nat} (h:i<l.length):at? l (i:Int)=some l[i]:=by
 unfold at?;simp[h]
theorem qA {i n:Nat} (h:i<n):inb (i:Int) n=true:=inb_iff.2 ⟨by omega,by omega⟩
theorem qbt {A:Type} {l:List A} {i:Nat} {d:A} (h:i<l.length):getD' l i d=l[i]:=by simp[getD',h]

def pw:Nat→Int
 | 0=>1
 | k+1=>4294967296*pw k
theorem qdL:∀k,0<pw k
 | 0=>by decide
 | k+1=>by have:=qdL k;show 0<4294967296*pw k;omega
theorem qhJ (a:Nat):∀b,pw (a+b)=pw a*pw b
 | 0=>by show pw a=pw a*1;omega
 | b+1=>by
  show 4294967296*pw (a+b)=pw a*(4294967296*pw b);rw[qhJ a b];grind
theorem qkB {a b:Nat} (h:a≤b):pw a≤pw b:=by
 obtain⟨c,rfl⟩:=Nat.exists_eq_add_of_le h;rw[qhJ];have h1:=qdL a;have h2:=qdL c;have:=Int.mul_le_mul_of_nonneg_left (a:=1) (b:=pw c) (c:=pw a) (by omega) (by omega);omega
def val:List Int→Int
 | []=>0
 | d::r=>d+4294967296*val r
def Dig (l:List Int):Prop:=∀d∈l,0≤d∧d<4294967296
theorem qdC:∀(a b:List Int),val (a++b)=val a+pw a.length*val b
 | [],b=>by show val b=0+1*val b;omega
 | d::r,b=>by
  show d+4294967296*val (r++b)=d+4294967296*val r+4294967296*pw r.length*val b;rw[qdC r b];grind
theorem qcU (a:List Int) (d:Int):val (a++[d])=val a+pw a.length*d:=by
 rw[qdC];show _+pw a.length*(d+4294967296*0)=_
 grind
theorem Dig.tail {d:Int} {l:List Int} (h:Dig (d::l)):Dig l:=fun x hx=>h x (List.mem_cons_of_mem _ hx)
theorem Dig.head {d:Int} {l:List Int} (h:Dig (d::l)):0≤d∧d<4294967296:=h d List.mem_cons_self
theorem Dig.append {a b:List Int} (h:Dig a) (h':Dig b):Dig (a++b):=fun x hx=>(List.mem_append.1 hx).elim (h x) (h' x)
theorem Dig.snoc {a:List Int} {d:Int} (h:Dig a) (h0:0≤d) (h1:d<4294967296):Dig (a++[d]):=h.append fun x hx=>by
 rw[List.mem_singleton] at hx;subst hx;exact⟨h0,h1⟩
theorem Dig.get {l:List Int} (h:Dig l) {i:Nat} (hi:i<l.length):0≤l[i]∧l[i]<4294967296:=h _ (List.getElem_mem hi)
theorem Dig.take {l:List Int} (h:Dig l) (k:Nat):Dig (l.take k):=fun x hx=>h x (List.mem_of_mem_take hx)
theorem Dig.drop {l:List Int} (h:Dig l) (k:Nat):Dig (l.drop k):=fun x hx=>h x (List.mem_of_mem_drop hx)
theorem Dig.nil:Dig []:=fun _ h=>by cases h
theorem qb9:∀ {l:List Int},Dig l→0≤val l∧val l<pw l.length
 | [],_=>by show(0:Int)≤0∧(0:Int)<1;omega
 | d::r,h=>by
  have h1:=qb9 h.tail;have h2:=h.head;show 0≤d+4294967296*val r∧d+4294967296*val r<4294967296*pw r.length;omega
theorem take_snoc {A:Type} {l:List A} {i:Nat} (h:i<l.length):l.take (i+1)=l.take i++[l[i]]:=by
 rw[List.take_add_one,List.getElem?_eq_getElem h];rfl
theorem qan {l:List Int} {i:Nat} (h:i<l.length):val (l.take (i+1))=val (l.take i)+pw i*l[i]:=by
 rw[take_snoc h,qcU,List.length_take,Nat.min_eq_left (Nat.le_of_lt h)]
theorem qpH {l:List Int} {i:Nat} (h:i<l.length) (d:Int):val (l.set i d)=val l+pw i*(d-l[i]):=by
 have e:l=l.take i++l[i]::l.drop (i+1):=by rw[←List.drop_eq_getElem_cons h,List.take_append_drop]
 have e2:l.set i d=l.take i++d::l.drop (i+1):=by
  rw[List.set_eq_take_append_cons_drop,if_pos h]
 have hl:(l.take i).length=i:=by rw[List.length_take,Nat.min_eq_left (Nat.le_of_lt h)]
 rw[e2]
 conv=>rhs;arg 1;rw[e]
 rw[qdC,qdC,hl];show _+pw i*(d+4294967296*_)=_+pw i*(l[i]+4294967296*_)+_
 grind
theorem Dig.set {l:List Int} (h:Dig l) (i:Nat) {d:Int} (h0:0≤d) (h1:d<4294967296):Dig (l.set i d):=fun x hx=>by
 rcases List.mem_or_eq_of_mem_set hx with hx | rfl
 ·exact h x hx
 ·exact⟨h0,h1⟩
theorem quu:∀n:Nat,val (List.replicate n 0)=0
 | 0=>rfl
 | n+1=>by
  show 0+4294967296*val (List.replicate n 0)=0;rw[quu n];rfl
theorem Dig.zero (n:Nat):Dig (List.replicate n 0):=fun x hx=>by
 rw[List.eq_of_mem_replicate hx];omega
def Nz (l:List Int):Prop:=∀d,l.getLast?=some d→d≠0
structure Rp (l:List Int) (x:Int):Prop where
 dig:Dig l
 nz:Nz l
 val:val l=x
theorem Rp.nonneg {l:List Int} {x:Int} (h:Rp l x):0≤x:=by rw[←h.val];exact(qb9 h.dig).1
theorem Rp.nil:Rp [] 0:=⟨Dig.nil,fun d h=>by simp at h,rfl⟩
theorem Nz.tail {d:Int} {l:List Int} (h:Nz (d::l)):Nz l:=fun x hx=>h x (by
 cases l with
 | nil=>cases hx
 | cons y r=>rw[List.getLast?_cons_cons];exact hx)
theorem Rp.low:∀ {l:List Int} {x:Int},Rp l x→l≠[]→pw l.length≤4294967296*x
 | [],_,_,h=>absurd rfl h
 | [d],x,h,_=>by
  have h1:=h.dig.head;have h2:=h.nz d rfl;have h3:d+4294967296*0=x:=h.val;show 4294967296*1≤_;omega
 | d::e::r,x,h,_=>by
  have h1:Rp (e::r) (Lvl.val (e::r)):=⟨h.dig.tail,h.nz.tail,rfl⟩;have h2:=Rp.low h1 (by simp);have h3:d+4294967296*Lvl.val (e::r)=x:=h.val;have h4:=h.dig.head;show 4294967296*pw (e::r).length≤_;omega
theorem Rp.zero {l:List Int} (h:Rp l 0):l=[]:=by
 refine Classical.byContradiction fun hn=>?_;have h1:=h.low hn;have h2:=qdL l.length;omega
theorem Rp.pos {l:List Int} {x:Int} (h:Rp l x) (hl:l≠[]):0<x:=by
 have h1:=h.low hl;have h2:=qdL l.length;omega
theorem Rp.ne {l:List Int} {x:Int} (h:Rp l x) (hx:x≠0):l≠[]:=fun e=>by
 subst e;exact hx h.val.symm
theorem Rp.len {l:List Int} {x:Int} (h:Rp l x) {k:Nat} (hx:x<pw k):l.length≤k:=by
 refine Classical.byContradiction fun hn=>?_;have h1:=h.low (fun e=>hn (by rw[e];exact Nat.zero_le _));have h2:pw (k+1)≤pw l.length:=qkB (by omega);have h3:4294967296*pw k≤pw l.length:=h2;omega
theorem Rp.lt {l:List Int} {x:Int} (h:Rp l x):x<pw l.length:=by rw[←h.val];exact(qb9 h.dig).2
theorem Rp.inj:∀ {l l':List Int} {x:Int},Rp l x→Rp l' x→l=l'
 | [],l',x,h,h'=>by
  have:x=0:=h.val.symm;subst this;exact(h'.zero).symm
 | d::r,[],x,h,h'=>by
  have:x=0:=h'.val.symm;subst this;exact h.zero
 | d::r,d'::r',x,h,h'=>by
  have h1:d+4294967296*Lvl.val r=x:=h.val;have h2:d'+4294967296*Lvl.val r'=x:=h'.val;have g1:=h.dig.head;have g2:=h'.dig.head
  have e1:d=d':=by omega
  have e2:Lvl.val r=Lvl.val r':=by omega
  rw[e1,Rp.inj (l:=r) (l':=r') (x:=Lvl.val r) ⟨h.dig.tail,h.nz.tail,rfl⟩ ⟨h'.dig.tail,h'.nz.tail,e2.symm⟩]
theorem qbN {n:List Int} (hd:Dig n) (hl:n.length≤4000000000000):∃r,qce n=some r∧Rp r (val n)∧r.length≤n.length:=by
 obtain⟨r,h1,l,rfl,h2,h3⟩:=qg (f:=qhh) (fun x=>∃l,x=((l,()),())∧Dig l∧val l=val n∧l.length≤n.length) (fun x=>x.1.1.length) (fun r=>∃l,r=((l,()),())∧Rp l (val n)∧l.length≤n.length) (by
  rintro x ⟨l,rfl,h1,h2,h3⟩
  rcases List.eq_nil_or_concat l with rfl | ⟨r,d,rfl⟩
  ·exact .inr ⟨_,rfl,[],rfl,⟨h1,fun d h=>by simp at h,h2⟩,h3⟩
  ·rw[List.concat_eq_append] at *
   have hlen:(r++[d]).length=r.length+1:=by simp
   have e1:w64 (((r++[d]).length:Int)-1)=(r.length:Int):=by rw[hlen,wi_id (by omega) (by omega)];omega
   have hpos:decide ((((r++[d]).length:Nat):Int)>0)=true:=by rw[hlen];simp
   have hat:at? (r++[d]) (r.length:Int)=some d:=by rw[qp _ (by simp)];simp
   have step:qhh ((r++[d],()),())=bif d==0 then some (.inl ((r,()),())) else some (.inr ((r++[d],()),())):=by
    unfold qhh;simp only[e1,hpos,gat,cond_true,hat,Option.bind_some,Bool.true_and,Int.toNat_natCast]
    have hb:qh 0 (r.length:Int) (r++[d]).length=true:=by simp[qh];omega
    rw[hb,qc,List.take_left' rfl,List.drop_zero]
   rw[step];by_cases hd0:d=0
   ·subst hd0;refine .inl ⟨_,rfl,⟨r,rfl,fun x hx=>h1 x (List.mem_append_left _ hx),?_,by omega⟩,by show r.length<(r++[0]).length;omega⟩;rw[qcU] at h2;omega
   ·have:(d==0)=false:=by simpa using hd0
    rw[this];refine .inr ⟨_,rfl,_,rfl,⟨h1,fun x hx=>?_,h2⟩,h3⟩;simp at hx
    rw[←hx];exact hd0) ((n,()),()) ⟨n,rfl,hd,rfl,Nat.le_refl _⟩
 refine⟨l,?_,h2,h3⟩;unfold qce;rw[h1];rfl
theorem qg7 {x:Int} (h0:0≤x) (h1:x<18446744073709551616):∃r,qet x=some r∧Rp r x∧r.length≤2:=by
 have hd:Dig [x % 4294967296,x / 4294967296]:=fun y hy=>by
  simp at hy
  rcases hy with rfl | rfl<;>omega
 obtain⟨r,h2,h3,h4⟩:=qbN hd (by simp);refine⟨r,?_,?_,h4⟩
 ·unfold qet;rw[wr_32,wr_32,qkN h0,Int.emod_eq_of_lt (a:=x / 4294967296) (by omega) (by omega),h2];rfl
 ·have e:val [x % 4294967296,x / 4294967296]=x:=by
   show x % 4294967296+4294967296*(x / 4294967296+4294967296*0)=x;omega
  rwa [e] at h3
theorem room4 {n:Nat} (h:n≤2199023255552):room n 4=true:=qcl (by omega)
theorem qtn {n:List Int} {x y:Int} (hd:Dig n) (hl:n.length≤1000000000000) (hx:0≤x∧x<4294967296) (hy:0≤y∧y<4294967296):∃r,qi7 n x y=some r∧Rp r (val n*x+y)∧r.length≤n.length+1:=by
 obtain⟨q,h1,out,c,rfl,h2,h3,h4,h5⟩:=qg (f:=qb8 n x)
  (fun s=>∃out c,∃i:Nat,s=((out,c,(i:Int),()),())∧Dig out∧out.length=i∧i≤n.length∧(0≤c∧c<4294967296)∧val out+pw i*c=val (n.take i)*x+y) (fun s=>n.length-(s.1.2.2.1).toNat)
  (fun r=>∃out c,r=((out,c,()),())∧Dig out∧out.length=n.length∧(0≤c∧c<4294967296)∧val out+pw n.length*c=val n*x+y) (by
  rintro s ⟨out,c,i,rfl,h1,h2,h3,h4,h5⟩
  by_cases hi:i<n.length
  ·have hdi:=hd.get hi;have hm:0≤n[i]*x:=Int.mul_nonneg hdi.1 hx.1;have hm2:n[i]*x≤4294967295*4294967295:=Int.mul_le_mul (by omega) (by omega) hx.1 (by omega);have e1:wu64 (c+wu64 (wu64 n[i]*wu64 x))=c+n[i]*x:=by
    rw[wu_id (z:=n[i]) (by omega) (by omega),wu_id (z:=x) (by omega) (by omega),wu_id (z:=n[i]*x) hm (by omega),wu_id (by omega) (by omega)]
   have step:qb8 n x ((out,c,(i:Int),()),())=some (.inl ((out++[(c+n[i]*x) % 4294967296],(c+n[i]*x) / 4294967296,((i+1:Nat):Int),()),())):=by
    unfold qb8
    have hlt:decide ((i:Int)<((n.length:Nat):Int))=true:=by simp;omega
    simp only[hlt,cond_true,qp n hi,Option.bind_some,e1,wr_32,qkN (z:=c+n[i]*x) (by omega)];rw[room4 (by simp;omega),qc,wi_id (by omega) (by omega)];rfl
   refine .inl ⟨_,step,⟨_,_,i+1,rfl,h1.snoc (by omega) (by omega),by simp[h2],hi,by omega,?_⟩,by simp;omega⟩;rw[qcU,h2,qan hi];show _+4294967296*pw i*_=_
   have:(c+n[i]*x) % 4294967296=c+n[i]*x-4294967296*((c+n[i]*x) / 4294967296):=by omega
   rw[this];generalize (c+n[i]*x) / 4294967296=q;generalize val (List.take i n)=V at *
   grind
  ·have hin:i=n.length:=by omega
   have hlt:decide ((i:Int)<((n.length:Nat):Int))=false:=by simp;omega
   refine .inr ⟨_,by unfold qb8;simp only[hlt,cond_false],out,c,rfl,h1,by omega,h4,?_⟩;rw[hin,List.take_length] at h5
   exact h5) (([],wu64 y,((0:Nat):Int),()),()) ⟨[],wu64 y,0,rfl,Dig.nil,rfl,Nat.zero_le _,by rw[wu_id (by omega) (by omega)];exact hy,by rw[wu_id (by omega) (by omega)];show 0+1*y=0*x+y;omega⟩
 obtain⟨r,h6,h7,h8⟩:=qbN (h2.snoc h4.1 h4.2) (by simp;omega);refine⟨r,?_,?_,by simpa[h3] using h8⟩
 ·unfold qi7;rw[wi_id (by omega) (by omega)];have hr:(decide (0≤((n.length:Nat):Int)+1)&&room (((n.length:Nat):Int)+1).toNat 4)=true:=by
   rw[room4 (by omega),Bool.and_true,decide_eq_true_eq];omega
  rw[hr,qc];have h1:iterW (qb8 n x) (([],wu64 y,(0:Int),()),())=_:=h1;rw[h1];simp only[Option.bind_some];rw[room4 (by simp;omega),qc,wr_32,Int.emod_eq_of_lt h4.1 h4.2,h6];rfl
 ·rw[qcU,h3,h5] at h7;exact h7
end Lvl
namespace Lvl
set_option linter.unusedVariables false
set_option linter.unusedSimpArgs false

theorem bv64 {a:Nat} (ha:a<18446744073709551616):(BitVec.ofInt 64 (a:Int)).toNat=a:=by rw[BitVec.ofInt_natCast,BitVec.toNat_ofNat];exact Nat.mod_eq_of_lt ha
theorem bv32 {a:Nat} (ha:a<4294967296):(BitVec.ofInt 32 (a:Int)).toNat=a:=by rw[BitVec.ofInt_natCast,BitVec.toNat_ofNat];exact Nat.mod_eq_of_lt ha
theorem or_add {a b k:Nat} (hb:b<2 ^ k):2 ^ k*a ||| b=2 ^ k*a+b:=(Nat.two_pow_add_eq_or_of_lt hb a).symm
theorem ior64 {a b:Nat} (ha:a<18446744073709551616) (hb:b<18446744073709551616):ior .u64 (a:Int) (b:Int)=((a ||| b:Nat):Int):=by
 have hx:a ||| b<2 ^ 64:=Nat.or_lt_two_pow ha hb;show IntKind.u64.wrap ((BitVec.ofInt 64 (a:Int) ||| BitVec.ofInt 64 (b:Int)).toNat:Int)=_;rw[BitVec.toNat_or,bv64 ha,bv64 hb,IntKind.wrap_u64];omega
theorem ior32 {a b:Nat} (ha:a<4294967296) (hb:b<4294967296):ior .u32 (a:Int) (b:Int)=((a ||| b:Nat):Int):=by
 have hx:a ||| b<2 ^ 32:=Nat.or_lt_two_pow ha hb;show IntKind.u32.wrap ((BitVec.ofInt 32 (a:Int) ||| BitVec.ofInt 32 (b:Int)).toNat:Int)=_;rw[BitVec.toNat_or,bv32 ha,bv32 hb,wr_32];omega
theorem ior_hi {h l:Int} (h0:0≤h) (h1:h<4294967296) (l0:0≤l) (l1:l<4294967296):ior .u64 (shK .shl .u64 h 32) l=h*4294967296+l:=by
 obtain⟨a,rfl⟩:=Int.eq_ofNat_of_zero_le h0;obtain⟨b,rfl⟩:=Int.eq_ofNat_of_zero_le l0;have e:shK .shl .u64 (a:Int) 32=((2 ^ 32*a:Nat):Int):=by
  show IntKind.u64.wrap ((a:Int)*2 ^ (min (32:Int).toNat 64))=_;rw[IntKind.wrap_u64];show((a:Int)*4294967296) % 18446744073709551616=_;omega
 rw[e,ior64 (by omega) (by omega),or_add (by omega)];omega
theorem iand_lo {c:Int} (h0:0≤c) (h1:c<18446744073709551616):iand .u64 c 4294967295=c % 4294967296:=by
 obtain⟨a,rfl⟩:=Int.eq_ofNat_of_zero_le h0;show IntKind.u64.wrap ((BitVec.ofInt 64 (a:Int) &&& BitVec.ofInt 64 ((4294967295:Nat):Int)).toNat:Int)=_;rw[BitVec.toNat_and,bv64 (by omega),bv64 (by omega),show(4294967295:Nat)=2 ^ 32-1 by rfl,Nat.and_two_pow_sub_one_eq_mod,IntKind.wrap_u64];omega
theorem add_loop {n m:List Int} (hn:Dig n) (hm:Dig m) (hl:n.length≤1000000000000) (hml:m.length≤n.length):∃out c,iterW (qay ((n,m,()),())) (([],0,0,()),())=some ((out,c,()),())∧Dig out∧out.length=n.length∧(0≤c∧c<2)∧val out+pw n.length*c=val n+val m:=by
 obtain⟨q,h1,out,c,rfl,h2⟩:=qg (f:=qay ((n,m,()),()))
  (fun s=>∃out c,∃i:Nat,s=((out,c,(i:Int),()),())∧Dig out∧out.length=i∧i≤n.length∧(0≤c∧c<2)∧val out+pw i*c=val (n.take i)+val (m.take i)) (fun s=>n.length-(s.1.2.2.1).toNat)
  (fun r=>∃out c,r=((out,c,()),())∧Dig out∧out.length=n.length∧(0≤c∧c<2)∧val out+pw n.length*c=val n+val m) (by
  rintro s ⟨out,c,i,rfl,h1,h2,h3,h4,h5⟩
  by_cases hi:i<n.length
  ·have hdi:=hn.get hi
   have hlt:decide ((i:Int)<((n.length:Nat):Int))=true:=by simp;omega
   by_cases him:i<m.length
   ·have hdm:=hm.get him
    have hlt2:decide ((i:Int)<((m.length:Nat):Int))=true:=by simp;omega
    have e1:wu64 (wu64 (c+wu64 n[i])+wu64 m[i])=c+n[i]+m[i]:=by
     rw[wu_id (z:=n[i]) (by omega) (by omega),wu_id (z:=m[i]) (by omega) (by omega),wu_id (z:=c+n[i]) (by omega) (by omega),wu_id (by omega) (by omega)]
    have step:qay ((n,m,()),()) ((out,c,(i:Int),()),())=some (.inl ((out++[(c+n[i]+m[i]) % 4294967296],(c+n[i]+m[i]) / 4294967296,((i+1:Nat):Int),()),())):=by
     unfold qay;simp only[hlt,hlt2,cond_true,qp n hi,qp m him,Option.bind_some,e1,wr_32,qkN (z:=c+n[i]+m[i]) (by omega)];rw[room4 (by simp;omega),qc,wi_id (by omega) (by omega)];rfl
    refine .inl ⟨_,step,⟨_,_,i+1,rfl,h1.snoc (by omega) (by omega),by simp[h2],hi,by omega,?_⟩,by simp;omega⟩;rw[qcU,h2,qan hi,qan him];show _+4294967296*pw i*_=_
    have:(c+n[i]+m[i]) % 4294967296=c+n[i]+m[i]-4294967296*((c+n[i]+m[i]) / 4294967296):=by omega
    rw[this];generalize (c+n[i]+m[i]) / 4294967296=q;generalize val (List.take i n)=V at *
    grind
   ·have hlt2:decide ((i:Int)<((m.length:Nat):Int))=false:=by simp;omega
    have e1:wu64 (c+wu64 n[i])=c+n[i]:=by
     rw[wu_id (z:=n[i]) (by omega) (by omega),wu_id (by omega) (by omega)]
    have step:qay ((n,m,()),()) ((out,c,(i:Int),()),())=some (.inl ((out++[(c+n[i]) % 4294967296],(c+n[i]) / 4294967296,((i+1:Nat):Int),()),())):=by
     unfold qay;simp only[hlt,hlt2,cond_true,cond_false,qp n hi,Option.bind_some,e1,wr_32,qkN (z:=c+n[i]) (by omega)];rw[room4 (by simp;omega),qc,wi_id (by omega) (by omega)];rfl
    refine .inl ⟨_,step,⟨_,_,i+1,rfl,h1.snoc (by omega) (by omega),by simp[h2],hi,by omega,?_⟩,by simp;omega⟩
    have em:m.take (i+1)=m.take i:=by rw[List.take_of_length_le (by omega),List.take_of_length_le (by omega)]
    rw[qcU,h2,qan hi,em];show _+4294967296*pw i*_=_
    have:(c+n[i]) % 4294967296=c+n[i]-4294967296*((c+n[i]) / 4294967296):=by omega
    rw[this];generalize (c+n[i]) / 4294967296=q;generalize val (List.take i n)=V at *
    grind
  ·have hin:i=n.length:=by omega
   have hlt:decide ((i:Int)<((n.length:Nat):Int))=false:=by simp;omega
   refine .inr ⟨_,by unfold qay;simp only[hlt,cond_false],out,c,rfl,h1,by omega,h4,?_⟩;rw[hin,List.take_length,List.take_of_length_le hml] at h5
   exact h5) (([],0,((0:Nat):Int),()),()) ⟨[],0,0,rfl,Dig.nil,rfl,Nat.zero_le _,by omega,by show 0+1*(0:Int)=val ([].take 0)+_;simp[val]⟩
 exact⟨out,c,h1,h2⟩
theorem add_spec {n m:List Int} (hn:Dig n) (hm:Dig m) {L:Nat} (hL:L≤1000000000000) (hnl:n.length≤L) (hml:m.length≤L):∃r,qiO n m=some r∧Rp r (val n+val m)∧r.length≤L+1:=by
 have key:∀ {n m:List Int},Dig n→Dig m→n.length≤L→m.length≤n.length→∃r,(req (decide (0≤(w64 (((n.length:Nat):Int)+(1:Int))))&&room ((w64 (((n.length:Nat):Int)+(1:Int)))).toNat 4) (Option.bind (iterW (qay ((n,m,()),())) (([],0,0,()),())) fun x7 =>
   req (room (x7.1.1.length+([(IntKind.wrap .u32 x7.1.2.1)]).length) 4) (Option.bind (qce (x7.1.1++[(IntKind.wrap .u32 x7.1.2.1)])) fun r8=>some r8)))=some r∧Rp r (val n+val m)∧r.length≤L+1:=fun {n m} hn hm hnl hml=>by
  obtain⟨out,c,h1,h2,h3,h4,h5⟩:=add_loop hn hm (by omega) hml;obtain⟨r,h6,h7,h8⟩:=qbN (h2.snoc (d:=c) (by omega) (by omega)) (by simp;omega);refine⟨r,?_,?_,?_⟩
  ·rw[wi_id (by omega) (by omega)];have hr:(decide (0≤((n.length:Nat):Int)+1)&&room (((n.length:Nat):Int)+1).toNat 4)=true:=by
    rw[room4 (by omega),Bool.and_true,decide_eq_true_eq];omega
   rw[hr,qc,h1];simp only[Option.bind_some];rw[room4 (by simp;omega),qc,wr_32,Int.emod_eq_of_lt (by omega) (by omega),h6];rfl
  ·rw[qcU,h3,h5] at h7;exact h7
  ·simp[h3] at h8;omega
 unfold qiO;by_cases hlt:n.length<m.length
 ·have:decide (((n.length:Nat):Int)<((m.length:Nat):Int))=true:=by simp;omega
  rw[this,cond_true,Option.bind_some];obtain⟨r,h1,h2,h3⟩:=key hm hn hml (by omega);exact⟨r,h1,Int.add_comm (val m) (val n)▸h2,h3⟩
 ·have:decide (((n.length:Nat):Int)<((m.length:Nat):Int))=false:=by simp;omega
  rw[this,cond_false,Option.bind_some];have h:=key hn hm hnl (by omega);exact h
theorem qtV {n m:List Int} (hn:Dig n) (hm:Dig m) (hl:n.length≤1000000000000) (hml:m.length≤n.length) (hle:val m≤val n):∃r,qgw n m=some r∧Rp r (val n-val m)∧r.length≤n.length:=by
 obtain⟨q,h1,out,rfl,h2,h3,h4⟩:=qg (f:=qb6 n m)
  (fun s=>∃out c,∃i:Nat,s=((out,c,(i:Int),()),())∧Dig out∧out.length=i∧i≤n.length∧(0≤c∧c<2)∧val out-pw i*c=val (n.take i)-val (m.take i)) (fun s=>n.length-(s.1.2.2.1).toNat)
  (fun r=>∃out,r=((out,()),())∧Dig out∧out.length=n.length∧val out=val n-val m) (by
  rintro s ⟨out,c,i,rfl,h1,h2,h3,h4,h5⟩
  by_cases hi:i<n.length
  ·have hdi:=hn.get hi
   have hlt:decide ((i:Int)<((n.length:Nat):Int))=true:=by simp;omega
   have fin:∀x:Int,-4294967296≤x→x<4294967296→x=n[i]-c-(if i<m.length then m.getD i 0 else 0) →
     (bif decide (x<0) then some ((((1:Int),w64 (x+4294967296),()),()):(Int×Int×Unit)×Unit) else some ((0,x,()),()))=some (((if x<0 then 1 else 0),x % 4294967296,()),()) ∧
     val (out++[x % 4294967296])-pw (i+1)*(if x<0 then 1 else 0)=val (n.take (i+1))-val (m.take (i+1)):=fun x x0 x1 hx=>by
    constructor
    ·by_cases hneg:x<0
     ·have e1:x % 4294967296=x+4294967296:=by omega
      have e2:w64 (x+4294967296)=x+4294967296:=wi_id (by omega) (by omega);simp only[hneg,decide_true,cond_true,if_true,e1,e2]
     ·have e1:x % 4294967296=x:=by omega
      simp only[hneg,decide_false,cond_false,if_false,e1]
    ·have hmt:val (m.take (i+1))=val (m.take i)+pw i*(if i<m.length then m.getD i 0 else 0):=by
      by_cases him:i<m.length
      ·rw[if_pos him,qan him];simp[him]
      ·rw[if_neg him,List.take_of_length_le (by omega),List.take_of_length_le (by omega)];omega
     rw[qcU,h2,qan hi,hmt];show _-4294967296*pw i*_=_
     have hx2:x % 4294967296=x+4294967296*(if x<0 then 1 else 0):=by split<;>omega
     rw[hx2];generalize (if x<0 then(1:Int) else 0)=b;generalize (if i<m.length then m.getD i 0 else 0)=e at *;generalize val (List.take i n)=V at *;subst hx
     grind
   have stp:∀x:Int,-4294967296≤x→x<4294967296→x=n[i]-c-(if i<m.length then m.getD i 0 else 0) →
     (bif decide ((i:Int)<((m.length:Nat):Int)) then Option.bind (at? m (i:Int)) fun d4=>some ((w64 (w64 (w64 n[i]-c)-w64 d4),()),()) else some ((w64 (w64 n[i]-c),()),()))=some ((x,()),()):=fun x x0 x1 hx=>by
    by_cases him:i<m.length
    ·have hdm:=hm.get him;rw[if_pos him] at hx
     have hg:m.getD i 0=m[i]:=by simp[him]
     rw[hg] at hx;rw[decide_eq_true (by omega),cond_true,qp m him,Option.bind_some,wi_id (z:=n[i]) (by omega) (by omega),wi_id (z:=m[i]) (by omega) (by omega),wi_id (z:=n[i]-c) (by omega) (by omega),wi_id (by omega) (by omega),hx]
    ·rw[if_neg him] at hx;rw[decide_eq_false (by omega),cond_false,wi_id (z:=n[i]) (by omega) (by omega),wi_id (by omega) (by omega),hx,Int.sub_zero]
   have hx0:0≤(if i<m.length then m.getD i 0 else 0)∧(if i<m.length then m.getD i 0 else 0)<4294967296:=by
    by_cases him:i<m.length
    ·have hdm:=hm.get him
     have hg:m.getD i 0=m[i]:=by simp[him]
     rw[if_pos him,hg];exact hdm
    ·rw[if_neg him];omega
   obtain⟨x,hx⟩:∃x,x=n[i]-c-(if i<m.length then m.getD i 0 else 0):=⟨_,rfl⟩;have f1:=fin x (by omega) (by omega) hx;have f2:=stp x (by omega) (by omega) hx;have step:qb6 n m ((out,c,(i:Int),()),())=some (.inl ((out++[x % 4294967296],(if x<0 then 1 else 0),((i+1:Nat):Int),()),())):=by
    unfold qb6;simp only[hlt,cond_true,qp n hi,Option.bind_some,f2,f1.1];rw[room4 (by simp;omega),qc,wi_id (by omega) (by omega),wr_32,Int.emod_emod];rfl
   refine .inl ⟨_,step,⟨_,_,i+1,rfl,h1.snoc (by omega) (by omega),by simp[h2],hi,by split<;>omega,f1.2⟩,by simp;omega⟩
  ·have hin:i=n.length:=by omega
   have hlt:decide ((i:Int)<((n.length:Nat):Int))=false:=by simp;omega
   refine .inr ⟨_,by unfold qb6;simp only[hlt,cond_false],out,rfl,h1,by omega,?_⟩;rw[hin,List.take_length,List.take_of_length_le hml] at h5;have h6:=(qb9 h1).2;rw[h2,hin] at h6
   have h7:c=0∨c=1:=by omega
   rcases h7 with rfl | rfl
   ·omega
   ·omega) (([],0,((0:Nat):Int),()),()) ⟨[],0,0,rfl,Dig.nil,rfl,Nat.zero_le _,by omega,by show 0-1*(0:Int)=val ([].take 0)-_;simp[val]⟩
 obtain⟨r,h6,h7,h8⟩:=qbN h2 (by omega);refine⟨r,?_,?_,by omega⟩
 ·unfold qgw;have hr:(decide (0≤((n.length:Nat):Int))&&room (((n.length:Nat):Int)).toNat 4)=true:=by
   rw[room4 (by omega),Bool.and_true,decide_eq_true_eq];omega
  rw[hr,qc];have h1:iterW (qb6 n m) (([],0,(0:Int),()),())=_:=h1;rw[h1];simp only[Option.bind_some,h6]
 ·rw[h4] at h7;exact h7
end Lvl
namespace Lvl
set_option linter.unusedVariables false
set_option linter.unusedSimpArgs false

theorem getD_set_ne {l:List Int} {i k:Nat} {d x:Int} (h:k≠i):(l.set i x).getD k d=l.getD k d:=by
 simp[List.getElem?_set,Ne.symm h]
theorem qaR {l:List Int} {k:Nat} (h:k<l.length):l.getD k 0=l[k]:=by simp[h]
theorem mul_row {m:List Int} (hm:Dig m) (hml:m.length≤1000000000000) {a:Int} (ha:0≤a∧a<4294967296) {i:Nat} {out:List Int} (hd:Dig out) (hil:i+m.length≤out.length) (hol:out.length≤2100000000000) :
  ∃c out',iterW (qcd m (((i:Int),()),(out,())) a) ((0,0,()),(out,()))=some ((c,()),(out',()))∧Dig out'∧out'.length=out.length∧(0≤c∧c<4294967296) ∧
   val out'+pw (i+m.length)*c=val out+pw i*(a*val m)∧∀k,i+m.length≤k→out'.getD k 0=out.getD k 0:=by
 obtain⟨q,h1,c,out',rfl,h2⟩:=qg (f:=qcd m (((i:Int),()),(out,())) a)
  (fun s=>∃c o,∃j:Nat,s=((c,(j:Int),()),(o,()))∧Dig o∧o.length=out.length∧j≤m.length∧(0≤c∧c<4294967296)∧val o+pw (i+j)*c=val out+pw i*(a*val (m.take j))∧∀k,i+m.length≤k→o.getD k 0=out.getD k 0) (fun s=>m.length-(s.1.2.1).toNat)
  (fun r=>∃c o,r=((c,()),(o,()))∧Dig o∧o.length=out.length∧(0≤c∧c<4294967296)∧val o+pw (i+m.length)*c=val out+pw i*(a*val m)∧∀k,i+m.length≤k→o.getD k 0=out.getD k 0) (by
  rintro s ⟨c,o,j,rfl,h1,h2,h3,h4,h5,h6⟩
  by_cases hj:j<m.length
  ·have hdm:=hm.get hj
   have hlt:decide ((j:Int)<((m.length:Nat):Int))=true:=by simp;omega
   have hij:i+j<o.length:=by omega
   have hdo:=h1.get hij;have p0:0≤a*m[j]:=Int.mul_nonneg ha.1 hdm.1;have p1:a*m[j]≤4294967295*4294967295:=Int.mul_le_mul (by omega) (by omega) hdm.1 (by omega)
   have ei:w64 ((i:Int)+(j:Int))=((i+j:Nat):Int):=by rw[wi_id (by omega) (by omega)];omega
   have e1:wu64 (c+wu64 (wu64 (wu64 a*wu64 m[j])+wu64 o[i+j]))=c+(a*m[j]+o[i+j]):=by
    rw[wu_id (z:=a) (by omega) (by omega),wu_id (z:=m[j]) (by omega) (by omega),wu_id (z:=a*m[j]) p0 (by omega),wu_id (z:=o[i+j]) (by omega) (by omega),wu_id (z:=a*m[j]+o[i+j]) (by omega) (by omega),wu_id (by omega) (by omega)]
   have step:qcd m (((i:Int),()),(out,())) a ((c,(j:Int),()),(o,()))=some (.inl (((c+(a*m[j]+o[i+j])) / 4294967296,((j+1:Nat):Int),()),(o.set (i+j) ((c+(a*m[j]+o[i+j])) % 4294967296),()))):=by
    unfold qcd;simp only[hlt,cond_true,qp m hj,Option.bind_some,ei,qA hij,qc,Int.toNat_natCast,qbt hij,e1,wr_32,qkN (z:=c+(a*m[j]+o[i+j])) (by omega)];rw[wi_id (by omega) (by omega)];rfl
   generalize ht:c+(a*m[j]+o[i+j])=t at step;refine .inl ⟨_,step,⟨_,_,j+1,rfl,h1.set _ (by omega) (by omega),by rw[List.length_set];exact h2,hj,by omega,?_,fun k hk=>?_⟩,by simp;omega⟩
   ·rw[qpH hij,qan hj];show _+pw ((i+j)+1)*_=_;show _+4294967296*pw (i+j)*_=_
    have:t % 4294967296=t-4294967296*(t / 4294967296):=by omega
    rw[this];generalize t / 4294967296=q;rw[qhJ] at h5 ⊢;generalize val (List.take j m)=V at *;subst ht;generalize o[i+j]=e;generalize m[j]=f
    grind
   ·rw[getD_set_ne (by omega)];exact h6 k hk
  ·have hin:j=m.length:=by omega
   have hlt:decide ((j:Int)<((m.length:Nat):Int))=false:=by simp;omega
   refine .inr ⟨_,by unfold qcd;simp only[hlt,cond_false],c,o,rfl,h1,h2,h4,?_,h6⟩;rw[hin,List.take_length] at h5
   exact h5) ((0,((0:Nat):Int),()),(out,())) ⟨0,out,0,rfl,hd,rfl,Nat.zero_le _,by omega,by simp[val],fun _ _=>rfl⟩
 exact⟨c,out',h1,h2⟩
theorem qlQ {n m:List Int} (hn:Dig n) (hm:Dig m) (hnl:n.length≤1000000000000) (hml:m.length≤1000000000000):∃r,qdR n m=some r∧Rp r (val n*val m)∧r.length≤n.length+m.length:=by
 obtain⟨q,h1,out,rfl,h2,h3,h4⟩:=qg (f:=qb7 n m)
  (fun s=>∃o,∃i:Nat,s=(((i:Int),()),(o,()))∧Dig o∧o.length=n.length+m.length∧i≤n.length∧val o=val (n.take i)*val m∧∀k,i+m.length≤k→o.getD k 0=0) (fun s=>n.length-(s.1.1).toNat)
  (fun r=>∃o,r=((),(o,()))∧Dig o∧o.length=n.length+m.length∧val o=val n*val m) (by
  rintro s ⟨o,i,rfl,h1,h2,h3,h4,h5⟩
  by_cases hi:i<n.length
  ·have hlt:decide ((i:Int)<((n.length:Nat):Int))=true:=by simp;omega
   obtain⟨c,o',g1,g2,g3,g4,g5,g6⟩:=mul_row hm hml (hn.get hi) (i:=i) h1 (by omega) (by omega)
   have hp:i+m.length<o'.length:=by omega
   have ep:w64 ((i:Int)+((m.length:Nat):Int))=((i+m.length:Nat):Int):=by rw[wi_id (by omega) (by omega)];omega
   have z:o'[i+m.length]=0:=by
    have:=g6 (i+m.length) (Nat.le_refl _);rw[qaR hp,h5 _ (Nat.le_refl _)] at this;exact this
   have step:qb7 n m (((i:Int),()),(o,()))=some (.inl ((((i+1:Nat):Int),()),(o'.set (i+m.length) c,()))):=by
    unfold qb7;simp only[hlt,cond_true,qp n hi,Option.bind_some,g1,ep,qA hp,qc,Int.toNat_natCast,wr_32];rw[Int.emod_eq_of_lt g4.1 g4.2,wi_id (by omega) (by omega)];rfl
   refine .inl ⟨_,step,⟨_,i+1,rfl,g2.set _ g4.1 g4.2,by rw[List.length_set,g3,h2],hi,?_,fun k hk=>?_⟩,by simp;omega⟩
   ·rw[qpH hp,z,qan hi,Int.sub_zero,g5,h4]
    grind
   ·rw[getD_set_ne (by omega),g6 k (by omega)];exact h5 k (by omega)
  ·have hin:i=n.length:=by omega
   have hlt:decide ((i:Int)<((n.length:Nat):Int))=false:=by simp;omega
   refine .inr ⟨_,by unfold qb7;simp only[hlt,cond_false],o,rfl,h1,h2,?_⟩;rw[hin,List.take_length] at h4
   exact h4) ((((0:Nat):Int),()),(List.replicate (n.length+m.length) 0,())) ⟨_,0,rfl,Dig.zero _,by simp,Nat.zero_le _,by rw[quu];simp[val],fun k hk=>by simp[List.getElem?_replicate];split<;>rfl⟩
 obtain⟨r,h6,h7,h8⟩:=qbN h2 (by omega);refine⟨r,?_,h4▸h7,by omega⟩;unfold qdR
 have ew:w64 (((n.length:Nat):Int)+((m.length:Nat):Int))=((n.length+m.length:Nat):Int):=by rw[wi_id (by omega) (by omega)];omega
 have hr:(decide (0≤((n.length+m.length:Nat):Int))&&(((n.length+m.length:Nat):Int)==((n.length+m.length:Nat):Int)&&room (((n.length+m.length:Nat):Int)).toNat 4))=true:=by
  rw[room4 (by omega),beq_self_eq_true,Bool.and_true,Bool.and_true,decide_eq_true_eq];omega
 rw[ew,hr,qc,Int.toNat_natCast];have h1:iterW (qb7 n m) (((0:Int),()),(List.replicate (n.length+m.length) 0,()))=_:=h1;rw[h1];simp only[Option.bind_some,h6]
theorem qco {l:List Int} {i:Nat} (h:i<l.length):val (l.drop i)=l[i]+4294967296*val (l.drop (i+1)):=by
 rw[List.drop_eq_getElem_cons h];rfl
theorem quz {n m:List Int} {x y:Int} (hn:Rp n x) (hm:Rp m y) (hnl:n.length≤1000000000000) (hml:m.length≤1000000000000):∃r,qeO n m=some r∧(x<y→r = -1)∧(x=y→r=0)∧(y<x→r=1):=by
 have hi:∀a b:Int,qG a b=if a<b then -1 else if b<a then 1 else 0:=fun a b=>by
  unfold qG
  have e1:qC a=false:=by simp[qC]
  have e2:qC b=false:=by simp[qC]
  rw[e1,e2,cond_false,cond_false];by_cases h1:a<b
  ·simp[h1]
  ·by_cases h2:b<a
   ·simp[h1,h2]
   ·simp[h1,h2]
 have hu:∀a b:Int,qal a b=if a<b then -1 else if b<a then 1 else 0:=fun a b=>by
  unfold qal
  have e1:qv a=false:=by simp[qv]
  have e2:qv b=false:=by simp[qv]
  rw[e1,e2,cond_false,cond_false];by_cases h1:a<b
  ·simp[h1]
  ·by_cases h2:b<a
   ·simp[h1,h2]
   ·simp[h1,h2]
 by_cases hlen:n.length=m.length
 ·obtain⟨q,h1,h2⟩:=qg (f:=qbw n m) (fun s=>∃j:Nat,s=((((j:Int)-1),()),())∧j≤n.length∧val (n.drop j)=val (m.drop j)) (fun s=>(s.1.1+1).toNat)
   (fun r=>(r = .inl ((),())∧x=y)∨∃d,r = .inr d∧((x<y∧d = -1)∨(y<x∧d=1))) (by
   rintro s ⟨j,rfl,h1,h2⟩
   by_cases hj:0<j
   ·obtain⟨i,rfl⟩:∃i,j=i+1:=⟨j-1,by omega⟩
    have ej:((i+1:Nat):Int)-1=(i:Int):=by omega
    have him:i<m.length:=by omega
    have hge:decide ((i:Int)≥0)=true:=by simp
    have e1:=qco (l:=n) (i:=i) (by omega);have e2:=qco him;by_cases he:n[i]=m[i]
    ·have step:qbw n m ((((i+1:Nat):Int)-1,()),())=some (.inl ((((i:Int)-1),()),())):=by
      unfold qbw;simp only[ej,hge,cond_true,qp n (show i<n.length by omega),qp m him,Option.bind_some]
      have:(n[i]!=m[i])=false:=by simp[he]
      rw[this,cond_false,wi_id (by omega) (by omega)]
     exact .inl ⟨_,step,⟨i,rfl,by omega,by rw[e1,e2,h2,he]⟩,by simp⟩
    ·have step:qbw n m ((((i+1:Nat):Int)-1,()),())=some (.inr (.inr (if n[i]<m[i] then -1 else if m[i]<n[i] then 1 else 0))):=by
      unfold qbw;simp only[ej,hge,cond_true,qp n (show i<n.length by omega),qp m him,Option.bind_some]
      have:(n[i]!=m[i])=true:=by simp[he]
      rw[this,cond_true,hu]
     refine .inr ⟨_,step,.inr ⟨_,rfl,?_⟩⟩;have sp:∀l:List Int,i<l.length→val l=val (l.take i)+pw i*val (l.drop i):=fun l hl=>by
      have:=qdC (l.take i) (l.drop i)
      rwa [List.take_append_drop,List.length_take,Nat.min_eq_left (by omega)] at this
     have g1:=sp n (by omega);have g2:=sp m him;have b1:=qb9 (hn.dig.take i);have b2:=qb9 (hm.dig.take i);rw[List.length_take,Nat.min_eq_left (by omega)] at b1 b2;have l1:=hn.val;have l2:=hm.val;rw[e1] at g1;rw[e2] at g2;have hp:=qdL i;by_cases hlt:n[i]<m[i]
     ·left;refine⟨?_,if_pos hlt⟩;have h5:pw i*(n[i]+4294967296*val (n.drop (i+1))+1)≤pw i*(m[i]+4294967296*val (m.drop (i+1))):=Int.mul_le_mul_of_nonneg_left (by omega) (by omega);rw[Int.mul_add] at h5;omega
     ·right;refine⟨?_,by rw[if_neg hlt,if_pos (by omega)]⟩;have h5:pw i*(m[i]+4294967296*val (m.drop (i+1))+1)≤pw i*(n[i]+4294967296*val (n.drop (i+1))):=Int.mul_le_mul_of_nonneg_left (by omega) (by omega);rw[Int.mul_add] at h5;omega
   ·obtain rfl:j=0:=by omega
    refine .inr ⟨_,by unfold qbw;rfl,.inl ⟨rfl,?_⟩⟩;rw[List.drop_zero,List.drop_zero,hn.val,hm.val] at h2
    exact h2) ((((n.length:Int)-1),()),()) ⟨n.length,rfl,Nat.le_refl _,by rw[List.drop_of_length_le (Nat.le_refl _),List.drop_of_length_le (by omega)]⟩
  have hne:((((n.length:Nat):Int))!=((m.length:Nat):Int))=false:=by simp[hlen]
  unfold qeO;rw[hne,cond_false,wi_id (by omega) (by omega),h1];rcases h2 with ⟨rfl,h2⟩ | ⟨d,rfl,h2⟩
  ·exact⟨0,rfl,fun h=>by omega,fun _=>rfl,fun h=>by omega⟩
  ·refine⟨d,rfl,fun h=>?_,fun h=>?_,fun h=>?_⟩
   ·rcases h2 with h2 | h2
    ·exact h2.2
    ·omega
   ·rcases h2 with h2 | h2<;>omega
   ·rcases h2 with h2 | h2
    ·omega
    ·exact h2.2
 ·have hne:((((n.length:Nat):Int))!=((m.length:Nat):Int))=true:=by simp;omega
  unfold qeO;rw[hne,cond_true,hi];have low:∀ {n m:List Int} {x y:Int},Rp n x→Rp m y→n.length<m.length→x<y:=fun {n m x y} hn hm h=>by
   have h1:=hn.lt;have h2:=hm.low (fun e=>by rw[e] at h;exact Nat.not_lt_zero _ h);have h3:pw (n.length+1)≤pw m.length:=qkB h;have h4:4294967296*pw n.length≤pw m.length:=h3;omega
  by_cases h:n.length<m.length
  ·have:=low hn hm h;exact⟨_,rfl,fun _=>if_pos (by omega),fun _=>by omega,fun _=>by omega⟩
  ·have:=low hm hn (by omega);exact⟨_,rfl,fun _=>by omega,fun _=>by omega,fun _=>by rw[if_neg (by omega),if_pos (by omega)]⟩
theorem qiS {n:List Int} {x:Int} (hd:Dig n) (hl:n.length≤1000000000000) (hx:0<x∧x<4294967296):∃q r,qdU n x=some (q,r,())∧Rp q (val n / x)∧r=val n % x∧q.length≤n.length:=by
 obtain⟨s,h1,rest,out,rfl,h2,h3,h4,h5⟩:=qg (f:=qbS n x)
  (fun s=>∃rest o,∃j:Nat,s=((rest,((j:Int)-1),()),(o,()))∧Dig o∧o.length=n.length∧j≤n.length∧(0≤rest∧rest<x)∧val (n.drop j)=val (o.drop j)*x+rest) (fun s=>(s.1.2.1+1).toNat)
  (fun r=>∃rest o,r=((rest,()),(o,()))∧Dig o∧o.length=n.length∧(0≤rest∧rest<x)∧val n=val o*x+rest) (by
  rintro s ⟨rest,o,j,rfl,h1,h2,h3,h4,h5⟩
  by_cases hj:0<j
  ·obtain⟨i,rfl⟩:∃i,j=i+1:=⟨j-1,by omega⟩
   have ej:((i+1:Nat):Int)-1=(i:Int):=by omega
   have hin:i<n.length:=by omega
   have hio:i<o.length:=by omega
   have hdn:=hd.get hin
   have hge:decide ((i:Int)≥0)=true:=by simp
   have ex:wu64 x=x:=wu_id (by omega) (by omega)
   have hxne:(x !=0)=true:=by simp;omega
   have en:wu64 n[i]=n[i]:=wu_id (by omega) (by omega);have eo:=ior_hi (h:=rest) (l:=n[i]) (by omega) (by omega) hdn.1 hdn.2;obtain⟨t,ht⟩:∃t,t=rest*4294967296+n[i]:=⟨_,rfl⟩
   have t0:0≤t:=by omega
   have tq:t / x<4294967296:=Int.ediv_lt_of_lt_mul hx.1 (by
    have:(rest+1)*4294967296≤x*4294967296:=Int.mul_le_mul_of_nonneg_right (by omega) (by omega);rw[Int.mul_comm 4294967296 x]
    omega)
   have tq0:0≤t / x:=Int.ediv_nonneg t0 (by omega);have step:qbS n x ((rest,((i+1:Nat):Int)-1,()),(o,()))=some (.inl ((t % x,((i:Int)-1),()),(o.set i (t / x),()))):=by
    unfold qbS;simp only[ej,hge,cond_true,qp n hin,Option.bind_some,ex,hxne,qc,qA hio,Int.toNat_natCast,en,eo,←ht];rw[Int.tdiv_eq_ediv_of_nonneg t0,Int.tmod_eq_emod_of_nonneg t0,wu_id tq0 (by omega),wr_32,Int.emod_eq_of_lt tq0 tq,wi_id (by omega) (by omega)]
   refine .inl ⟨_,step,⟨_,_,i,rfl,h1.set _ tq0 tq,by rw[List.length_set];exact h2,by omega,⟨Int.emod_nonneg _ (by omega),Int.emod_lt_of_pos _ hx.1⟩,?_⟩,by simp⟩
   have hio':i<(o.set i (t / x)).length:=by rw[List.length_set];exact hio
   rw[qco hin,qco hio',h5]
   have e1:(o.set i (t / x))[i]=t / x:=by simp
   have e2:(o.set i (t / x)).drop (i+1)=o.drop (i+1):=by rw[List.drop_set,if_pos (by omega)]
   rw[e1,e2]
   have e3:t % x=t-x*(t / x):=by rw[Int.emod_def]
   rw[e3,ht];generalize (rest*4294967296+n[i]) / x=q
   grind
  ·obtain rfl:j=0:=by omega
   refine .inr ⟨_,by unfold qbS;rfl,rest,o,rfl,h1,h2,h4,?_⟩
   simpa using h5) ((0,((n.length:Int)-1),()),(List.replicate n.length 0,())) ⟨0,_,n.length,rfl,Dig.zero _,by simp,Nat.le_refl _,by omega,by rw[List.drop_of_length_le (Nat.le_refl _),List.drop_of_length_le (by simp)];simp[val]⟩
 obtain⟨q,h6,h7,h8⟩:=qbN h2 (by omega);have e1:val n / x=val out:=by
  rw[h5,Int.add_comm,Int.add_mul_ediv_right _ _ (by omega),Int.ediv_eq_zero_of_lt h4.1 h4.2,Int.zero_add]
 have e2:val n % x=rest:=by
  rw[h5,Int.add_comm,Int.add_mul_emod_self_right,Int.emod_eq_of_lt h4.1 h4.2]
 refine⟨q,rest,?_,e1▸h7,e2.symm,by omega⟩;unfold qdU;have hr:(decide (0≤((n.length:Nat):Int))&&(((n.length:Nat):Int)==((n.length:Nat):Int)&&room (((n.length:Nat):Int)).toNat 4))=true:=by
  rw[Int.toNat_natCast,room4 (by omega),beq_self_eq_true,Bool.and_true,Bool.and_true,decide_eq_true_eq];omega
 rw[hr,qc,Int.toNat_natCast,wi_id (by omega) (by omega),h1];simp only[Option.bind_some,h6,wr_32];rw[Int.emod_eq_of_lt (by omega) (by omega)]
theorem shl64 {d:Int} {k:Nat} (h0:0≤d) (h1:d<4294967296) (hk:k<32):shK .shl .u64 d (k:Int)=((2 ^ k*d.toNat:Nat):Int):=by
 obtain⟨a,rfl⟩:=Int.eq_ofNat_of_zero_le h0;show IntKind.u64.wrap ((a:Int)*2 ^ (min ((k:Nat):Int).toNat 64))=_;rw[IntKind.wrap_u64,Int.toNat_natCast,Int.toNat_natCast,Nat.min_eq_left (by omega)];have h2:2 ^ k≤2 ^ 31:=Nat.pow_le_pow_right (by decide) (by omega);have h3:2 ^ k*a≤2 ^ 31*a:=Nat.mul_le_mul_right _ h2;have e:((a:Int)*2 ^ k)=((2 ^ k*a:Nat):Int):=by
  rw[Int.natCast_mul,Int.natCast_pow,Int.mul_comm];rfl
 rw[e];omega
theorem qpe {n:List Int} {k:Nat} (hd:Dig n) (hl:n.length≤1000000000000) (hk:k<32):∃r,qiq n (k:Int)=some r∧Dig r∧r.length=n.length+1∧val r=val n*((2 ^ k:Nat):Int):=by
 have hp:0<2 ^ k:=Nat.two_pow_pos k;have hp2:2 ^ k≤2 ^ 31:=Nat.pow_le_pow_right (by decide) (by omega);obtain⟨q,h1,out,c,rfl,h2,h3,h4,h5⟩:=qg (f:=qcE n (k:Int))
  (fun s=>∃out c,∃i:Nat,s=((out,c,(i:Int),()),())∧Dig out∧out.length=i∧i≤n.length∧(0≤c∧c<((2 ^ k:Nat):Int))∧val out+pw i*c=val (n.take i)*((2 ^ k:Nat):Int)) (fun s=>n.length-(s.1.2.2.1).toNat)
  (fun r=>∃out c,r=((out,c,()),())∧Dig out∧out.length=n.length∧(0≤c∧c<((2 ^ k:Nat):Int))∧val out+pw n.length*c=val n*((2 ^ k:Nat):Int)) (by
  rintro s ⟨out,c,i,rfl,h1,h2,h3,h4,h5⟩
  by_cases hi:i<n.length
  ·have hdi:=hd.get hi
   have hlt:decide ((i:Int)<((n.length:Nat):Int))=true:=by simp;omega
   obtain⟨cn,rfl⟩:=Int.eq_ofNat_of_zero_le h4.1;have hm1:2 ^ k*(n[i]).toNat≤2 ^ 31*(n[i]).toNat:=Nat.mul_le_mul_right _ hp2;have eo:ior .u64 (cn:Int) (shK .shl .u64 (wu64 n[i]) (k:Int))=((2 ^ k*(n[i]).toNat+cn:Nat):Int):=by
    rw[wu_id (by omega) (by omega),shl64 hdi.1 hdi.2 hk,ior64 (by omega) (by omega),Nat.or_comm,or_add (by omega)]
   obtain⟨t,ht⟩:∃t,t=2 ^ k*(n[i]).toNat+cn:=⟨_,rfl⟩;rw[←ht] at eo
   have hk0:decide (0≤(k:Int))=true:=by simp
   have step:qcE n (k:Int) ((out,(cn:Int),(i:Int),()),())=some (.inl ((out++[(t:Int) % 4294967296],(t:Int) / 4294967296,((i+1:Nat):Int),()),())):=by
    unfold qcE;simp only[hlt,hk0,cond_true,qp n hi,Option.bind_some,eo,wr_32,qkN (z:=(t:Int)) (by omega),qc];rw[room4 (by simp;omega),qc,wi_id (by omega) (by omega)];rfl
   have tq:t / 4294967296<2 ^ k:=by
    rw[Nat.div_lt_iff_lt_mul (by decide)];have h9:2 ^ k*((n[i]).toNat+1)≤2 ^ k*4294967296:=Nat.mul_le_mul_left _ (by omega);rw[Nat.mul_add] at h9;omega
   refine .inl ⟨_,step,⟨_,_,i+1,rfl,h1.snoc (by omega) (by omega),by simp[h2],hi,by omega,?_⟩,by simp;omega⟩;rw[qcU,h2,qan hi];show _+4294967296*pw i*_=_
   have:(t:Int) % 4294967296=t-4294967296*((t:Int) / 4294967296):=by omega
   rw[this];have et:(t:Int)=((2 ^ k:Nat):Int)*n[i]+cn:=by
    rw[ht,Int.natCast_add,Int.natCast_mul,Int.toNat_of_nonneg hdi.1]
   generalize (t:Int) / 4294967296=q;rw[et];generalize val (List.take i n)=V at *;generalize ((2 ^ k:Nat):Int)=P at *
   grind
  ·have hin:i=n.length:=by omega
   have hlt:decide ((i:Int)<((n.length:Nat):Int))=false:=by simp;omega
   refine .inr ⟨_,by unfold qcE;simp only[hlt,cond_false],out,c,rfl,h1,by omega,h4,?_⟩;rw[hin,List.take_length] at h5
   exact h5) (([],0,((0:Nat):Int),()),()) ⟨[],0,0,rfl,Dig.nil,rfl,Nat.zero_le _,by omega,by simp[val]⟩
 refine⟨out++[c],?_,h2.snoc h4.1 (by omega),by simp[h3],by rw[qcU,h3,h5]⟩;unfold qiq;rw[wi_id (by omega) (by omega)];have hr:(decide (0≤((n.length:Nat):Int)+1)&&room (((n.length:Nat):Int)+1).toNat 4)=true:=by
  rw[room4 (by omega),Bool.and_true,decide_eq_true_eq];omega
 rw[hr,qc];have h1:iterW (qcE n (k:Int)) (([],0,(0:Int),()),())=_:=h1;rw[h1];simp only[Option.bind_some];rw[room4 (by simp;omega),qc,wr_32,Int.emod_eq_of_lt h4.1 (by omega)]
end Lvl
namespace Lvl
set_option linter.unusedVariables false
set_option linter.unusedSimpArgs false

theorem guess_le {v1 v2 Vl V top u2 Ul U P g:Int} (hP:0<P) (hv1:0<v1) (hv2:0≤v2) (hVl:0≤Vl∧Vl<P) (hUl:0≤Ul) (hV:V=(v1*4294967296+v2)*P+Vl) (hU:U=(top*4294967296+u2)*P+Ul)
  (hg:0≤g∧g<4294967296) (h:g*v2≤(top-g*v1)*4294967296+u2):g*V<U+V:=by
 have h1:g*(v1*4294967296+v2)≤top*4294967296+u2:=by grind
 have h2:g*(v1*4294967296+v2)*P≤(top*4294967296+u2)*P:=Int.mul_le_mul_of_nonneg_right h1 (Int.le_of_lt hP);have h3:g*Vl≤g*P:=Int.mul_le_mul_of_nonneg_left (Int.le_of_lt hVl.2) hg.1;have h4:g*P<4294967296*P:=Int.mul_lt_mul_of_pos_right hg.2 hP;have h5:1*(4294967296*P)≤v1*(4294967296*P):=Int.mul_le_mul_of_nonneg_right (by omega) (by omega);have h6:0≤v2*P:=Int.mul_nonneg hv2 (Int.le_of_lt hP)
 have e1:g*V=g*(v1*4294967296+v2)*P+g*Vl:=by rw[hV];grind
 have e2:V=v1*(4294967296*P)+v2*P+Vl:=by rw[hV];grind
 omega
theorem guess_gt {v1 v2 Vl V top u2 Ul U P g:Int} (hP:0<P) (hVl:0≤Vl∧Vl<P) (hUl:Ul<P) (hV:V=(v1*4294967296+v2)*P+Vl) (hU:U=(top*4294967296+u2)*P+Ul)
  (hg:0≤g) (h:(top-(g+1)*v1)*4294967296+u2<(g+1)*v2):U<(g+1)*V:=by
 have h1:top*4294967296+u2+1≤(g+1)*(v1*4294967296+v2):=by grind
 have h2:(top*4294967296+u2+1)*P≤(g+1)*(v1*4294967296+v2)*P:=Int.mul_le_mul_of_nonneg_right h1 (Int.le_of_lt hP);have h3:0≤(g+1)*Vl:=Int.mul_nonneg (by omega) hVl.1
 have e1:(g+1)*V=(g+1)*(v1*4294967296+v2)*P+(g+1)*Vl:=by rw[hV];grind
 have e2:(top*4294967296+u2+1)*P=(top*4294967296+u2)*P+P:=by grind
 omega
theorem qsP {v1 v2 Vl V top u2 Ul U P g:Int} (hP:0<P) (hv1:0<v1) (hv2:0≤v2) (hu2:u2<4294967296) (hVl:0≤Vl∧Vl<P) (hUl:Ul<P) (hV:V=(v1*4294967296+v2)*P+Vl) (hU:U=(top*4294967296+u2)*P+Ul)
  (hg:0≤g) (h:top<(g+1)*v1):U<(g+1)*V:=by
 have h1:(top+1)*(4294967296*P)≤(g+1)*v1*(4294967296*P):=Int.mul_le_mul_of_nonneg_right (by omega) (by omega);have h2:0≤(g+1)*(v2*P+Vl):=Int.mul_nonneg (by omega) (by have:=Int.mul_nonneg hv2 (Int.le_of_lt hP);omega);have h3:(u2+1)*P≤4294967296*P:=Int.mul_le_mul_of_nonneg_right (by omega) (Int.le_of_lt hP)
 have e1:(g+1)*V=(g+1)*v1*(4294967296*P)+(g+1)*(v2*P+Vl):=by rw[hV];grind
 have e2:U=top*(4294967296*P)+u2*P+Ul:=by rw[hU];grind
 have e3:(top+1)*(4294967296*P)=top*(4294967296*P)+4294967296*P:=by grind
 have e4:(u2+1)*P=u2*P+P:=by grind
 omega
theorem win_eq {j s:Nat} (hj:j+s≤4000000000000):(w64 (w64 ((j:Int)+(s:Int))+1)).toNat-((j:Int)).toNat=s+1:=by
 rw[wi_id (z:=(j:Int)+(s:Int)) (by omega) (by omega),wi_id (by omega) (by omega)];omega
section
variable {v u q : List Int} {j s : Nat}
theorem qu4 (hv:Dig v) (hs:v.length=s) (hs2:2≤s) (hu:Dig u) (hul:j+s+1≤u.length) (hlim:u.length≤4000000000000) {top g0:Int} (hv1:0<v[s-1]'(by omega)) (hg0:0≤g0∧g0<4294967296) (hr0:0≤top-g0*v[s-1]'(by omega)) (hr1:top-g0*v[s-1]'(by omega)<8589934592) :
  ∃g,iterW (qai v (((j:Int),()),(u,q,()))) ((g0,top-g0*v[s-1]'(by omega),()),())=some ((g,()),())∧0≤g∧g<4294967296∧g*v[s-2]'(by omega)≤(top-g*v[s-1]'(by omega))*4294967296+u[j+s-2]'(by omega) ∧
   (g=g0∨(top-(g+1)*v[s-1]'(by omega))*4294967296+u[j+s-2]'(by omega)<(g+1)*v[s-2]'(by omega)):=by
 have h1l:s-1<v.length:=by omega
 have h2l:s-2<v.length:=by omega
 have h3l:j+s-2<u.length:=by omega
 obtain⟨v1,hv1e⟩:∃v1,v1=v[s-1]'h1l:=⟨_,rfl⟩;obtain⟨v2,hv2e⟩:∃v2,v2=v[s-2]'h2l:=⟨_,rfl⟩;obtain⟨u2,hu2e⟩:∃u2,u2=u[j+s-2]'h3l:=⟨_,rfl⟩;have d1:=hv.get h1l;have d2:=hv.get h2l;have d3:=hu.get h3l;rw[←hv1e] at d1 hv1 hr0 hr1 ⊢;rw[←hv2e] at d2 ⊢;rw[←hu2e] at d3 ⊢
 have es2:w64 (((v.length:Nat):Int)-2)=((s-2:Nat):Int):=by rw[hs,wi_id (by omega) (by omega)];omega
 have es1:w64 (((v.length:Nat):Int)-1)=((s-1:Nat):Int):=by rw[hs,wi_id (by omega) (by omega)];omega
 have a1:at? v ((s-1:Nat):Int)=some v1:=by rw[qp v h1l,hv1e]
 have a2:at? v ((s-2:Nat):Int)=some v2:=by rw[qp v h2l,hv2e]
 have ew:(w64 (w64 ((j:Int)+((v.length:Nat):Int))+1)).toNat-((j:Int)).toNat=s+1:=by rw[hs];exact win_eq (by omega)
 have ew':=ew;rw[Int.toNat_natCast] at ew';have eu:getD' u (j+(s-2)) 0=u2:=by
  rw[hu2e]
  have:j+(s-2)=j+s-2:=by omega
  simp only[this];exact qbt h3l
 obtain⟨r,h1,g,rfl,h2⟩:=qg (f:=qai v (((j:Int),()),(u,q,())))
  (fun x=>∃g,x=((g,top-g*v1,()),())∧0≤g∧g<4294967296∧0≤top-g*v1∧top-g*v1<8589934592∧(g=g0∨(top-(g+1)*v1)*4294967296+u2<(g+1)*v2)) (fun x=>(4294967296-x.1.2.1).toNat)
  (fun r=>∃g,r=((g,()),())∧0≤g∧g<4294967296∧g*v2≤(top-g*v1)*4294967296+u2∧(g=g0∨(top-(g+1)*v1)*4294967296+u2<(g+1)*v2)) (by
  rintro x ⟨g,rfl,h1,h2,h3,h4,h5⟩
  obtain⟨rest,hrest⟩:∃rest,rest=top-g*v1:=⟨_,rfl⟩;rw[←hrest] at h3 h4 ⊢;have hgv:0≤g*v2:=Int.mul_nonneg h1 d2.1;have hgv2:g*v2≤4294967295*4294967295:=Int.mul_le_mul (by omega) (by omega) d2.1 (by omega)
  have hgw:wu64 (g*wu64 v2)=g*v2:=by rw[wu_id (z:=v2) (by omega) (by omega),wu_id hgv (by omega)]
  by_cases hlt:rest<4294967296
  ·have hior:ior .u64 (shK .shl .u64 rest 32) (wu64 u2)=rest*4294967296+u2:=by
    rw[wu_id (z:=u2) (by omega) (by omega),ior_hi h3 hlt d3.1 d3.2]
   by_cases hc:rest*4294967296+u2<g*v2
   ·have hg1:1≤g:=by
     rcases Int.lt_or_eq_of_le h1 with h | h
     ·omega
     ·rw[←h,Int.zero_mul] at hc;omega
    have step:qai v (((j:Int),()),(u,q,())) ((g,rest,()),())=some (.inl ((g-1,rest+v1,()),())):=by
     unfold qai;simp only[es2,es1,hlt,decide_true,gat,cond_true,a2,a1,Option.bind_some,imp,qc,ew,ew',Int.toNat_natCast,eu,hgw,hior,qA (show s-2<s+1 by omega),Bool.true_and];rw[decide_eq_true (show g*v2>rest*4294967296+u2 from hc),cond_true,wu_id (z:=g-1) (by omega) (by omega),wu_id (z:=v1) (by omega) (by omega),wu_id (z:=rest+v1) (by omega) (by omega)]
    have e:rest+v1=top-(g-1)*v1:=by rw[hrest];grind
    refine .inl ⟨_,step,⟨g-1,by rw[e],by omega,by omega,by rw[←e];omega,by rw[←e];omega,.inr ?_⟩,by show(4294967296-(rest+v1)).toNat<(4294967296-rest).toNat;omega⟩;rw[Int.sub_add_cancel,←hrest];exact hc
   ·have step:qai v (((j:Int),()),(u,q,())) ((g,rest,()),())=some (.inr ((g,()),())):=by
     unfold qai;simp only[es2,es1,hlt,decide_true,gat,cond_true,a2,a1,Option.bind_some,imp,qc,ew,ew',Int.toNat_natCast,eu,hgw,hior,qA (show s-2<s+1 by omega),Bool.true_and];rw[decide_eq_false (show ¬(g*v2>rest*4294967296+u2) from hc),cond_false]
    exact .inr ⟨_,step,g,rfl,h1,h2,by rw[←hrest];omega,h5⟩
  ·have step:qai v (((j:Int),()),(u,q,())) ((g,rest,()),())=some (.inr ((g,()),())):=by
    unfold qai;simp only[hlt,decide_false,gat,cond_false,Option.bind_some,imp,qc,Bool.false_and]
   refine .inr ⟨_,step,g,rfl,h1,h2,?_,h5⟩;rw[←hrest]
   omega) ((g0,top-g0*v1,()),()) ⟨g0,rfl,hg0.1,hg0.2,hr0,hr1,.inl rfl⟩
 exact⟨g,h1,h2⟩
theorem qm9:∀ {l:List Int} {p:Nat},(∀k,p≤k→l.getD k 0=0)→val l=val (l.take p)
 | [],p,_=>by simp
 | d::r,0,h=>by
  have h0:d=0:=by simpa using h 0 (Nat.le_refl _)
  have:=qm9 (l:=r) (p:=0) fun k _=>by simpa using h (k+1) (Nat.zero_le _)
  show d+4294967296*val r=0;rw[this,h0];simp[val]
 | d::r,p+1,h=>by
  have:=qm9 (l:=r) (p:=p) fun k hk=>by simpa using h (k+1) (by omega)
  show d+4294967296*val r=d+4294967296*val (r.take p);rw[this]
theorem qkI:∀ {l:List Int} {p:Nat},Dig l→val l<pw p→∀k,p≤k→l.getD k 0=0
 | [],p,_,_,k,_=>by simp
 | d::r,p,hd,h,k,hk=>by
  have h1:=qb9 hd.tail;have h2:=hd.head;have h:d+4294967296*val r<pw p:=h
  cases p with
  | zero =>
   have h:d+4294967296*val r<1:=h
   have e1:d=0:=by omega
   have e2:val r=0:=by omega
   cases k with
   | zero=>simpa using e1
   | succ k=>simpa using qkI (p:=0) hd.tail (by rw[e2];show(0:Int)<1;omega) k (Nat.zero_le _)
  | succ p =>
   obtain⟨k,rfl⟩:∃k',k=k'+1:=⟨k-1,by omega⟩;have h:d+4294967296*val r<4294967296*pw p:=h;simpa using qkI (p:=p) hd.tail (by omega) k (by omega)
theorem qrB {l:List Int} {j k:Nat}:(l.drop j).getD k 0=l.getD (j+k) 0:=by simp[List.getElem?_drop]
theorem alg4 {O U Pj Pi g V e c b c' b' d:Int} (h:O+Pj*(g*V)=U+Pj*Pi*(c+b)):O+Pj*Pi*(d-(c+g*e-4294967296*c')-b+4294967296*b'-d)+Pj*(g*(V+Pi*e))=U+4294967296*(Pj*Pi)*(c'+b'):=by
 have e1:O+Pj*Pi*(d-(c+g*e-4294967296*c')-b+4294967296*b'-d)+Pj*(g*(V+Pi*e))=(O+Pj*(g*V))-Pj*Pi*(c+b)+4294967296*(Pj*Pi)*(c'+b'):=by grind
 rw[e1,h];omega
theorem sub_loop (hv:Dig v) (hs:v.length=s) (hu:Dig u) (hul:j+s+1≤u.length) (hlim:u.length≤4000000000000) {g:Int} (hg:0≤g∧g<4294967296) :
  ∃b u',iterW (qaQ (((j:Int),()),(u,q,())) v ((g,()),())) ((0,0,0,()),(u,()))=some ((b,()),(u',()))∧Dig u'∧u'.length=u.length∧(b=0∨b=1)∧val u'+pw j*(g*val v)=val u+pw (j+s+1)*b ∧
   (∀k,k<j→u'.getD k 0=u.getD k 0)∧∀k,j+s+1≤k→u'.getD k 0=u.getD k 0:=by
 have ew:(w64 (w64 ((j:Int)+((v.length:Nat):Int))+1)).toNat-((j:Int)).toNat=s+1:=by rw[hs];exact win_eq (by omega)
 have ew':=ew;rw[Int.toNat_natCast] at ew';obtain⟨r,h1,b,u',rfl,h2⟩:=qg (f:=qaQ (((j:Int),()),(u,q,())) v ((g,()),()))
  (fun x=>∃c b o,∃i:Nat,x=((c,b,(i:Int),()),(o,()))∧Dig o∧o.length=u.length∧i≤s+1∧(0≤c∧c<4294967296)∧(i=s+1→c=0)∧(b=0∨b=1)∧val o+pw j*(g*val (v.take i))=val u+pw (j+i)*(c+b)∧(∀k,k<j→o.getD k 0=u.getD k 0)∧∀k,j+i≤k→o.getD k 0=u.getD k 0) (fun x=>s+1-(x.1.2.2.1).toNat)
  (fun r=>∃b o,r=((b,()),(o,()))∧Dig o∧o.length=u.length∧(b=0∨b=1)∧val o+pw j*(g*val v)=val u+pw (j+s+1)*b∧(∀k,k<j→o.getD k 0=u.getD k 0)∧∀k,j+s+1≤k→o.getD k 0=u.getD k 0) (by
  rintro x ⟨c,b,o,i,rfl,h1,h2,h3,h4,h4',h5,h6,h7,h8⟩
  by_cases hi:i<s+1
  ·have hji:j+i<o.length:=by omega
   have hlt:decide ((i:Int)<((s+1:Nat):Int))=true:=by simp;omega
   have hdo:=h1.get hji;obtain⟨p,hp⟩:∃p,p=c+g*(if i<s then v.getD i 0 else 0):=⟨_,rfl⟩;have hvi:0≤(if i<s then v.getD i 0 else 0)∧(if i<s then v.getD i 0 else 0)<4294967296:=by
    by_cases his:i<s
    ·rw[if_pos his,qaR (by omega)];exact hv.get (by omega)
    ·rw[if_neg his];omega
   have p0:0≤g*(if i<s then v.getD i 0 else 0):=Int.mul_nonneg hg.1 hvi.1;have p1:g*(if i<s then v.getD i 0 else 0)≤4294967295*4294967295:=Int.mul_le_mul (by omega) (by omega) hvi.1 (by omega);have hc:(bif decide ((i:Int)<((v.length:Nat):Int)) then Option.bind (at? v (i:Int)) fun d31=>some ((wu64 (c+wu64 (g*wu64 d31)),()),()) else some ((c,()),()))=some ((p,()),()):=by
    by_cases his:i<s
    ·have hdv:=hv.get (show i<v.length by omega);have hg':v.getD i 0=v[i]'(by omega):=qaR (by omega);rw[if_pos his,hg'] at hp p0 p1;rw[decide_eq_true (by omega),cond_true,qp v (by omega),Option.bind_some,wu_id (z:=v[i]'(by omega)) (by omega) (by omega),wu_id (z:=g*v[i]'(by omega)) p0 (by omega),wu_id (by omega) (by omega),hp]
    ·rw[if_neg his,Int.mul_zero,Int.add_zero] at hp;rw[decide_eq_false (by omega),cond_false,hp]
   have hand:iand .u64 p 4294967295=p % 4294967296:=iand_lo (by omega) (by omega);obtain⟨x,hx⟩:∃x,x=o[j+i]-p % 4294967296-b:=⟨_,rfl⟩
   have hx0 : -4294967296≤x∧x<4294967296:=by omega
   have ex:w64 (w64 (w64 o[j+i]-w64 (p % 4294967296))-b)=x:=by
    rw[wi_id (z:=o[j+i]) (by omega) (by omega),wi_id (z:=p % 4294967296) (by omega) (by omega),wi_id (z:=o[j+i]-p % 4294967296) (by omega) (by omega),wi_id (by omega) (by omega),hx]
   have hb:(bif decide (x<0) then some ((((1:Int),w64 (x+4294967296),()),()):(Int×Int×Unit)×Unit) else some ((0,x,()),()))=some (((if x<0 then 1 else 0),x % 4294967296,()),()):=by
    by_cases hneg:x<0
    ·have e1:x % 4294967296=x+4294967296:=by omega
     have e2:w64 (x+4294967296)=x+4294967296:=wi_id (by omega) (by omega);simp only[hneg,decide_true,cond_true,if_true,e1,e2]
    ·have e1:x % 4294967296=x:=by omega
     simp only[hneg,decide_false,cond_false,if_false,e1]
   have step:qaQ (((j:Int),()),(u,q,())) v ((g,()),()) ((c,b,(i:Int),()),(o,()))=some (.inl ((p / 4294967296,(if x<0 then 1 else 0),((i+1:Nat):Int),()),(o.set (j+i) (x % 4294967296),()))):=by
    unfold qaQ;simp only[ew,ew',Int.toNat_natCast,hlt,cond_true,hc,Option.bind_some,qA hi,qc,Int.toNat_natCast,qbt hji,hand,ex,hb,wr_32,Int.emod_emod,qkN (z:=p) (by omega)];rw[wi_id (by omega) (by omega)];rfl
   refine .inl ⟨_,step,⟨_,_,_,i+1,rfl,h1.set _ (by omega) (by omega),by rw[List.length_set];exact h2,hi,by omega,fun e=>?_,by split<;>simp,?_,fun k hk=>?_,fun k hk=>?_⟩,by simp;omega⟩
   ·have:i=s:=by omega
    rw[if_neg (by omega),Int.mul_zero,Int.add_zero] at hp;omega
   ·have hvt:val (v.take (i+1))=val (v.take i)+pw i*(if i<s then v.getD i 0 else 0):=by
     by_cases his:i<s
     ·rw[if_pos his,qan (by omega),qaR (by omega)]
     ·rw[if_neg his,List.take_of_length_le (by omega),List.take_of_length_le (by omega)];omega
    rw[qpH hji,hvt];show _=_+pw ((j+i)+1)*_;show _=_+4294967296*pw (j+i)*_;rw[qhJ] at h6 ⊢
    have hx2:x % 4294967296=x+4294967296*(if x<0 then 1 else 0):=by split<;>omega
    rw[hx2]
    have hp2:p % 4294967296=p-4294967296*(p / 4294967296):=by omega
    rw[hp2] at hx;generalize (if x<0 then(1:Int) else 0)=b';generalize (if i<s then v.getD i 0 else 0)=e at *;generalize p / 4294967296=c' at *;generalize val (List.take i v)=V at *;generalize o[j+i]=d at *;subst hx;subst hp;exact alg4 h6
   ·rw[getD_set_ne (by omega)];exact h7 k hk
   ·rw[getD_set_ne (by omega)];exact h8 k (by omega)
  ·have hin:i=s+1:=by omega
   have hlt:decide ((i:Int)<((s+1:Nat):Int))=false:=by simp;omega
   have step:qaQ (((j:Int),()),(u,q,())) v ((g,()),()) ((c,b,(i:Int),()),(o,()))=some (.inr ((b,()),(o,()))):=by
    unfold qaQ;simp only[ew,ew',Int.toNat_natCast,hlt,cond_false]
   refine .inr ⟨_,step,b,o,rfl,h1,h2,h5,?_,h7,fun k hk=>h8 k (by omega)⟩;rw[h4' hin,hin,List.take_of_length_le (by omega),Int.zero_add] at h6
   exact h6) ((0,0,((0:Nat):Int),()),(u,())) ⟨0,0,u,0,rfl,hu,rfl,Nat.zero_le _,by omega,fun h=>by omega,.inl rfl,by simp[val],fun _ _=>rfl,fun _ _=>rfl⟩
 exact⟨b,u',h1,h2⟩
theorem add_back (hv:Dig v) (hs:v.length=s) {u0:List Int} (hu:Dig u) (hul:j+s+1≤u.length) (hlim:u.length≤4000000000000) :
  ∃c u',iterW (qaM (((j:Int),()),(u0,q,())) v) ((0,0,()),(u,()))=some ((),(u',()))∧Dig u'∧u'.length=u.length∧(c=0∨c=1)∧val u'+pw (j+s+1)*c=val u+pw j*val v ∧
   (∀k,k<j→u'.getD k 0=u.getD k 0)∧∀k,j+s+1≤k→u'.getD k 0=u.getD k 0:=by
 have ew:(w64 (w64 ((j:Int)+((v.length:Nat):Int))+1)).toNat-((j:Int)).toNat=s+1:=by rw[hs];exact win_eq (by omega)
 have ew':=ew;rw[Int.toNat_natCast] at ew';obtain⟨r,h1,c,u',rfl,h2⟩:=qg (f:=qaM (((j:Int),()),(u0,q,())) v)
  (fun x=>∃c o,∃i:Nat,x=((c,(i:Int),()),(o,()))∧Dig o∧o.length=u.length∧i≤s+1∧(c=0∨c=1)∧val o+pw (j+i)*c=val u+pw j*val (v.take i)∧(∀k,k<j→o.getD k 0=u.getD k 0)∧∀k,j+i≤k→o.getD k 0=u.getD k 0) (fun x=>s+1-(x.1.2.1).toNat)
  (fun r=>∃c o,r=((),(o,()))∧Dig o∧o.length=u.length∧(c=0∨c=1)∧val o+pw (j+s+1)*c=val u+pw j*val v∧(∀k,k<j→o.getD k 0=u.getD k 0)∧∀k,j+s+1≤k→o.getD k 0=u.getD k 0) (by
  rintro x ⟨c,o,i,rfl,h1,h2,h3,h4,h6,h7,h8⟩
  by_cases hi:i<s+1
  ·have hji:j+i<o.length:=by omega
   have hlt:decide ((i:Int)<((s+1:Nat):Int))=true:=by simp;omega
   have hdo:=h1.get hji;obtain⟨p,hp⟩:∃p,p=c+o[j+i]+(if i<s then v.getD i 0 else 0):=⟨_,rfl⟩;have hvi:0≤(if i<s then v.getD i 0 else 0)∧(if i<s then v.getD i 0 else 0)<4294967296:=by
    by_cases his:i<s
    ·rw[if_pos his,qaR (by omega)];exact hv.get (by omega)
    ·rw[if_neg his];omega
   have hc:(bif decide ((i:Int)<((v.length:Nat):Int)) then Option.bind (at? v (i:Int)) fun d31=>some ((wu64 (wu64 (c+wu64 o[j+i])+wu64 d31),()),()) else some ((wu64 (c+wu64 o[j+i]),()),()))=some ((p,()),()):=by
    by_cases his:i<s
    ·have hdv:=hv.get (show i<v.length by omega);have hg':v.getD i 0=v[i]'(by omega):=qaR (by omega);rw[if_pos his,hg'] at hp;rw[decide_eq_true (by omega),cond_true,qp v (by omega),Option.bind_some,wu_id (z:=v[i]'(by omega)) (by omega) (by omega),wu_id (z:=o[j+i]) (by omega) (by omega),wu_id (z:=c+o[j+i]) (by omega) (by omega),wu_id (by omega) (by omega),hp]
    ·rw[if_neg his,Int.add_zero] at hp;rw[decide_eq_false (by omega),cond_false,wu_id (z:=o[j+i]) (by omega) (by omega),wu_id (by omega) (by omega),hp]
   have step:qaM (((j:Int),()),(u0,q,())) v ((c,(i:Int),()),(o,()))=some (.inl ((p / 4294967296,((i+1:Nat):Int),()),(o.set (j+i) (p % 4294967296),()))):=by
    unfold qaM;simp only[ew,ew',Int.toNat_natCast,hlt,cond_true,qA hi,qc,Int.toNat_natCast,qbt hji,hc,Option.bind_some,wr_32,qkN (z:=p) (by omega)];rw[wi_id (by omega) (by omega)];rfl
   refine .inl ⟨_,step,⟨_,_,i+1,rfl,h1.set _ (by omega) (by omega),by rw[List.length_set];exact h2,hi,by omega,?_,fun k hk=>?_,fun k hk=>?_⟩,by simp;omega⟩
   ·have hvt:val (v.take (i+1))=val (v.take i)+pw i*(if i<s then v.getD i 0 else 0):=by
     by_cases his:i<s
     ·rw[if_pos his,qan (by omega),qaR (by omega)]
     ·rw[if_neg his,List.take_of_length_le (by omega),List.take_of_length_le (by omega)];omega
    rw[qpH hji,hvt];show _+pw ((j+i)+1)*_=_;show _+4294967296*pw (j+i)*_=_;rw[qhJ] at h6 ⊢
    have hp2:p % 4294967296=p-4294967296*(p / 4294967296):=by omega
    rw[hp2];generalize (if i<s then v.getD i 0 else 0)=e at *;generalize p / 4294967296=c' at *;generalize val (List.take i v)=V at *;generalize o[j+i]=d at *;subst hp
    grind
   ·rw[getD_set_ne (by omega)];exact h7 k hk
   ·rw[getD_set_ne (by omega)];exact h8 k (by omega)
  ·have hin:i=s+1:=by omega
   have hlt:decide ((i:Int)<((s+1:Nat):Int))=false:=by simp;omega
   have step:qaM (((j:Int),()),(u0,q,())) v ((c,(i:Int),()),(o,()))=some (.inr ((),(o,()))):=by
    unfold qaM;simp only[ew,ew',Int.toNat_natCast,hlt,cond_false]
   refine .inr ⟨_,step,c,o,rfl,h1,h2,h4,?_,h7,fun k hk=>h8 k (by omega)⟩;rw[hin,List.take_of_length_le (by omega)] at h6
   exact h6) ((0,((0:Nat):Int),()),(u,())) ⟨0,u,0,rfl,hu,rfl,Nat.zero_le _,.inl rfl,by simp[val],fun _ _=>rfl,fun _ _=>rfl⟩
 exact⟨c,u',h1,h2⟩
end
end Lvl
end Go.Proofs.YteahiolockghkaaGreatDoor
namespace Go.Proofs.YteahiolockghkaaGreatDoor
open Go.Den
namespace Lvl
set_option linter.unusedVariables false
set_option linter.unusedSimpArgs false

theorem qrZ {l l':List Int} {j:Nat} (hl:l.length=l'.length) (h:∀k,k<j→l.getD k 0=l'.getD k 0):l.take j=l'.take j:=by
 refine List.ext_getElem (by simp[hl]) fun i h1 h2=>?_;simp only[List.length_take] at h1 h2;rw[List.getElem_take,List.getElem_take];have:=h i (by omega)
 rwa [qaR (by omega),qaR (by omega)] at this
theorem qeG {l:List Int} {j:Nat} (h:j≤l.length):val l=val (l.take j)+pw j*val (l.drop j):=by
 have:=qdC (l.take j) (l.drop j)
 rwa [List.take_append_drop,List.length_take,Nat.min_eq_left h] at this
section
variable {v u q : List Int} {j s : Nat}
theorem window {u:List Int} (hu:Dig u) {j s:Nat} (hs2:2≤s) (hul:j+s+1≤u.length) (hz:∀k,j+s+1≤k→u.getD k 0=0) :
  ∃Ul,(0≤Ul∧Ul<pw (s-2))∧val (u.drop j)=((u[j+s]'(by omega)*4294967296+u[j+s-1]'(by omega))*4294967296+u[j+s-2]'(by omega))*pw (s-2)+Ul∧val (u.drop j)<pw (s+1):=by
 have hd:=hu.drop j;have hl:(u.drop j).length=u.length-j:=List.length_drop
 have ha:val (u.drop j)=val ((u.drop j).take (s+1)):=qm9 fun k hk=>by rw[qrB];exact hz _ (by omega)
 have g0:(u.drop j)[s]'(by omega)=u[j+s]'(by omega):=by simp
 have g1:(u.drop j)[s-1]'(by omega)=u[j+s-1]'(by omega):=by
  simp only[List.getElem_drop];congr 1;omega
 have g2:(u.drop j)[s-2]'(by omega)=u[j+s-2]'(by omega):=by
  simp only[List.getElem_drop];congr 1;omega
 have e0:=qan (l:=u.drop j) (i:=s) (by omega);have e1:=qan (l:=u.drop j) (i:=s-1) (by omega);have e2:=qan (l:=u.drop j) (i:=s-2) (by omega);rw[show s-1+1=s by omega] at e1;rw[show s-2+1=s-1 by omega] at e2;rw[g0] at e0;rw[g1] at e1;rw[g2] at e2;have p1:pw (s-1)=4294967296*pw (s-2):=by
  have:s-1=(s-2)+1:=by omega
  rw[this];rfl
 have p0:pw s=4294967296*(4294967296*pw (s-2)):=by
  have:s=(s-1)+1:=by omega
  rw[this];show 4294967296*pw (s-1)=_;rw[p1];rfl
 have hlt:=qb9 (hd.take (s-2));rw[List.length_take,Nat.min_eq_left (by omega)] at hlt;have hlt2:=qb9 (hd.take (s+1));rw[List.length_take,Nat.min_eq_left (by omega)] at hlt2;refine⟨_,hlt,?_,by rw[ha];exact hlt2.2⟩;rw[ha,e0,e1,e2,p1,p0]
 grind
theorem qvl (hs:v.length=s) (hs2:2≤s) (hul:j+s+1≤u.length) (hlim:u.length≤4000000000000) {v1 a b top g0 g:Int} (hv1:0<v1∧v1<4294967296) (a1:at? v ((s-1:Nat):Int)=some v1) (gs:getD' u (j+s) 0=a) (gs1:getD' u (j+(s-1)) 0=b)
  (ha:0≤a∧a<4294967296) (hb:0≤b∧b<4294967296) (htop:top=a*4294967296+b) (hg0:g0=if (4294967295:Int)<top / v1 then 4294967295 else top / v1) (hr0:0≤top-g0*v1)
  (k1:iterW (qai v (((j:Int),()),(u,q,()))) ((g0,top-g0*v1,()),())=some ((g,()),())) :
  qbo v (((j:Int),()),(u,q,()))=(Option.bind (iterW (qaQ (((j:Int),()),(u,q,())) v ((g,()),())) ((0,0,0,()),(u,()))) fun x36 =>
   bif (x36.1.1==(0:Int)) then(req (inb (j:Int) q.length) (Option.bind (some (getD' q j (0:Int))) fun e37=>Option.bind (some (q.set j (IntKind.wrap .u32 g))) fun y38=>some ((),(x36.2.1,y38,()))))
   else Option.bind (iterW (qaM (((j:Int),()),(u,q,())) v) ((0,0,()),(x36.2.1,()))) fun x44 =>
   req (inb (j:Int) q.length) (Option.bind (some (getD' q j (0:Int))) fun e45=>Option.bind (some (q.set j (IntKind.wrap .u32 (wu64 (g-(1:Int)))))) fun y46=>some ((),(x44.2.1,y46,())))).bind fun x47=>some (.inl (((j:Int)-1,()),(x47.2.1,x47.2.2.1,()))):=by
 have hjs:w64 (w64 ((j:Int)+(s:Int))+1)=((j+s+1:Nat):Int):=by rw[wi_id (z:=(j:Int)+(s:Int)) (by omega) (by omega),wi_id (by omega) (by omega)];omega
 have hbnd:qh (j:Int) ((j+s+1:Nat):Int) u.length=true:=by simp[qh];omega
 have hwin:((j+s+1:Nat):Int).toNat-((j:Int)).toNat=s+1:=by omega
 have hwin':j+s+1-j=s+1:=by omega
 have es1:w64 ((s:Int)-1)=((s-1:Nat):Int):=by rw[wi_id (by omega) (by omega)];omega
 have ev1:wu64 v1=v1:=wu_id (by omega) (by omega)
 have hv1ne:(v1 !=0)=true:=by simp;omega
 have htop0:0≤top:=by omega
 have hq0:0≤top / v1:=Int.ediv_nonneg htop0 (by omega);have hqt:top / v1≤top:=Int.ediv_le_self _ htop0;have etop:ior .u64 (shK .shl .u64 (wu64 a) 32) (wu64 b)=top:=by
  rw[wu_id (z:=a) (by omega) (by omega),wu_id (z:=b) (by omega) (by omega),ior_hi ha.1 ha.2 hb.1 hb.2,htop]
 have etd:top.tdiv v1=top / v1:=Int.tdiv_eq_ediv_of_nonneg htop0;have ewq:wu64 (top / v1)=top / v1:=wu_id hq0 (by omega)
 have hg0v:0≤g0*v1:=Int.mul_nonneg (by rw[hg0];split<;>omega) (by omega)
 have er:wu64 (top-wu64 (g0*v1))=top-g0*v1:=by rw[wu_id (z:=g0*v1) hg0v (by omega),wu_id hr0 (by omega)]
 have hge:decide ((j:Int)≥0)=true:=by simp
 have ej:w64 ((j:Int)-1)=(j:Int)-1:=wi_id (by omega) (by omega);unfold qbo;simp only[hge,cond_true,hs,hjs,hbnd,qc,hwin,hwin',Int.toNat_natCast,qA (show s<s+1 by omega),es1,qA (show s-1<s+1 by omega),a1,Option.bind_some,ev1,hv1ne,gs,gs1,etop,etd,ewq,←hg0,er,k1,ej]
theorem qvy (hv:Dig v) (hs:v.length=s) (hs2:2≤s) (htop:2147483648≤v[s-1]'(by omega)) (hu:Dig u) (hul:j+s+1≤u.length) (hlim:u.length≤4000000000000) (hq:j<q.length) (hlow:val (u.drop (j+1))<val v) :
  ∃u' d,qbo v (((j:Int),()),(u,q,()))=some (.inl (((j:Int)-1,()),(u',q.set j d,())))∧Dig u'∧u'.length=u.length∧(0≤d∧d<4294967296)∧val (u.drop j)=d*val v+val (u'.drop j)∧val (u'.drop j)<val v∧∀k,k<j→u'.getD k 0=u.getD k 0:=by
 have hVs:=qb9 hv;rw[hs] at hVs;have hz:∀k,j+s+1≤k→u.getD k 0=0:=fun k hk=>by
  have:=qkI (hu.drop (j+1)) (p:=s) (by omega) (k-(j+1)) (by omega)
  rwa [qrB,show j+1+(k-(j+1))=k by omega] at this
 obtain⟨Ul,hUl,hU,hUlt⟩:=window hu hs2 hul hz
 have h1l:s-1<v.length:=by omega
 have h2l:s-2<v.length:=by omega
 have h3l:j+s<u.length:=by omega
 have h4l:j+s-1<u.length:=by omega
 have h5l:j+s-2<u.length:=by omega
 have p1:pw (s-1)=4294967296*pw (s-2):=by
  have:s-1=(s-2)+1:=by omega
  rw[this];rfl
 have hV:val v=(v[s-1]'h1l*4294967296+v[s-2]'h2l)*pw (s-2)+val (v.take (s-2)):=by
  have e1:=qan (l:=v) (i:=s-1) h1l;have e2:=qan (l:=v) (i:=s-2) h2l;rw[show s-1+1=s by omega,List.take_of_length_le (by omega)] at e1;rw[show s-2+1=s-1 by omega] at e2;rw[e1,e2,p1]
  grind
 have hVl:=qb9 (hv.take (s-2));rw[List.length_take,Nat.min_eq_left (by omega)] at hVl;obtain⟨Vl,hVle⟩:∃Vl,Vl=val (v.take (s-2)):=⟨_,rfl⟩;rw[←hVle] at hV hVl;have hUB:val (u.drop j)<4294967296*val v:=by
  have e:=qco (l:=u) (i:=j) (by omega);have:=hu.get (show j<u.length by omega);omega
 have hP:=qdL (s-2);have d1:=hv.get h1l;have d2:=hv.get h2l;have d3:=hu.get h3l;have d4:=hu.get h4l;have d5:=hu.get h5l;obtain⟨V,hVe⟩:∃V,V=val v:=⟨_,rfl⟩;obtain⟨U,hUe⟩:∃U,U=val (u.drop j):=⟨_,rfl⟩;obtain⟨top,htope⟩:∃top,top=u[j+s]'h3l*4294967296+u[j+s-1]'h4l:=⟨_,rfl⟩;have hUs:u[j+s]'h3l≤v[s-1]'h1l:=by
  refine Classical.byContradiction fun hn=>?_;have h1:(v[s-1]'h1l+1)*(4294967296*(4294967296*pw (s-2)))≤u[j+s]'h3l*(4294967296*(4294967296*pw (s-2))):=Int.mul_le_mul_of_nonneg_right (by omega) (by omega);have h2:(v[s-2]'h2l+1)*(4294967296*pw (s-2))≤4294967296*(4294967296*pw (s-2)):=Int.mul_le_mul_of_nonneg_right (by omega) (by omega);have h3:0≤u[j+s-1]'h4l*(4294967296*pw (s-2)):=Int.mul_nonneg d4.1 (by omega);have h4:0≤u[j+s-2]'h5l*pw (s-2):=Int.mul_nonneg d5.1 (by omega)
  have e1:val (u.drop j)=u[j+s]'h3l*(4294967296*(4294967296*pw (s-2)))+u[j+s-1]'h4l*(4294967296*pw (s-2))+u[j+s-2]'h5l*pw (s-2)+Ul:=by rw[hU];grind
  have e2:4294967296*val v=v[s-1]'h1l*(4294967296*(4294967296*pw (s-2)))+v[s-2]'h2l*(4294967296*pw (s-2))+4294967296*Vl:=by rw[hV];grind
  have e3:(v[s-1]'h1l+1)*(4294967296*(4294967296*pw (s-2)))=v[s-1]'h1l*(4294967296*(4294967296*pw (s-2)))+4294967296*(4294967296*pw (s-2)):=by grind
  have e4:(v[s-2]'h2l+1)*(4294967296*pw (s-2))=v[s-2]'h2l*(4294967296*pw (s-2))+4294967296*pw (s-2):=by grind
  omega
 have htop0:0≤top:=by omega
 have htop1:top<18446744073709551616:=by omega
 obtain⟨v1,hv1e⟩:∃v1,v1=v[s-1]'h1l:=⟨_,rfl⟩;have hq0:0≤top / v1:=Int.ediv_nonneg htop0 (by omega);have hqv:top / v1*v1≤top:=Int.ediv_mul_le _ (by omega);have hqv2:top<(top / v1+1)*v1:=Int.lt_ediv_add_one_mul_self _ (by omega);have hqt:top / v1≤top:=Int.ediv_le_self _ htop0;obtain⟨g0,hg0⟩:∃g0,g0=if (4294967295:Int)<top / v1 then 4294967295 else top / v1:=⟨_,rfl⟩
 have hg0r:0≤g0∧g0<4294967296:=by rw[hg0];split<;>omega
 have hr0:0≤top-g0*v1:=by
  have:g0*v1≤top / v1*v1:=Int.mul_le_mul_of_nonneg_right (by rw[hg0];split<;>omega) (by omega)
  omega
 have hr1:top-g0*v1<8589934592:=by
  by_cases h:(4294967295:Int)<top / v1
  ·rw[hg0,if_pos h];rw[←hv1e] at hUs d1;omega
  ·rw[hg0,if_neg h]
   have e:(top / v1+1)*v1=top / v1*v1+v1:=by grind
   rw[←hv1e] at d1;omega
 have hfirst:U<(g0+1)*V:=by
  by_cases h:(4294967295:Int)<top / v1
  ·rw[hg0,if_pos h,hUe,hVe];exact hUB
  ·rw[hUe,hVe];refine qsP (v1:=v1) (v2:=v[s-2]'h2l) (Vl:=Vl) (top:=top) (u2:=u[j+s-2]'h5l) (Ul:=Ul) (P:=pw (s-2)) hP (by omega) d2.1 d5.2 hVl hUl.2 (by rw[hv1e];exact hV) (by rw[htope];exact hU) hg0r.1 ?_;rw[hg0,if_neg h];exact hqv2
 obtain⟨g,k1,k2,k3,k4,k5⟩:=qu4 (q:=q) (top:=top) (g0:=g0) hv hs hs2 hu hul hlim (by omega) hg0r (by rw[←hv1e];exact hr0) (by rw[←hv1e];exact hr1);have hgV:g*V<U+V:=by
  rw[hUe,hVe];exact guess_le (v1:=v[s-1]'h1l) (v2:=v[s-2]'h2l) (Vl:=Vl) (top:=top) (u2:=u[j+s-2]'h5l) (Ul:=Ul) (P:=pw (s-2)) hP (by omega) d2.1 hVl hUl.1 hV (by rw[htope];exact hU) ⟨k2,k3⟩ k4
 have hgV2:U<(g+1)*V:=by
  rcases k5 with k5 | k5
  ·rw[k5];exact hfirst
  ·rw[hUe,hVe];exact guess_gt (v1:=v[s-1]'h1l) (v2:=v[s-2]'h2l) (Vl:=Vl) (top:=top) (u2:=u[j+s-2]'h5l) (Ul:=Ul) (P:=pw (s-2)) hP hVl hUl.2 hV (by rw[htope];exact hU) k2 k5
 obtain⟨b,u1,m1,m2,m3,m4,m5,m6,m7⟩:=sub_loop (q:=q) hv hs hu hul hlim (g:=g) ⟨k2,k3⟩
 have hps:pw (j+s+1)=pw j*pw (s+1):=by rw[Nat.add_assoc,qhJ]
 have hcut:∀ {a a':Int},pw j*a=pw j*a'→a=a':=fun {a a'} h=>Int.eq_of_mul_eq_mul_left (Int.ne_of_gt (qdL j)) h;have hU1:val (u1.drop j)+g*V=U+pw (s+1)*b:=by
  have e1:=qeG (l:=u) (j:=j) (by omega);have e2:=qeG (l:=u1) (j:=j) (by omega);rw[qrZ (by omega) m6] at e2;rw[hps,←hVe] at m5;rw[←hUe] at e1;apply hcut;generalize val (u.take j)=A at *
  grind
 have hz1:∀k,j+s+1≤k→u1.getD k 0=0:=fun k hk=>by rw[m7 k hk];exact hz k hk
 obtain⟨_,_,_,hU1lt⟩:=window m2 hs2 (by omega) hz1;have hU1nn:=(qb9 (m2.drop j)).1;have hUnn:=(qb9 (hu.drop j)).1;rw[←hUe] at hUnn
 have hVs':V<pw s:=by rw[hVe];exact hVs.2
 have hVpos:0<V:=by
  refine Classical.byContradiction fun hn=>?_
  have:val v=0:=by omega
  have h9:0≤v[s-2]'h2l*pw (s-2):=Int.mul_nonneg d2.1 (by omega);have h8:0<v[s-1]'h1l*(4294967296*pw (s-2)):=Int.mul_pos (by omega) (by omega)
  have e:val v=v[s-1]'h1l*(4294967296*pw (s-2))+v[s-2]'h2l*pw (s-2)+Vl:=by rw[hV];grind
  omega
 have hps1:pw (s+1)=4294967296*pw s:=rfl
 have head:=qvl (q:=q) hs hs2 hul hlim (v1:=v1) (a:=u[j+s]'h3l) (b:=u[j+s-1]'h4l) (top:=top) (g0:=g0) (g:=g) (by omega) (by rw[qp v h1l,hv1e]) (qbt h3l) (by
  have:j+(s-1)=j+s-1:=by omega
  simp only[this]
  exact qbt h4l) d3 d4 htope hg0 hr0 (by rw[hv1e];exact k1)
 rcases m4 with rfl | rfl
 ·have hU1':val (u1.drop j)=U-g*V:=by omega
  have e9:(g+1)*V=g*V+V:=by grind
  refine⟨u1,g,?_,m2,m3,⟨k2,k3⟩,by rw[←hVe,←hUe];omega,by rw[←hVe];omega,m6⟩;rw[head,m1];simp only[Option.bind_some,beq_self_eq_true,cond_true,qA hq,qc,wr_32];rw[Int.emod_eq_of_lt k2 k3]
 ·have hlt0:U-g*V<0:=by
   refine Classical.byContradiction fun hn=>?_;omega
  have hg1:1≤g:=by
   rcases Int.lt_or_eq_of_le k2 with h | h
   ·omega
   ·rw[←h,Int.zero_mul] at hlt0;omega
  obtain⟨c,u2,n1,n2,n3,n4,n5,n6,n7⟩:=add_back (q:=q) (u0:=u) hv hs m2 (j:=j) (by omega) (by omega);have hU2:val (u2.drop j)+pw (s+1)*c=val (u1.drop j)+V:=by
   have e1:=qeG (l:=u1) (j:=j) (by omega);have e2:=qeG (l:=u2) (j:=j) (by omega);rw[qrZ (by omega) n6] at e2;rw[hps,←hVe] at n5;apply hcut;generalize val (u1.take j)=A at *
   grind
  have hz2:∀k,j+s+1≤k→u2.getD k 0=0:=fun k hk=>by rw[n7 k hk];exact hz1 k hk
  obtain⟨_,_,_,hU2lt⟩:=window n2 hs2 (by omega) hz2;have hc1:c=1:=by
   rcases n4 with rfl | h
   ·omega
   ·exact h
  subst hc1
  have hU2':val (u2.drop j)=U-g*V+V:=by omega
  have e9:(g-1)*V=g*V-V:=by grind
  refine⟨u2,g-1,?_,n2,by omega,by omega,by rw[←hVe,←hUe];omega,by rw[←hVe];omega,fun k hk=>by rw[n6 k hk,m6 k hk]⟩;rw[head,m1];simp only[Option.bind_some];rw[show((1:Int)==0)=false by rfl,cond_false,n1];simp only[Option.bind_some,qA hq,qc,wr_32];rw[wu_id (by omega) (by omega),Int.emod_eq_of_lt (by omega) (by omega)]
theorem div_loop (hv:Dig v) (hs:v.length=s) (hs2:2≤s) (htop:2147483648≤v[s-1]'(by omega)) {u0:List Int} (hu:Dig u0) {t:Nat} (hul:t+s=u0.length) (hlim:u0.length≤4000000000000) (hlow:val (u0.drop t)<val v) :
  ∃u q,iterW (qbo v) ((((t:Int)-1),()),(u0,List.replicate t 0,()))=some ((),(u,q,()))∧Dig u∧u.length=u0.length∧Dig q∧q.length=t∧val u0=val q*val v+val u∧val u<val v:=by
 obtain⟨r,h1,u,q,rfl,h2⟩:=qg (f:=qbo v)
  (fun x=>∃u q,∃p:Nat,x=((((p:Int)-1),()),(u,q,()))∧Dig u∧u.length=u0.length∧Dig q∧q.length=t∧p≤t∧val (u.drop p)<val v∧val (u0.drop p)=val (q.drop p)*val v+val (u.drop p)∧∀k,k<p→u.getD k 0=u0.getD k 0) (fun x=>(x.1.1+1).toNat)
  (fun r=>∃u q,r=((),(u,q,()))∧Dig u∧u.length=u0.length∧Dig q∧q.length=t∧val u0=val q*val v+val u∧val u<val v) (by
  rintro x ⟨u,q,p,rfl,h1,h2,h3,h4,h5,h6,h7,h8⟩
  by_cases hp:0<p
  ·obtain⟨j,rfl⟩:∃j,p=j+1:=⟨p-1,by omega⟩
   have ej:((j+1:Nat):Int)-1=(j:Int):=by omega
   obtain⟨u',d,k1,k2,k3,k4,k5,k6,k7⟩:=qvy (q:=q) hv hs hs2 htop h1 (j:=j) (by omega) (by omega) (by omega) h6;rw[ej];refine .inl ⟨_,k1,⟨u',q.set j d,j,rfl,k2,by omega,h3.set _ k4.1 k4.2,by rw[List.length_set];exact h4,by omega,k6,?_,fun k hk=>by rw[k7 k hk];exact h8 k (by omega)⟩,by simp⟩
   have hjq:j<(q.set j d).length:=by rw[List.length_set];omega
   rw[qco (l:=u0) (i:=j) (by omega),qco hjq,h7]
   have e1:(q.set j d)[j]=d:=by simp
   have e2:(q.set j d).drop (j+1)=q.drop (j+1):=by rw[List.drop_set,if_pos (by omega)]
   have e3:u0[j]'(by omega)=u[j]'(by omega):=by
    have:=h8 j (by omega);rw[qaR (by omega),qaR (by omega)] at this;exact this.symm
   rw[e1,e2,e3];have e4:=qco (l:=u) (i:=j) (by omega);rw[k5] at e4;generalize val (q.drop (j+1))=Q at *;generalize val (u.drop (j+1))=U at *
   grind
  ·obtain rfl:p=0:=by omega
   exact .inr ⟨_,by unfold qbo;rfl,u,q,rfl,h1,h2,h3,h4,by simpa using h7,by simpa using h6⟩) ((((t:Int)-1),()),(u0,List.replicate t 0,())) ⟨u0,_,t,rfl,hu,rfl,Dig.zero _,by simp,Nat.le_refl _,hlow,by rw[List.drop_of_length_le (l:=List.replicate t 0) (by simp)];simp[val],fun _ _=>rfl⟩
 exact⟨u,q,h1,h2⟩
end
end Lvl
end Go.Proofs.YteahiolockghkaaGreatDoor
