/- Several texts in one: TopPuzzleS, DenS, DenP, DenQ, DenL, TopPuzzleM, SearchM, RulesCore, CoreV, CoreM, CoreP, CoreN, CoreO, CoreR, CoreS2. -/
import Derived.Test.YtkkoolcdonhoaaaGreatDoorMAA
import Derived.Test.YtkkoolcdonhoaaaGreatDoorMAD
import Derived.Shelf.SlSortCmp.NoneTotal
import Derived.Laws.Strings
namespace Go.Proofs.YtkkoolcdonhoaaaGreatDoor
open Go.Den
set_option linter.unusedVariables false
set_option maxRecDepth 100000
noncomputable section
abbrev qoI {A1 A2 A3 A4 A5 A6 A7 A8 A9 A10 A11 A12 A13 A14 A15 A16 A17 A18 A19 A20 A21 A22 A23 A24:Type} (x0:(A1×A2×A3×A4×A5×A6×A7×A8×A9×A10×A11×A12)×A13×A14×A15×A16) (a0:A17) (a1:A18) (a2:A19) (a3:A20) (a4:A21) (a5:A22) (a6:A23) (a7:A24):=((a0,()),((x0.1.1,(x0.1.2.1,(x0.1.2.2.1,(x0.1.2.2.2.1,(x0.1.2.2.2.2.1,(x0.1.2.2.2.2.2.1,(x0.1.2.2.2.2.2.2.1,(x0.1.2.2.2.2.2.2.2.1,(x0.1.2.2.2.2.2.2.2.2.1,(x0.1.2.2.2.2.2.2.2.2.2.1,(x0.1.2.2.2.2.2.2.2.2.2.2.1,(a1,(x0.2.2.1,(x0.2.2.2.1,(a2,()))))))))))))))),((a3,(a4,(a5,(a6,(a7,()))))),())))
abbrev qo9 {A1 A2 A3 A4 A5 A6 A7 A8 A9 A10 A11 A12 A13 A14 A15 A16 A17 A18 A19 A20 A21 A22:Type} (x0:(A1×A2×A3×A4×A5×A6×A7×A8×A9×A10×A11×A12)×A13×A14×A15×A16×A17) (a0:A18) (a1:A19) (a2:A20) (a3:A21) (a4:A22):=((a0,()),((x0.1.1,(x0.1.2.1,(x0.1.2.2.1,(x0.1.2.2.2.1,(x0.1.2.2.2.2.1,(x0.1.2.2.2.2.2.1,(x0.1.2.2.2.2.2.2.1,(x0.1.2.2.2.2.2.2.2.1,(x0.1.2.2.2.2.2.2.2.2.1,(x0.1.2.2.2.2.2.2.2.2.2.1,(x0.1.2.2.2.2.2.2.2.2.2.2.1,(x0.2.1,(x0.2.2.1,(x0.2.2.2.1,(x0.2.2.2.2.1,()))))))))))))))),((a1,(a2,(a3,a4))),())))
abbrev qo3 {A1 A2 A3 A4 A5 A6 A7 A8 A9 A10 A11 A12 A13 A14 A15 A16 A17 A18 A19:Type} (x0:(A1×A2)×(A3×A4×A5×A6×A7×A8×A9×A10×A11×A12×A13×A14×A15×A16×A17×A18)×A19):=(((x0.2.1.1,(x0.2.1.2.1,(x0.2.1.2.2.1,(x0.2.1.2.2.2.1,(x0.2.1.2.2.2.2.1,(x0.2.1.2.2.2.2.2.1,(x0.2.1.2.2.2.2.2.2.1,(x0.2.1.2.2.2.2.2.2.2.1,(x0.2.1.2.2.2.2.2.2.2.2.1,(x0.2.1.2.2.2.2.2.2.2.2.2.1,(x0.2.1.2.2.2.2.2.2.2.2.2.2.1,()))))))))))),(x0.2.1.2.2.2.2.2.2.2.2.2.2.2.1,(x0.2.1.2.2.2.2.2.2.2.2.2.2.2.2.1,(x0.2.1.2.2.2.2.2.2.2.2.2.2.2.2.2.1,(x0.2.1.2.2.2.2.2.2.2.2.2.2.2.2.2.2.1,()))))),x0.1.1)
abbrev qY {A1 A2 A3 A4 A5 A6 A7 A8 A9 A10 A11 A12 A13 A14 A15 A16:Type} (x0:A1×A2×A3×A4×A5×A6×A7×A8×A9×A10×A11×A12×A13×A14×A15×A16):=((x0.1,(x0.2.1,(x0.2.2.1,(x0.2.2.2.1,(x0.2.2.2.2.1,(x0.2.2.2.2.2.1,(x0.2.2.2.2.2.2.1,(x0.2.2.2.2.2.2.2.1,(x0.2.2.2.2.2.2.2.2.1,(x0.2.2.2.2.2.2.2.2.2.1,(x0.2.2.2.2.2.2.2.2.2.2.1,()))))))))))),(x0.2.2.2.2.2.2.2.2.2.2.2.1,(x0.2.2.2.2.2.2.2.2.2.2.2.2.1,(x0.2.2.2.2.2.2.2.2.2.2.2.2.2.1,(x0.2.2.2.2.2.2.2.2.2.2.2.2.2.2.1,())))))
abbrev qpx {A1 A2 A3 A4 A5 A6 A7 A8 A9 A10 A11 A12 A13 A14 A15 A16 A17 A18 A19:Type} (x0:(A1×A2×A3×A4×A5×A6×A7×A8×A9×A10×A11×A12)×A13×A14×A15×A16×A17) (a0:A18) (a1:A19):=((a0,()),((x0.1.1,(x0.1.2.1,(x0.1.2.2.1,(x0.1.2.2.2.1,(x0.1.2.2.2.2.1,(x0.1.2.2.2.2.2.1,(x0.1.2.2.2.2.2.2.1,(x0.1.2.2.2.2.2.2.2.1,(x0.1.2.2.2.2.2.2.2.2.1,(x0.1.2.2.2.2.2.2.2.2.2.1,(x0.1.2.2.2.2.2.2.2.2.2.2.1,(x0.2.1,(x0.2.2.1,(x0.2.2.2.1,(x0.2.2.2.2.1,()))))))))))))))),(a1,())))
abbrev qoJ {A1 A2 A3 A4 A5 A6 A7 A8 A9 A10 A11 A12 A13 A14 A15 A16 A17 A18 A19 A20 A21 A22 A23:Type} (x0:(A1×A2×A3×A4×A5×A6×A7×A8×A9×A10×A11×A12)×A13×A14×A15×A16×A17) (a0:A18) (a1:A19) (a2:A20) (a3:A21) (a4:A22) (a5:A23):=((a0,(a1,())),((x0.1.1,(x0.1.2.1,(x0.1.2.2.1,(x0.1.2.2.2.1,(x0.1.2.2.2.2.1,(x0.1.2.2.2.2.2.1,(x0.1.2.2.2.2.2.2.1,(x0.1.2.2.2.2.2.2.2.1,(x0.1.2.2.2.2.2.2.2.2.1,(x0.1.2.2.2.2.2.2.2.2.2.1,(x0.1.2.2.2.2.2.2.2.2.2.2.1,(x0.2.1,(x0.2.2.1,(x0.2.2.2.1,(x0.2.2.2.2.1,()))))))))))))))),((a2,(a3,(a4,a5))),())))
abbrev qox {A1 A2 A3 A4 A5 A6 A7 A8 A9 A10 A11 A12 A13 A14 A15 A16 A17 A18 A19 A20:Type} (x0:(A1×A2)×(A3×A4×A5×A6×A7×A8×A9×A10×A11×A12×A13×A14×A15×A16×A17×A18)×A19×A20):=((x0.1.1,()),((x0.2.1.1,(x0.2.1.2.1,(x0.2.1.2.2.1,(x0.2.1.2.2.2.1,(x0.2.1.2.2.2.2.1,(x0.2.1.2.2.2.2.2.1,(x0.2.1.2.2.2.2.2.2.1,(x0.2.1.2.2.2.2.2.2.2.1,(x0.2.1.2.2.2.2.2.2.2.2.1,(x0.2.1.2.2.2.2.2.2.2.2.2.1,(x0.2.1.2.2.2.2.2.2.2.2.2.2.1,(x0.2.1.2.2.2.2.2.2.2.2.2.2.2.1,(x0.2.1.2.2.2.2.2.2.2.2.2.2.2.2.1,(x0.2.1.2.2.2.2.2.2.2.2.2.2.2.2.2.1,(x0.2.1.2.2.2.2.2.2.2.2.2.2.2.2.2.2.1,()))))))))))))))),(x0.2.2.1,())))
abbrev qkj {A1 A2 A3 A4 A5 A6 A7 A8 A9 A10 A11 A12 A13 A14 A15 A16 A17 A18 A19 A20:Type} (x0:((A1×A2×A3×A4×A5×A6×A7×A8×A9×A10×A11×A12)×A13×A14×A15×A16×A17)×A18×A19×A20):=((x0.2.2.1,()),((x0.1.1.1,(x0.1.1.2.1,(x0.1.1.2.2.1,(x0.1.1.2.2.2.1,(x0.1.1.2.2.2.2.1,(x0.1.1.2.2.2.2.2.1,(x0.1.1.2.2.2.2.2.2.1,(x0.1.1.2.2.2.2.2.2.2.1,(x0.1.1.2.2.2.2.2.2.2.2.1,(x0.1.1.2.2.2.2.2.2.2.2.2.1,(x0.1.1.2.2.2.2.2.2.2.2.2.2.1,(x0.1.2.1,(x0.1.2.2.1,(x0.1.2.2.2.1,(x0.1.2.2.2.2.1,()))))))))))))))),()))
abbrev qoo {A1 A2 A3 A4 A5 A6 A7 A8 A9 A10 A11 A12 A13 A14 A15 A16 A17 A18 A19 A20 A21 A22:Type} (x0:(A1×A2)×(A3×A4×A5×A6×A7×A8×A9×A10×A11×A12×A13×A14×A15×A16×A17×A18)×A19) (a0:A20) (a1:A21) (a2:A22):=((a0,(((x0.2.1.1,(x0.2.1.2.1,(x0.2.1.2.2.1,(x0.2.1.2.2.2.1,(x0.2.1.2.2.2.2.1,(x0.2.1.2.2.2.2.2.1,(x0.2.1.2.2.2.2.2.2.1,(x0.2.1.2.2.2.2.2.2.2.1,(x0.2.1.2.2.2.2.2.2.2.2.1,(x0.2.1.2.2.2.2.2.2.2.2.2.1,(x0.2.1.2.2.2.2.2.2.2.2.2.2.1,()))))))))))),(x0.2.1.2.2.2.2.2.2.2.2.2.2.2.1,(x0.2.1.2.2.2.2.2.2.2.2.2.2.2.2.1,(x0.2.1.2.2.2.2.2.2.2.2.2.2.2.2.2.1,(x0.2.1.2.2.2.2.2.2.2.2.2.2.2.2.2.2.1,()))))),(((),((),(a1,()))),()))),(a2,(x0.1.1,())))
abbrev qnH {A1 A2 A3 A4 A5 A6 A7 A8 A9 A10 A11 A12 A13 A14 A15 A16 A17 A18 A19 A20:Type} (x0:A1×A2×A3×A4×A5×A6×A7×A8×A9×A10×A11×A12×A13×A14×A15×A16) (a0:A17) (a1:A18) (a2:A19) (a3:A20):=((a0,(((x0.1,(x0.2.1,(x0.2.2.1,(x0.2.2.2.1,(x0.2.2.2.2.1,(x0.2.2.2.2.2.1,(x0.2.2.2.2.2.2.1,(x0.2.2.2.2.2.2.2.1,(x0.2.2.2.2.2.2.2.2.1,(x0.2.2.2.2.2.2.2.2.2.1,(x0.2.2.2.2.2.2.2.2.2.2.1,()))))))))))),(x0.2.2.2.2.2.2.2.2.2.2.2.1,(x0.2.2.2.2.2.2.2.2.2.2.2.2.1,(x0.2.2.2.2.2.2.2.2.2.2.2.2.2.1,(x0.2.2.2.2.2.2.2.2.2.2.2.2.2.2.1,()))))),(((),((),(a1,()))),()))),(a2,(a3,())))
abbrev qog {A1 A2 A3 A4 A5 A6 A7 A8 A9 A10 A11 A12 A13 A14 A15 A16 A17 A18 A19 A20 A21 A22:Type} (x0:A1×A2×A3×A4×A5×A6×A7×A8×A9×A10×A11×A12×A13×A14×A15×A16) (a0:A17) (a1:A18) (a2:A19) (a3:A20) (a4:A21) (a5:A22):=((a0,(a1,())),((x0.1,(x0.2.1,(x0.2.2.1,(x0.2.2.2.1,(x0.2.2.2.2.1,(x0.2.2.2.2.2.1,(x0.2.2.2.2.2.2.1,(x0.2.2.2.2.2.2.2.1,(x0.2.2.2.2.2.2.2.2.1,(x0.2.2.2.2.2.2.2.2.2.1,(x0.2.2.2.2.2.2.2.2.2.2.1,(x0.2.2.2.2.2.2.2.2.2.2.2.1,(x0.2.2.2.2.2.2.2.2.2.2.2.2.1,(x0.2.2.2.2.2.2.2.2.2.2.2.2.2.1,(x0.2.2.2.2.2.2.2.2.2.2.2.2.2.2.1,()))))))))))))))),((a2,(a3,(a4,a5))),())))
abbrev qnu {A1 A2 A3 A4 A5 A6 A7 A8 A9 A10 A11 A12 A13 A14 A15 A16 A17 A18 A19 A20 A21 A22:Type} (x0:(A1×A2)×(A3×A4×A5×A6×A7×A8×A9×A10×A11×A12×A13×A14×A15×A16×A17×A18)×A19) (a0:A20) (a1:A21) (a2:A22):=((a0,(((x0.2.1.1,(x0.2.1.2.1,(x0.2.1.2.2.1,(x0.2.1.2.2.2.1,(x0.2.1.2.2.2.2.1,(x0.2.1.2.2.2.2.2.1,(x0.2.1.2.2.2.2.2.2.1,(x0.2.1.2.2.2.2.2.2.2.1,(x0.2.1.2.2.2.2.2.2.2.2.1,(x0.2.1.2.2.2.2.2.2.2.2.2.1,(x0.2.1.2.2.2.2.2.2.2.2.2.2.1,()))))))))))),(x0.2.1.2.2.2.2.2.2.2.2.2.2.2.1,(x0.2.1.2.2.2.2.2.2.2.2.2.2.2.2.1,(x0.2.1.2.2.2.2.2.2.2.2.2.2.2.2.2.1,(x0.2.1.2.2.2.2.2.2.2.2.2.2.2.2.2.2.1,()))))),(((),((),(a1,()))),()))),(x0.1.1,(a2,())))
abbrev qcc {A1 A2 A3 A4 A5 A6 A7 A8 A9 A10 A11 A12 A13 A14 A15 A16 A17 A18 A19:Type} (x0:(A1×A2×A3×A4×A5×A6×A7×A8×A9×A10×A11×A12)×A13×A14×A15×A16×A17) (a0:A18) (a1:A19):=((a0,(a1,())),((x0.1.1,(x0.1.2.1,(x0.1.2.2.1,(x0.1.2.2.2.1,(x0.1.2.2.2.2.1,(x0.1.2.2.2.2.2.1,(x0.1.2.2.2.2.2.2.1,(x0.1.2.2.2.2.2.2.2.1,(x0.1.2.2.2.2.2.2.2.2.1,(x0.1.2.2.2.2.2.2.2.2.2.1,(x0.1.2.2.2.2.2.2.2.2.2.2.1,(x0.2.1,(x0.2.2.1,(x0.2.2.2.1,(x0.2.2.2.2.1,()))))))))))))))),()))
abbrev qce {A1 A2 A3 A4 A5 A6 A7 A8 A9 A10 A11 A12 A13 A14 A15 A16 A17 A18 A19:Type} (x0:(A1×A2)×(A3×A4×A5×A6×A7×A8×A9×A10×A11×A12×A13×A14×A15×A16×A17×A18)×A19):=((x0.1.1,()),((x0.2.1.1,(x0.2.1.2.1,(x0.2.1.2.2.1,(x0.2.1.2.2.2.1,(x0.2.1.2.2.2.2.1,(x0.2.1.2.2.2.2.2.1,(x0.2.1.2.2.2.2.2.2.1,(x0.2.1.2.2.2.2.2.2.2.1,(x0.2.1.2.2.2.2.2.2.2.2.1,(x0.2.1.2.2.2.2.2.2.2.2.2.1,(x0.2.1.2.2.2.2.2.2.2.2.2.2.1,(x0.2.1.2.2.2.2.2.2.2.2.2.2.2.1,(x0.2.1.2.2.2.2.2.2.2.2.2.2.2.2.1,(x0.2.1.2.2.2.2.2.2.2.2.2.2.2.2.2.1,(x0.2.1.2.2.2.2.2.2.2.2.2.2.2.2.2.2.1,()))))))))))))))),()))
abbrev qck {A1 A2 A3 A4 A5 A6 A7 A8 A9 A10 A11 A12 A13 A14 A15 A16 A17 A18:Type} (x0:A1×A2×A3×A4×A5×A6×A7×A8×A9×A10×A11×A12×A13×A14×A15×A16) (a0:A17) (a1:A18):=((a0,(a1,())),((x0.1,(x0.2.1,(x0.2.2.1,(x0.2.2.2.1,(x0.2.2.2.2.1,(x0.2.2.2.2.2.1,(x0.2.2.2.2.2.2.1,(x0.2.2.2.2.2.2.2.1,(x0.2.2.2.2.2.2.2.2.1,(x0.2.2.2.2.2.2.2.2.2.1,(x0.2.2.2.2.2.2.2.2.2.2.1,(x0.2.2.2.2.2.2.2.2.2.2.2.1,(x0.2.2.2.2.2.2.2.2.2.2.2.2.1,(x0.2.2.2.2.2.2.2.2.2.2.2.2.2.1,(x0.2.2.2.2.2.2.2.2.2.2.2.2.2.2.1,()))))))))))))))),()))
abbrev qcf {A1 A2 A3 A4 A5 A6 A7 A8 A9 A10 A11 A12 A13 A14 A15 A16 A17:Type} (x0:A1×A2×A3×A4×A5×A6×A7×A8×A9×A10×A11×A12×A13×A14×A15×A16) (a0:A17):=((),((x0.1,(x0.2.1,(x0.2.2.1,(x0.2.2.2.1,(x0.2.2.2.2.1,(x0.2.2.2.2.2.1,(x0.2.2.2.2.2.2.1,(x0.2.2.2.2.2.2.2.1,(x0.2.2.2.2.2.2.2.2.1,(x0.2.2.2.2.2.2.2.2.2.1,(x0.2.2.2.2.2.2.2.2.2.2.1,(x0.2.2.2.2.2.2.2.2.2.2.2.1,(a0,(x0.2.2.2.2.2.2.2.2.2.2.2.2.2.1,(x0.2.2.2.2.2.2.2.2.2.2.2.2.2.2.1,()))))))))))))))),()))
abbrev qbe {A1 A2 A3 A4 A5 A6 A7 A8 A9 A10 A11 A12 A13 A14 A15 A16 A17:Type} (x0:A1×A2×A3×A4×A5×A6×A7×A8×A9×A10×A11×A12×A13×A14×A15×A16) (a0:A17):=((a0,()),((x0.1,(x0.2.1,(x0.2.2.1,(x0.2.2.2.1,(x0.2.2.2.2.1,(x0.2.2.2.2.2.1,(x0.2.2.2.2.2.2.1,(x0.2.2.2.2.2.2.2.1,(x0.2.2.2.2.2.2.2.2.1,(x0.2.2.2.2.2.2.2.2.2.1,(x0.2.2.2.2.2.2.2.2.2.2.1,(x0.2.2.2.2.2.2.2.2.2.2.2.1,(x0.2.2.2.2.2.2.2.2.2.2.2.2.1,(x0.2.2.2.2.2.2.2.2.2.2.2.2.2.1,(x0.2.2.2.2.2.2.2.2.2.2.2.2.2.2.1,()))))))))))))))),()))
abbrev qbD {A1 A2 A3 A4 A5 A6 A7 A8 A9 A10 A11 A12 A13 A14 A15 A16:Type} (x0:A1×A2×A3×A4×A5×A6×A7×A8×A9×A10×A11×A12×A13×A14×A15×A16):=((),((x0.1,(x0.2.1,(x0.2.2.1,(x0.2.2.2.1,(x0.2.2.2.2.1,(x0.2.2.2.2.2.1,(x0.2.2.2.2.2.2.1,(x0.2.2.2.2.2.2.2.1,(x0.2.2.2.2.2.2.2.2.1,(x0.2.2.2.2.2.2.2.2.2.1,(x0.2.2.2.2.2.2.2.2.2.2.1,(x0.2.2.2.2.2.2.2.2.2.2.2.1,(x0.2.2.2.2.2.2.2.2.2.2.2.2.1,(x0.2.2.2.2.2.2.2.2.2.2.2.2.2.1,(x0.2.2.2.2.2.2.2.2.2.2.2.2.2.2.1,()))))))))))))))),()))
abbrev qaU {A1 A2 A3 A4 A5 A6 A7 A8 A9 A10 A11 A12 A13 A14 A15 A16 A17 A18:Type} (x0:(A1×A2×A3×A4×A5×A6×A7×A8×A9×A10×A11×A12)×A13×A14×A15×A16×A17) (a0:A18):=((a0,()),((x0.1.1,(x0.1.2.1,(x0.1.2.2.1,(x0.1.2.2.2.1,(x0.1.2.2.2.2.1,(x0.1.2.2.2.2.2.1,(x0.1.2.2.2.2.2.2.1,(x0.1.2.2.2.2.2.2.2.1,(x0.1.2.2.2.2.2.2.2.2.1,(x0.1.2.2.2.2.2.2.2.2.2.1,(x0.1.2.2.2.2.2.2.2.2.2.2.1,(x0.2.1,(x0.2.2.1,(x0.2.2.2.1,(x0.2.2.2.2.1,()))))))))))))))),()))
abbrev qfN {A1 A2 A3 A4 A5 A6 A7 A8 A9 A10 A11 A12 A13 A14 A15 A16 A17:Type} (x0:(A1×A2×A3×A4×A5×A6×A7×A8×A9×A10×A11×A12)×A13×A14×A15×A16×A17):=((),((x0.1.1,(x0.1.2.1,(x0.1.2.2.1,(x0.1.2.2.2.1,(x0.1.2.2.2.2.1,(x0.1.2.2.2.2.2.1,(x0.1.2.2.2.2.2.2.1,(x0.1.2.2.2.2.2.2.2.1,(x0.1.2.2.2.2.2.2.2.2.1,(x0.1.2.2.2.2.2.2.2.2.2.1,(x0.1.2.2.2.2.2.2.2.2.2.2.1,(x0.2.1,(x0.2.2.1,(x0.2.2.2.1,(x0.2.2.2.2.1,()))))))))))))))),()))
def qaE (self:Zv13→Option (Bool)) (r:ByteArray×Int×Int×Zv24×Zv63×Bool×Bool×Zv38×Int×Int×Int×Unit) (r8:Zv63×Zv44×Int×Int×Unit) (n:Int) (x13:Zv58×Zv37):Option (Zv28 ⊕ Zv30) :=
  bif (decide (x13.1.2.1<((x13.2.1.length:Nat):Int))) then(req (inb x13.1.2.1 x13.2.1.length) (Option.bind (self (r,(r8.1,((r8.2.1.1,(r8.2.1.2.1,())),r8.2.2)),(getD' x13.2.1 ((x13.1.2.1).toNat) ((0:Int),((0:Int),((0:Int),())))),(w64 (n-2)),())) fun r14 =>
  Option.bind (bif (!(!r14)) then req (inb x13.1.1 x13.2.1.length) (some (((w64 (x13.1.1+1)),()),((x13.2.1.set ((x13.1.1).toNat) (getD' x13.2.1 ((x13.1.2.1).toNat) ((0:Int),((0:Int),((0:Int),()))))),())))
  else some ((x13.1.1,()),(x13.2.1,()))) fun x15 =>
  some (Sum.inl ((x15.1.1,(w64 (x13.1.2.1+1)),()),(x15.2.1,())))))
  else some (Sum.inr ((x13.1.1,()),(x13.2.1,())))
def qan (r10:List Zv54) (self:Zv13→Option (Bool)) (r:ByteArray×Int×Int×Zv24×Zv63×Bool×Bool×Zv38×Int×Int×Int×Unit) (r8:Zv63×Zv44×Int×Int×Unit) (n:Int) (x11:Zv62×(Unit)):Option (Zv56 ⊕ (Zv59 ⊕ (Zv59 ⊕ (Zv56 ⊕ (Zv59 ⊕ Bool))))) :=
  bif (decide (x11.1.1<((r10.length:Nat):Int))) then(req (inb x11.1.1 r10.length) (Option.bind (self (r,(r8.1,((r8.2.1.1,(r8.2.1.2.1,())),r8.2.2)),(getD' r10 ((x11.1.1).toNat) ((0:Int),((0:Int),((0:Int),())))),(w64 (n-2)),())) fun r12 =>
  bif (!r12) then(Option.map Sum.inr (Option.map Sum.inr (bif (x11.1.1==(-1:Int)) then(bif (((r10.length:Nat):Int)==0) then some (Sum.inr (Sum.inr (Sum.inr false)))
  else some (Sum.inl ((),())))
  else Option.bind (iterW (qaE self r r8 n) ((x11.1.1,(w64 (x11.1.1+1)),()),(r10,()))) fun x16 =>
  req (qM x16.1.1 ((x16.2.1.length:Nat):Int) x16.2.1.length) (req (qM 0 x16.1.1 (x16.2.1.take (x16.1.1).toNat++(List.replicate ((((x16.2.1.length:Nat):Int)).toNat-(x16.1.1).toNat) ((0:Int),((0:Int),((0:Int),())))++x16.2.1.drop ((x16.1.1).toNat+((((x16.2.1.length:Nat):Int)).toNat-(x16.1.1).toNat)))).length) (bif (((((x16.2.1.take (x16.1.1).toNat++(List.replicate ((((x16.2.1.length:Nat):Int)).toNat-(x16.1.1).toNat) ((0:Int),((0:Int),((0:Int),())))++x16.2.1.drop ((x16.1.1).toNat+((((x16.2.1.length:Nat):Int)).toNat-(x16.1.1).toNat)))).take (x16.1.1).toNat).length:Nat):Int)==0) then some (Sum.inr (Sum.inr (Sum.inr false)))
  else some (Sum.inl ((),())))))))
  else some (Sum.inl (((w64 (x11.1.1+1)),()),()))))
  else some (Sum.inr (Sum.inl ((),())))
def qU (r6:List Zv54) (r:ByteArray×Int×Int×Zv24×Zv63×Bool×Bool×Zv38×Int×Int×Int×Unit) (r4:Zv63×Zv44×Int×Int×Unit) (p:Zv63×Zv44×Int×Int×Unit) (self:Zv13→Option (Bool)) (n:Int) (x7:Zv62×(Unit)):Option (Zv56 ⊕ (Zv59 ⊕ Bool)) :=
  bif (decide (x7.1.1<((r6.length:Nat):Int))) then(req (inb x7.1.1 r6.length) (Option.bind (qp r (r4.1,((r4.2.1.1,(r4.2.1.2.1,())),r4.2.2)) (getD' r6 ((x7.1.1).toNat) ((0:Int),((0:Int),((0:Int),()))))) fun r8 =>
  Option.bind (qaj r (r8.1,((r8.2.1.1,(r8.2.1.2.1,())),r8.2.2))) fun r9 =>
  Option.bind (α:=Zv59 ⊕ (Zv56 ⊕ (Zv59 ⊕ Bool))) (bif (r9==(w64 ((1:Int)+p.2.2.1))) then some (Sum.inl ((),()))
  else bif (r9==0) then(Option.bind (qam r (r8.1,((r8.2.1.1,(r8.2.1.2.1,())),r8.2.2))) fun r10 =>
  Option.bind (α:=Zv59 ⊕ (Zv59 ⊕ (Zv56 ⊕ (Zv59 ⊕ Bool)))) (iterW (qan r10 self r r8 n) (((0:Int),()),())) (Sum.elim (fun x17 =>
  bif (((r10.length:Nat):Int)==0) then some (Sum.inr (Sum.inr (Sum.inr false)))
  else some (Sum.inl ((),()))) some))
  else some (Sum.inr (Sum.inr (Sum.inr false)))) (Sum.elim (fun x18 =>
  some (Sum.inl (((w64 (x7.1.1+1)),()),()))) some)))
  else some (Sum.inr (Sum.inl ((),())))
def qbd (self:Zv13→Option (Bool)) (r:ByteArray×Int×Int×Zv24×Zv63×Bool×Bool×Zv38×Int×Int×Int×Unit) (p:Zv63×Zv44×Int×Int×Unit) (m:Int×Int×Int×Unit) (n:Int):Option (Bool) :=
  Option.bind (qp r p m) fun r4 =>
  Option.bind (qaj r (r4.1,((r4.2.1.1,(r4.2.1.2.1,())),r4.2.2))) fun r5 =>
  bif (r5 !=0) then some (r5==(w64 ((1:Int)+p.2.2.1)))
  else bif (decide (n<3)) then some false
  else Option.bind (qam r (r4.1,((r4.2.1.1,(r4.2.1.2.1,())),r4.2.2))) fun r6 =>
  Option.bind (α:=Zv59 ⊕ Bool) (iterW (qU r6 r r4 p self n) (((0:Int),()),())) (Sum.elim (fun x19 =>
  some true) some)
def qb0 (self:Zv13→Option (Bool)) (x:Zv21×Zv26×Zv54×Int×Unit):Option (Bool):=qbd self x.1 x.2.1 x.2.2.1 x.2.2.2.1
def qcG (r:ByteArray×Int×Int×Zv24×Zv63×Bool×Bool×Zv38×Int×Int×Int×Unit) (p:Zv63×Zv44×Int×Int×Unit) (m:Int×Int×Int×Unit) (n:Int):Option (Bool):=fixW qb0 (r,p,m,n,())
def qbU:Option Zv21 :=
  some ((ByteArray.mk #[84,87,79]),((2:Int),((1:Int),([((65:Int),((2:Int),((0:Int),(([]:List Zv47),()))))],([(0:Int),(0:Int)],(false,(false,([((0:Int),((0:Int),((2:Int),(false,()))))],((0:Int),((0:Int),((0:Int),())))))))))))
def qa:ByteArray×Int×Int×Zv24×Zv63×Bool×Bool×Zv38×Int×Int×Int×Unit :=
  ((ByteArray.mk #[84,87,79]),((2:Int),((1:Int),([((65:Int),((2:Int),((0:Int),(([]:List Zv47),()))))],([(0:Int),(0:Int)],(false,(false,([((0:Int),((0:Int),((2:Int),(false,()))))],((0:Int),((0:Int),((0:Int),())))))))))))
theorem qgo:qbU=some (qa):=by
  unfold qbU qa
  first | rfl | simp only[qcq]
def qd3 (p:Zv63×Zv44×Int×Int×Unit) (x2:Zv51×(Unit)):Option (Zv40 ⊕ Zv48) :=
  bif (decide (x2.1.2.1<((p.1.length:Nat):Int))) then(Option.bind (at? p.1 x2.1.2.1) fun d3 =>
  req (room (x2.1.1.length+([(wu8 d3)]).length) 1) (some (Sum.inl (((x2.1.1++[(wu8 d3)]),(w64 (x2.1.2.1+1)),()),()))))
  else some (Sum.inr ((x2.1.1,()),()))
def qej (r5:List Int) (x6:Zv51×(Unit)):Option (Zv40 ⊕ Zv48) :=
  bif (decide (x6.1.2.1<((r5.length:Nat):Int))) then(req (inb x6.1.2.1 r5.length) (Option.bind (qlB x6.1.1 (getD' r5 ((x6.1.2.1).toNat) (0:Int)) (10:Int)) fun r7 =>
  req (room (r7.2.2.length+([(32:Int)]).length) 1) (some (Sum.inl (((r7.2.2++[(32:Int)]),(w64 (x6.1.2.1+1)),()),())))))
  else some (Sum.inr ((x6.1.1,()),()))
def qf1 (p:Zv63×Zv44×Int×Int×Unit):Option (ByteArray) :=
  Option.bind (iterW (qd3 p) (([(wu8 p.2.2.1)],(0:Int),()),())) fun x4 =>
  Option.bind (qbM ([p.2.1.1,p.2.1.2.1])) fun r5 =>
  Option.bind (iterW (qej r5) ((x4.1.1,(0:Int),()),())) fun x8 =>
  some (strOf x8.1.1)
def qu (t:Zv21×Zv23×Zv60×Zv52×Zv55×Unit) (p:Zv63×Zv44×Int×Int×Unit):Option Zv9 :=
  Option.bind (qf1 p) fun r2 =>
  Option.bind (bif (!(mpGet eqS t.2.2.2.2.1 r2).isSome) then req (room (t.2.1.length+([(p.1,(p.2.1,(p.2.2.1,((0:Int),()))))]).length) 88) (some (qoI t ((t.2.1.length:Nat):Int) (t.2.1++[(p.1,(p.2.1,(p.2.2.1,((0:Int),()))))]) (mpSet eqS t.2.2.2.2.1 r2 ((t.2.1.length:Nat):Int)) p.1 p.2.1.1 p.2.1.2.1 p.2.2.1 (0:Int)))
  else some (qo9 t ((mpGet eqS t.2.2.2.2.1 r2).getD (0:Int)) p.1 p.2.1.1 p.2.1.2.1 p.2.2)) fun x3 =>
  some (qo3 x3)
def qaJ (t:Zv21×Zv23×Zv60×Zv52×Zv55×Unit) (x1:Zv62×Zv42):Option (Zv34 ⊕ Zv36) :=
  bif (decide (x1.1.1<((t.2.1.length:Nat):Int))) then(req (inb x1.1.1 t.2.1.length) (Option.bind (qaj t.1 (getD' t.2.1 ((x1.1.1).toNat) ([],(([],([],())),((0:Int),((0:Int),())))))) fun r2 =>
  req (inb x1.1.1 x1.2.1.length) (some (Sum.inl (((w64 (x1.1.1+1)),()),((x1.2.1.set ((x1.1.1).toNat) (r2,(((getD' x1.2.1 ((x1.1.1).toNat) ((0:Int),((0:Int),()))).2).1,()))),()))))))
  else some (Sum.inr ((),(x1.2.1,())))
def qF (t:Zv21×Zv23×Zv60×Zv52×Zv55×Unit) (x5:Zv51×(Unit)) (x4:Zv62×Zv42) (x6:Zv62×(Unit)):Option (Zv56 ⊕ (Zv59 ⊕ Zv53)) :=
  bif (decide (x6.1.1<(((getD' t.2.2.1 ((x5.1.2.1).toNat) []).length:Nat):Int))) then(Option.bind (at? (getD' t.2.2.1 ((x5.1.2.1).toNat) []) x6.1.1) fun d7 =>
  req (inb d7 x4.2.1.length) (bif ((getD' x4.2.1 ((d7).toNat) ((0:Int),((0:Int),()))).1==(w64 ((1:Int)+(((getD' t.2.1 ((x5.1.2.1).toNat) ([],(([],([],())),((0:Int),((0:Int),()))))).2).2).1))) then some (Sum.inr (Sum.inr (((decide (x6.1.1≥0)),()),())))
  else some (Sum.inl (((w64 (x6.1.1+1)),()),()))))
  else some (Sum.inr (Sum.inl ((),())))
def qT (t:Zv21×Zv23×Zv60×Zv52×Zv55×Unit) (x5:Zv51×(Unit)) (x4:Zv62×Zv42) (x18:(Bool×Unit)×(Unit)) (x19:Zv62×(Unit)):Option (Zv56 ⊕ (Zv59 ⊕ Zv48)) :=
  bif (decide (x19.1.1<(((getD' t.2.2.1 ((x5.1.2.1).toNat) []).length:Nat):Int))) then(Option.bind (at? (getD' t.2.2.1 ((x5.1.2.1).toNat) []) x19.1.1) fun d20 =>
  req (inb d20 x4.2.1.length) (bif ((getD' x4.2.1 ((d20).toNat) ((0:Int),((0:Int),()))).1 !=(w64 ((2:Int)-(((getD' t.2.1 ((x5.1.2.1).toNat) ([],(([],([],())),((0:Int),((0:Int),()))))).2).2).1))) then(Option.map Sum.inr (Option.map Sum.inr (Option.bind (bif (x18.1.1||(!(decide (x19.1.1≥0)))) then req (room (x5.1.1.length+([x5.1.2.1]).length) 8) (some (((x5.1.1++[x5.1.2.1]),()),()))
  else some ((x5.1.1,()),())) fun x21 =>
  some ((x21.1.1,()),()))))
  else some (Sum.inl (((w64 (x19.1.1+1)),()),()))))
  else some (Sum.inr (Sum.inl ((),())))
def qI (t:Zv21×Zv23×Zv60×Zv52×Zv55×Unit) (x4:Zv62×Zv42) (x5:Zv51×(Unit)):Option (Zv40 ⊕ Zv48) :=
  bif (decide (x5.1.2.1<((t.2.1.length:Nat):Int))) then(Option.bind (req (inb x5.1.2.1 t.2.1.length) (req (inb x5.1.2.1 x4.2.1.length) (bif ((getD' x4.2.1 ((x5.1.2.1).toNat) ((0:Int),((0:Int),()))).1 !=0) then some ((x5.1.1,()),())
  else Option.bind (agree (agree (req (inb x5.1.2.1 t.2.2.1.length) (agree (Option.bind (α:=Zv59 ⊕ Zv53) (iterW (qF t x5 x4) (((0:Int),()),())) (Sum.elim (fun x8 =>
  some ((false,()),())) some)) (Option.bind (α:=Zv59 ⊕ Zv53) (iterW (qF t x5 x4) (((0:Int),()),())) (Sum.elim (fun x11 =>
  some ((false,()),())) some)))) (req (inb x5.1.2.1 t.2.2.1.length) (Option.bind (α:=Zv59 ⊕ Zv53) (iterW (qF t x5 x4) (((0:Int),()),())) (Sum.elim (fun x14 =>
  some ((false,()),())) some)))) (req (inb x5.1.2.1 t.2.2.1.length) (Option.bind (α:=Zv59 ⊕ Zv53) (iterW (qF t x5 x4) (((0:Int),()),())) (Sum.elim (fun x17 =>
  some ((false,()),())) some)))) fun x18 =>
  req (inb x5.1.2.1 t.2.2.1.length) (Option.bind (α:=Zv59 ⊕ Zv48) (iterW (qT t x5 x4 x18) (((0:Int),()),())) (Sum.elim (fun x22 =>
  Option.bind (bif (x18.1.1||true) then req (room (x5.1.1.length+([x5.1.2.1]).length) 8) (some (((x5.1.1++[x5.1.2.1]),()),()))
  else some ((x5.1.1,()),())) fun x23 =>
  some ((x23.1.1,()),())) some))))) fun x24 =>
  some (Sum.inl ((x24.1.1,(w64 (x5.1.2.1+1)),()),())))
  else some (Sum.inr ((x5.1.1,()),()))
def qaK (x4:Zv62×Zv42) (x26:Zv62×Zv42):Option (Zv34 ⊕ Zv36) :=
  bif (decide (x26.1.1<((x4.2.1.length:Nat):Int))) then(req (inb x26.1.1 x26.2.1.length) (Option.bind (bif ((getD' x26.2.1 ((x26.1.1).toNat) ((0:Int),((0:Int),()))).1==0) then req (inb x26.1.1 x26.2.1.length) (some ((),((x26.2.1.set ((x26.1.1).toNat) ((3:Int),(((getD' x26.2.1 ((x26.1.1).toNat) ((0:Int),((0:Int),()))).2).1,()))),())))
  else some ((),(x26.2.1,()))) fun x27 =>
  some (Sum.inl (((w64 (x26.1.1+1)),()),(x27.2.1,())))))
  else some (Sum.inr ((),(x26.2.1,())))
def qO (t:Zv21×Zv23×Zv60×Zv52×Zv55×Unit) (x25:Zv57×(Unit)) (x29:Zv62×Zv57) (x4:Zv62×Zv42) (x30:Zv62×(Unit)):Option (Zv56 ⊕ (Zv59 ⊕ (Zv41 ⊕ Zv49))) :=
  bif (decide (x30.1.1<(((getD' t.2.2.1 (((getD' x25.1.1 ((x29.1.1).toNat) (0:Int))).toNat) []).length:Nat):Int))) then(Option.bind (at? (getD' t.2.2.1 (((getD' x25.1.1 ((x29.1.1).toNat) (0:Int))).toNat) []) x30.1.1) fun d31 =>
  req (inb d31 x4.2.1.length) (req (inb (getD' x25.1.1 ((x29.1.1).toNat) (0:Int)) t.2.1.length) (bif ((getD' x4.2.1 ((d31).toNat) ((0:Int),((0:Int),()))).1==(w64 ((1:Int)+(((getD' t.2.1 (((getD' x25.1.1 ((x29.1.1).toNat) (0:Int))).toNat) ([],(([],([],())),((0:Int),((0:Int),()))))).2).2).1))) then(Option.map Sum.inr (Option.map Sum.inr (Option.bind (bif (decide (x30.1.1≥0)) then req (inb (getD' x25.1.1 ((x29.1.1).toNat) (0:Int)) t.2.1.length) (req (inb x29.1.1 (x29.2.1.set ((x29.1.1).toNat) (w64 ((2:Int)-(((getD' t.2.1 (((getD' x25.1.1 ((x29.1.1).toNat) (0:Int))).toNat) ([],(([],([],())),((0:Int),((0:Int),()))))).2).2).1))).length) (some ((),(((x29.2.1.set ((x29.1.1).toNat) (w64 ((2:Int)-(((getD' t.2.1 (((getD' x25.1.1 ((x29.1.1).toNat) (0:Int))).toNat) ([],(([],([],())),((0:Int),((0:Int),()))))).2).2).1))).set ((x29.1.1).toNat) (w64 ((1:Int)+(((getD' t.2.1 (((getD' x25.1.1 ((x29.1.1).toNat) (0:Int))).toNat) ([],(([],([],())),((0:Int),((0:Int),()))))).2).2).1))),()))))
  else some ((),((x29.2.1.set ((x29.1.1).toNat) (w64 ((2:Int)-(((getD' t.2.1 (((getD' x25.1.1 ((x29.1.1).toNat) (0:Int))).toNat) ([],(([],([],())),((0:Int),((0:Int),()))))).2).2).1))),()))) fun x32 =>
  some (Sum.inl (((w64 (x29.1.1+1)),()),(x32.2.1,()))))))
  else some (Sum.inl (((w64 (x30.1.1+1)),()),())))))
  else some (Sum.inr (Sum.inl ((),())))
def qab (x25:Zv57×(Unit)) (t:Zv21×Zv23×Zv60×Zv52×Zv55×Unit) (x4:Zv62×Zv42) (x29:Zv62×Zv57):Option (Zv41 ⊕ Zv49) :=
  bif (decide (x29.1.1<((x25.1.1.length:Nat):Int))) then(req (inb x29.1.1 x25.1.1.length) (req (inb (getD' x25.1.1 ((x29.1.1).toNat) (0:Int)) t.2.1.length) (req (inb x29.1.1 x29.2.1.length) (req (inb (getD' x25.1.1 ((x29.1.1).toNat) (0:Int)) t.2.2.1.length) (Option.bind (α:=Zv59 ⊕ (Zv41 ⊕ Zv49)) (iterW (qO t x25 x29 x4) (((0:Int),()),())) (Sum.elim (fun x33 =>
  some (Sum.inl (((w64 (x29.1.1+1)),()),((x29.2.1.set ((x29.1.1).toNat) (w64 ((2:Int)-(((getD' t.2.1 (((getD' x25.1.1 ((x29.1.1).toNat) (0:Int))).toNat) ([],(([],([],())),((0:Int),((0:Int),()))))).2).2).1))),())))) some))))))
  else some (Sum.inr ((),(x29.2.1,())))
def qaa (x25:Zv57×(Unit)) (x34:(Unit)×Zv57) (x4:Zv62×Zv42) (x35:Zv62×Zv42):Option (Zv34 ⊕ Zv36) :=
  bif (decide (x35.1.1<((x25.1.1.length:Nat):Int))) then req (inb x35.1.1 x25.1.1.length) (req (inb x35.1.1 x34.2.1.length) (req (inb (getD' x25.1.1 ((x35.1.1).toNat) (0:Int)) x35.2.1.length) (some (Sum.inl (((w64 (x35.1.1+1)),()),((x35.2.1.set (((getD' x25.1.1 ((x35.1.1).toNat) (0:Int))).toNat) ((getD' x34.2.1 ((x35.1.1).toNat) (0:Int)),(x4.1.1,()))),()))))))
  else some (Sum.inr ((),(x35.2.1,())))
def qaz (t:Zv21×Zv23×Zv60×Zv52×Zv55×Unit) (x4:Zv62×Zv42):Option (Zv34 ⊕ Zv8) :=
  Option.bind (α:=Zv36 ⊕ (Zv34 ⊕ Zv8)) (Option.bind (iterW (qI t x4) ((([]:List Int),(0:Int),()),())) fun x25 =>
  bif (((x25.1.1.length:Nat):Int)==0) then(Option.map Sum.inr (Option.map Sum.inr (Option.bind (iterW (qaK x4) (((0:Int),()),(x4.2.1,()))) fun x28 =>
  some ((t.1,(t.2.1,(t.2.2.1,(x28.2.1,(t.2.2.2.2.1,()))))),()))))
  else req (decide (0≤((x25.1.1.length:Nat):Int))&&(((x25.1.1.length:Nat):Int)==((x25.1.1.length:Nat):Int)&&room (((x25.1.1.length:Nat):Int)).toNat 8)) (Option.bind (iterW (qab x25 t x4) (((0:Int),()),((List.replicate (((x25.1.1.length:Nat):Int)).toNat (0:Int)),()))) fun x34 =>
  Option.bind (iterW (qaa x25 x34 x4) (((0:Int),()),(x4.2.1,()))) fun x36 =>
  some (Sum.inl ((),(x36.2.1,()))))) (Sum.elim (fun x37 =>
  some (Sum.inl (((w64 (x4.1.1+1)),()),(x37.2.1,())))) some)
def qH (t:Zv21×Zv23×Zv60×Zv52×Zv55×Unit):Option Zv8 :=
  req (decide (0≤((t.2.1.length:Nat):Int))&&(((t.2.1.length:Nat):Int)==((t.2.1.length:Nat):Int)&&room (((t.2.1.length:Nat):Int)).toNat 16)) (Option.bind (iterW (qaJ t) (((0:Int),()),((List.replicate (((t.2.1.length:Nat):Int)).toNat ((0:Int),((0:Int),()))),()))) fun x3 =>
  iterW (qaz t) (((1:Int),()),(x3.2.1,())))
def qay (l:List Int) (x1:Zv62×(Unit)):Option (Zv56 ⊕ (Zv59 ⊕ Bool)) :=
  bif (decide (x1.1.1<((l.length:Nat):Int))) then(Option.bind (at? l x1.1.1) fun d2 =>
  bif (d2 !=0) then some (Sum.inr (Sum.inr (!(decide (x1.1.1≥0)))))
  else some (Sum.inl (((w64 (x1.1.1+1)),()),())))
  else some (Sum.inr (Sum.inl ((),())))
def qh (l:List Int):Option (Bool) :=
  Option.bind (α:=Zv59 ⊕ Bool) (iterW (qay l) (((0:Int),()),())) (Sum.elim (fun x3 =>
  some true) some)
def qah (t:Zv21×Zv23×Zv60×Zv52×Zv55×Unit) (i:Int):Option (Zv10×Zv26×Zv58×Int×Unit) :=
  bif ((decide (i<0))||(decide (i≥((t.2.1.length:Nat):Int)))) then some ((t.1,(t.2.1,(t.2.2.1,(t.2.2.2.1,(t.2.2.2.2.1,()))))),((([]:List Int),((([]:List Int),(([]:List Int),())),((0:Int),((0:Int),())))),(((0:Int),((0:Int),())),((4:Int),()))))
  else Option.bind (req (inb i t.2.1.length) (agree (Option.bind (qbY (getD' t.2.1 ((i).toNat) ([],(([],([],())),((0:Int),((0:Int),())))))) fun r1 =>
  agree (req (inb i t.2.2.2.1.length) (agree (some (((0:Int),()),((r1.1,(r1.2.1.1,(r1.2.1.2.1,r1.2.2))),(getD' t.2.2.2.1 ((i).toNat) ((0:Int),((0:Int),()))),()))) (some (((0:Int),()),((r1.1,(r1.2.1.1,(r1.2.1.2.1,r1.2.2))),(getD' t.2.2.2.1 ((i).toNat) ((0:Int),((0:Int),()))),()))))) (req (inb i t.2.2.2.1.length) (some (((0:Int),()),((r1.1,(r1.2.1.1,(r1.2.1.2.1,r1.2.2))),(getD' t.2.2.2.1 ((i).toNat) ((0:Int),((0:Int),()))),()))))) (req (inb i t.2.2.2.1.length) (agree (Option.bind (qbY (getD' t.2.1 ((i).toNat) ([],(([],([],())),((0:Int),((0:Int),())))))) fun r2 =>
  agree (some (((0:Int),()),((r2.1,(r2.2.1.1,(r2.2.1.2.1,r2.2.2))),(getD' t.2.2.2.1 ((i).toNat) ((0:Int),((0:Int),()))),()))) (some (((0:Int),()),((r2.1,(r2.2.1.1,(r2.2.1.2.1,r2.2.2))),(getD' t.2.2.2.1 ((i).toNat) ((0:Int),((0:Int),()))),())))) (Option.bind (qbY (getD' t.2.1 ((i).toNat) ([],(([],([],())),((0:Int),((0:Int),())))))) fun r3 =>
  some (((0:Int),()),((r3.1,(r3.2.1.1,(r3.2.1.2.1,r3.2.2))),(getD' t.2.2.2.1 ((i).toNat) ((0:Int),((0:Int),()))),()))))))) fun x4 =>
  some ((t.1,(t.2.1,(t.2.2.1,(t.2.2.2.1,(t.2.2.2.2.1,()))))),((x4.2.1.1,((x4.2.1.2.1,(x4.2.1.2.2.1,())),x4.2.1.2.2.2)),(x4.2.2.1,(x4.1.1,()))))
def qaF (t:Zv21×Zv23×Zv60×Zv52×Zv55×Unit) (p:Zv63×Zv44×Int×Int×Unit):Option (Zv10×Int×Int×Unit) :=
  Option.bind (qcg t.1 p) fun r3 =>
  bif (r3 !=0) then some ((t.1,(t.2.1,(t.2.2.1,(t.2.2.2.1,(t.2.2.2.2.1,()))))),((0:Int),(r3,())))
  else Option.bind (qf1 p) fun r4 =>
  bif (!(mpGet eqS t.2.2.2.2.1 r4).isSome) then some ((t.1,(t.2.1,(t.2.2.1,(t.2.2.2.1,(t.2.2.2.2.1,()))))),((0:Int),((8:Int),())))
  else some ((t.1,(t.2.1,(t.2.2.1,(t.2.2.2.1,(t.2.2.2.2.1,()))))),(((mpGet eqS t.2.2.2.2.1 r4).getD (0:Int)),((0:Int),())))
def qbZ (t:Zv21×Zv23×Zv60×Zv52×Zv55×Unit) (p:Zv63×Zv44×Int×Int×Unit):Option (Zv10×Zv58×Int×Unit) :=
  Option.bind (qaF (t.1,(t.2.1,(t.2.2.1,(t.2.2.2.1,(t.2.2.2.2.1,()))))) p) fun r2 =>
  bif (r2.2.2.1 !=0) then some ((r2.1.1,(r2.1.2.1,(r2.1.2.2.1,(r2.1.2.2.2.1,(r2.1.2.2.2.2.1,()))))),(((0:Int),((0:Int),())),r2.2.2))
  else req (inb r2.2.1 r2.1.2.2.2.1.length) (some ((r2.1.1,(r2.1.2.1,(r2.1.2.2.1,(r2.1.2.2.2.1,(r2.1.2.2.2.2.1,()))))),((getD' r2.1.2.2.2.1 ((r2.2.1).toNat) ((0:Int),((0:Int),()))),((0:Int),()))))
def qaq (r4:List Zv54) (r3:Zv10×Int×Int×Unit) (x5:(Unit)×(Zv58×Unit)) (x6:Zv35×(Unit)):Option (Zv29 ⊕ Zv32) :=
  bif (decide (x6.1.2.1<((r4.length:Nat):Int))) then(req (inb x6.1.2.1 r4.length) (req (inb r3.2.1 r3.1.2.2.1.length) (Option.bind (at? (getD' r3.1.2.2.1 ((r3.2.1).toNat) []) x6.1.2.1) fun d7 =>
  req (inb d7 r3.1.2.2.2.1.length) (Option.bind (bif (((getD' r3.1.2.2.2.1 ((d7).toNat) ((0:Int),((0:Int),()))).1==x5.2.1.1)&&((((getD' r3.1.2.2.2.1 ((d7).toNat) ((0:Int),((0:Int),()))).2).1==x5.2.1.2.1)&&true)) then req (room (x6.1.1.length+([(getD' r4 ((x6.1.2.1).toNat) ((0:Int),((0:Int),((0:Int),()))))]).length) 24) (some (((x6.1.1++[(getD' r4 ((x6.1.2.1).toNat) ((0:Int),((0:Int),((0:Int),()))))]),()),()))
  else some ((x6.1.1,()),())) fun x8 =>
  some (Sum.inl ((x8.1.1,(w64 (x6.1.2.1+1)),()),()))))))
  else some (Sum.inr ((x6.1.1,()),()))
def qQ (t:Zv21×Zv23×Zv60×Zv52×Zv55×Unit) (p:Zv63×Zv44×Int×Int×Unit):Option (Zv10×Zv46×Int×Unit) :=
  Option.bind (qaF (t.1,(t.2.1,(t.2.2.1,(t.2.2.2.1,(t.2.2.2.2.1,()))))) p) fun r3 =>
  bif (r3.2.2.1 !=0) then some ((r3.1.1,(r3.1.2.1,(r3.1.2.2.1,(r3.1.2.2.2.1,(r3.1.2.2.2.2.1,()))))),(([]:List Zv54),r3.2.2))
  else req (inb r3.2.1 r3.1.2.1.length) (Option.bind (qaC r3.1.1 (getD' r3.1.2.1 ((r3.2.1).toNat) ([],(([],([],())),((0:Int),((0:Int),())))))) fun r4 =>
  bif (((r4.length:Nat):Int)==0) then some ((r3.1.1,(r3.1.2.1,(r3.1.2.2.1,(r3.1.2.2.2.1,(r3.1.2.2.2.2.1,()))))),(([]:List Zv54),((14:Int),())))
  else req (inb r3.2.1 r3.1.2.2.2.1.length) (Option.bind (bif ((getD' r3.1.2.2.2.1 ((r3.2.1).toNat) ((0:Int),((0:Int),()))).1 !=3) then some ((),(((getD' r3.1.2.2.2.1 ((r3.2.1).toNat) ((0:Int),((0:Int),()))).1,((w64 (((getD' r3.1.2.2.2.1 ((r3.2.1).toNat) ((0:Int),((0:Int),()))).2).1-1)),())),()))
  else some ((),((getD' r3.1.2.2.2.1 ((r3.2.1).toNat) ((0:Int),((0:Int),()))),()))) fun x5 =>
  Option.bind (iterW (qaq r4 r3 x5) ((([]:List Zv54),(0:Int),()),())) fun x9 =>
  some ((r3.1.1,(r3.1.2.1,(r3.1.2.2.1,(r3.1.2.2.2.1,(r3.1.2.2.2.2.1,()))))),(x9.1.1,((0:Int),())))))
def qaM (most:Int) (x:Zv21×Zv10×(Unit×Unit×Int×Unit)×Unit) (x4:Zv35×Zv1):Option ((Zv35×Zv1) ⊕ (Zv37×Zv1)) :=
  bif (decide (x4.1.2.1<most)) then(Option.bind (qQ (qY x4.2.1) (x4.2.2.1.1,((x4.2.2.1.2.1,(x4.2.2.1.2.2.1,())),x4.2.2.1.2.2.2))) fun r5 =>
  bif (r5.2.2.1 !=0) then some (Sum.inr (qpx r5.1 x4.1.1 x4.2.2.1))
  else req (inb (0:Int) r5.2.1.length) (req (room (x4.1.1.length+([(getD' r5.2.1 0 ((0:Int),((0:Int),((0:Int),()))))]).length) 24) (req (inb (0:Int) r5.2.1.length) (Option.bind (qp x.1 (x4.2.2.1.1,((x4.2.2.1.2.1,(x4.2.2.1.2.2.1,())),x4.2.2.1.2.2.2)) (getD' r5.2.1 0 ((0:Int),((0:Int),((0:Int),()))))) fun r6 =>
  some (Sum.inl (qoJ r5.1 (x4.1.1++[(getD' r5.2.1 0 ((0:Int),((0:Int),((0:Int),()))))]) (w64 (x4.1.2.1+1)) r6.1 r6.2.1.1 r6.2.1.2.1 r6.2.2))))))
  else some (Sum.inr (qox x4))
def qb1 (x:Zv21×Zv10×(Unit×Unit×Int×Unit)×Unit) (p:Zv63×Zv44×Int×Int×Unit) (most:Int):Option ((Zv21×Zv10×(Unit×Unit×Int×Unit)×Unit)×Zv46×Int×Unit) :=
  Option.bind (agree (Option.bind (qbZ ((x.2.1.1.1,x.2.1.1.2),(x.2.1.2.1,(x.2.1.2.2.1,(x.2.1.2.2.2.1,(x.2.1.2.2.2.2.1,()))))) p) fun r1 =>
  some (qkj r1)) (Option.bind (qbZ ((x.2.1.1.1,x.2.1.1.2),(x.2.1.2.1,(x.2.1.2.2.1,(x.2.1.2.2.2.1,(x.2.1.2.2.2.2.1,()))))) p) fun r2 =>
  some (qkj r2))) fun x3 =>
  bif (x3.1.1 !=0) then some (qoo x3 x.1 x.2.2.1.2.2.1 ([]:List Zv54))
  else bif ((decide (most<0))||(decide (most>256))) then some (qnH x3.2.1 x.1 x.2.2.1.2.2.1 ([]:List Zv54) (4:Int))
  else Option.bind (iterW (qaM most x) (qog x3.2.1 ([]:List Zv54) (0:Int) p.1 p.2.1.1 p.2.1.2.1 p.2.2)) fun x7 =>
  some (qnu x7 x.1 x.2.2.1.2.2.1 (0:Int))
def qlD (n:Int):Option (Bool) :=
  req (imp ((decide (n≥1))&&(decide (n≤5))) true) (some (((decide (n≥1))&&(decide (n≤5)))&&((n.tmod 2)==1)))
def qcu (r:ByteArray×Int×Int×Zv24×Zv63×Bool×Bool×Zv38×Int×Int×Int×Unit) (p:Zv63×Zv44×Int×Int×Unit) (n:Int):Option (Int) :=
  Option.bind (qcg r p) fun r5 =>
  bif (r5 !=0) then some r5
  else Option.bind (qlD n) fun r6 =>
  bif (!r6) then some (4:Int)
  else Option.bind (qaj r p) fun r7 =>
  bif (r7 !=0) then some (14:Int)
  else Option.bind (qgW r p n) fun r8 =>
  some r8.2.1
def qb2 (r:ByteArray×Int×Int×Zv24×Zv63×Bool×Bool×Zv38×Int×Int×Int×Unit) (p:Zv63×Zv44×Int×Int×Unit) (n:Int) (x5:Zv58×Zv37):Option (Zv28 ⊕ Zv30) :=
  bif (decide (x5.1.2.1<((x5.2.1.length:Nat):Int))) then(req (inb x5.1.2.1 x5.2.1.length) (Option.bind (qcG r p (getD' x5.2.1 ((x5.1.2.1).toNat) ((0:Int),((0:Int),((0:Int),())))) n) fun r6 =>
  Option.bind (bif (!(!r6)) then req (inb x5.1.1 x5.2.1.length) (some (((w64 (x5.1.1+1)),()),((x5.2.1.set ((x5.1.1).toNat) (getD' x5.2.1 ((x5.1.2.1).toNat) ((0:Int),((0:Int),((0:Int),()))))),())))
  else some ((x5.1.1,()),(x5.2.1,()))) fun x7 =>
  some (Sum.inl ((x7.1.1,(w64 (x5.1.2.1+1)),()),(x7.2.1,())))))
  else some (Sum.inr ((x5.1.1,()),(x5.2.1,())))
def qby (r2:List Zv54) (r:ByteArray×Int×Int×Zv24×Zv63×Bool×Bool×Zv38×Int×Int×Int×Unit) (p:Zv63×Zv44×Int×Int×Unit) (n:Int) (x3:Zv62×(Unit)):Option (Zv56 ⊕ (Zv59 ⊕ Zv46)) :=
  bif (decide (x3.1.1<((r2.length:Nat):Int))) then(req (inb x3.1.1 r2.length) (Option.bind (qcG r p (getD' r2 ((x3.1.1).toNat) ((0:Int),((0:Int),((0:Int),())))) n) fun r4 =>
  bif (!r4) then(Option.map Sum.inr (Option.map Sum.inr (bif (x3.1.1==(-1:Int)) then some r2
  else Option.bind (iterW (qb2 r p n) ((x3.1.1,(w64 (x3.1.1+1)),()),(r2,()))) fun x8 =>
  req (qM x8.1.1 ((x8.2.1.length:Nat):Int) x8.2.1.length) (req (qM 0 x8.1.1 (x8.2.1.take (x8.1.1).toNat++(List.replicate ((((x8.2.1.length:Nat):Int)).toNat-(x8.1.1).toNat) ((0:Int),((0:Int),((0:Int),())))++x8.2.1.drop ((x8.1.1).toNat+((((x8.2.1.length:Nat):Int)).toNat-(x8.1.1).toNat)))).length) (some ((x8.2.1.take (x8.1.1).toNat++(List.replicate ((((x8.2.1.length:Nat):Int)).toNat-(x8.1.1).toNat) ((0:Int),((0:Int),((0:Int),())))++x8.2.1.drop ((x8.1.1).toNat+((((x8.2.1.length:Nat):Int)).toNat-(x8.1.1).toNat)))).take (x8.1.1).toNat))))))
  else some (Sum.inl (((w64 (x3.1.1+1)),()),()))))
  else some (Sum.inr (Sum.inl ((),())))
def qjl (r:ByteArray×Int×Int×Zv24×Zv63×Bool×Bool×Zv38×Int×Int×Int×Unit) (p:Zv63×Zv44×Int×Int×Unit) (n:Int):Option Zv46 :=
  Option.bind (qam r p) fun r2 =>
  Option.bind (α:=Zv59 ⊕ Zv46) (iterW (qby r2 r p n) (((0:Int),()),())) (Sum.elim (fun x9 =>
  some r2) some)
def qae (r:ByteArray×Int×Int×Zv24×Zv63×Bool×Bool×Zv38×Int×Int×Int×Unit) (p:Zv63×Zv44×Int×Int×Unit) (n:Int):Option Zv35 :=
  Option.bind (qcu r p n) fun r3 =>
  bif (r3 !=0) then some (([]:List Zv54),(r3,()))
  else Option.bind (qjl r p n) fun r4 =>
  some (r4,((0:Int),()))
def qat (r:ByteArray×Int×Int×Zv24×Zv63×Bool×Bool×Zv38×Int×Int×Int×Unit) (p:Zv63×Zv44×Int×Int×Unit) (x1:Zv62×(Unit)):Option (Zv56 ⊕ (Zv59 ⊕ Zv58)) :=
  bif (decide (x1.1.1≤5)) then(Option.bind (qae r p x1.1.1) fun r2 =>
  bif (r2.2.1 !=0) then some (Sum.inr (Sum.inr ((0:Int),r2.2)))
  else bif (decide (((r2.1.length:Nat):Int)>0)) then some (Sum.inr (Sum.inr (x1.1.1,((0:Int),()))))
  else some (Sum.inl (((w64 (x1.1.1+2)),()),())))
  else some (Sum.inr (Sum.inl ((),())))
def qaO (r:ByteArray×Int×Int×Zv24×Zv63×Bool×Bool×Zv38×Int×Int×Int×Unit) (p:Zv63×Zv44×Int×Int×Unit):Option Zv58 :=
  Option.bind (α:=Zv59 ⊕ Zv58) (iterW (qat r p) (((1:Int),()),())) (Sum.elim (fun x3 =>
  some ((0:Int),((8:Int),()))) some)
def qfd (r49:List Zv54) (x48:Zv62×Zv11) (r42:Zv26×Int×Unit) (x50:Zv51×Zv11):Option (Zv3 ⊕ (Zv4 ⊕ (Zv7 ⊕ (Zv6 ⊕ (Zv7 ⊕ Bool))))) :=
  bif (decide (x50.1.2.1<((r49.length:Nat):Int))) then(req (inb x50.1.2.1 r49.length) (req (inb x48.1.1 x50.2.1.2.2.2.2.2.2.2.2.2.2.2.1.length) (Option.bind (qp (x50.2.1.1,(x50.2.1.2.1,(x50.2.1.2.2.1,(x50.2.1.2.2.2.1,(x50.2.1.2.2.2.2.1,(x50.2.1.2.2.2.2.2.1,(x50.2.1.2.2.2.2.2.2.1,(x50.2.1.2.2.2.2.2.2.2.1,(x50.2.1.2.2.2.2.2.2.2.2.1,(x50.2.1.2.2.2.2.2.2.2.2.2.1,(x50.2.1.2.2.2.2.2.2.2.2.2.2.1,()))))))))))) (getD' x50.2.1.2.2.2.2.2.2.2.2.2.2.2.1 ((x48.1.1).toNat) ([],(([],([],())),((0:Int),((0:Int),()))))) (getD' r49 ((x50.1.2.1).toNat) ((0:Int),((0:Int),((0:Int),()))))) fun r51 =>
  Option.bind (qu (qY x50.2.1) (r51.1,((r51.2.1.1,(r51.2.1.2.1,())),r51.2.2))) fun r52 =>
  req (room (x50.1.1.length+([r52.2]).length) 8) (bif (decide (((r52.1.2.1.length:Nat):Int)>3000)) then(Option.map Sum.inr (Option.map Sum.inr (Option.map Sum.inr (Option.map Sum.inr (Option.map Sum.inr (Option.bind (qh ([r42.2.1,(2:Int)])) fun r53 =>
  bif (((!r53)||true)||true) then some false
  else none))))))
  else some (Sum.inl (qcc r52.1 (x50.1.1++[r52.2]) (w64 (x50.1.2.1+1))))))))
  else some (Sum.inr (Sum.inl (qce x50)))
def qe7 (r42:Zv26×Int×Unit) (x48:Zv62×Zv11):Option (Zv6 ⊕ (Zv7 ⊕ Bool)) :=
  bif (decide (x48.1.1<((x48.2.1.2.2.2.2.2.2.2.2.2.2.2.1.length:Nat):Int))) then(Option.bind (α:=Zv7 ⊕ (Zv6 ⊕ (Zv7 ⊕ Bool))) (req (inb x48.1.1 x48.2.1.2.2.2.2.2.2.2.2.2.2.2.1.length) (Option.bind (qaC (x48.2.1.1,(x48.2.1.2.1,(x48.2.1.2.2.1,(x48.2.1.2.2.2.1,(x48.2.1.2.2.2.2.1,(x48.2.1.2.2.2.2.2.1,(x48.2.1.2.2.2.2.2.2.1,(x48.2.1.2.2.2.2.2.2.2.1,(x48.2.1.2.2.2.2.2.2.2.2.1,(x48.2.1.2.2.2.2.2.2.2.2.2.1,(x48.2.1.2.2.2.2.2.2.2.2.2.2.1,()))))))))))) (getD' x48.2.1.2.2.2.2.2.2.2.2.2.2.2.1 ((x48.1.1).toNat) ([],(([],([],())),((0:Int),((0:Int),())))))) fun r49 =>
  Option.bind (α:=Zv4 ⊕ (Zv7 ⊕ (Zv6 ⊕ (Zv7 ⊕ Bool)))) (iterW (qfd r49 x48 r42) (qck x48.2.1 ([]:List Int) (0:Int))) (Sum.elim (fun x54 =>
  req (room (x54.2.1.2.2.2.2.2.2.2.2.2.2.2.2.1.length+([x54.1.1]).length) 24) (some (Sum.inl (qcf x54.2.1 (x54.2.1.2.2.2.2.2.2.2.2.2.2.2.2.1++[x54.1.1]))))) some))) (Sum.elim (fun x55 =>
  some (Sum.inl (qbe x55.2.1 (w64 (x48.1.1+1))))) some))
  else some (Sum.inr (Sum.inl (qbD x48.2.1)))
def qE (r70:List Zv54) (x69:Zv62×Zv11) (x71:Zv51×Zv11):Option (Zv3 ⊕ (Zv4 ⊕ (Zv7 ⊕ (Zv6 ⊕ (Zv7 ⊕ Bool))))) :=
  bif (decide (x71.1.2.1<((r70.length:Nat):Int))) then(req (inb x71.1.2.1 r70.length) (req (inb x69.1.1 x71.2.1.2.2.2.2.2.2.2.2.2.2.2.1.length) (Option.bind (qp (x71.2.1.1,(x71.2.1.2.1,(x71.2.1.2.2.1,(x71.2.1.2.2.2.1,(x71.2.1.2.2.2.2.1,(x71.2.1.2.2.2.2.2.1,(x71.2.1.2.2.2.2.2.2.1,(x71.2.1.2.2.2.2.2.2.2.1,(x71.2.1.2.2.2.2.2.2.2.2.1,(x71.2.1.2.2.2.2.2.2.2.2.2.1,(x71.2.1.2.2.2.2.2.2.2.2.2.2.1,()))))))))))) (getD' x71.2.1.2.2.2.2.2.2.2.2.2.2.2.1 ((x69.1.1).toNat) ([],(([],([],())),((0:Int),((0:Int),()))))) (getD' r70 ((x71.1.2.1).toNat) ((0:Int),((0:Int),((0:Int),()))))) fun r72 =>
  Option.bind (qu (qY x71.2.1) (r72.1,((r72.2.1.1,(r72.2.1.2.1,())),r72.2.2))) fun r73 =>
  req (room (x71.1.1.length+([r73.2]).length) 8) (bif (decide (((r73.1.2.1.length:Nat):Int)>3000)) then(Option.map Sum.inr (Option.map Sum.inr (Option.map Sum.inr (Option.map Sum.inr (Option.map Sum.inr (Option.bind (qh ([(0:Int),(2:Int)])) fun r74 =>
  bif (((!r74)||false)||true) then some false
  else none))))))
  else some (Sum.inl (qcc r73.1 (x71.1.1++[r73.2]) (w64 (x71.1.2.1+1))))))))
  else some (Sum.inr (Sum.inl (qce x71)))
def qD (x69:Zv62×Zv11):Option (Zv6 ⊕ (Zv7 ⊕ Bool)) :=
  bif (decide (x69.1.1<((x69.2.1.2.2.2.2.2.2.2.2.2.2.2.1.length:Nat):Int))) then(Option.bind (α:=Zv7 ⊕ (Zv6 ⊕ (Zv7 ⊕ Bool))) (req (inb x69.1.1 x69.2.1.2.2.2.2.2.2.2.2.2.2.2.1.length) (Option.bind (qaC (x69.2.1.1,(x69.2.1.2.1,(x69.2.1.2.2.1,(x69.2.1.2.2.2.1,(x69.2.1.2.2.2.2.1,(x69.2.1.2.2.2.2.2.1,(x69.2.1.2.2.2.2.2.2.1,(x69.2.1.2.2.2.2.2.2.2.1,(x69.2.1.2.2.2.2.2.2.2.2.1,(x69.2.1.2.2.2.2.2.2.2.2.2.1,(x69.2.1.2.2.2.2.2.2.2.2.2.2.1,()))))))))))) (getD' x69.2.1.2.2.2.2.2.2.2.2.2.2.2.1 ((x69.1.1).toNat) ([],(([],([],())),((0:Int),((0:Int),())))))) fun r70 =>
  Option.bind (α:=Zv4 ⊕ (Zv7 ⊕ (Zv6 ⊕ (Zv7 ⊕ Bool)))) (iterW (qE r70 x69) (qck x69.2.1 ([]:List Int) (0:Int))) (Sum.elim (fun x75 =>
  req (room (x75.2.1.2.2.2.2.2.2.2.2.2.2.2.2.1.length+([x75.1.1]).length) 24) (some (Sum.inl (qcf x75.2.1 (x75.2.1.2.2.2.2.2.2.2.2.2.2.2.2.1++[x75.1.1]))))) some))) (Sum.elim (fun x76 =>
  some (Sum.inl (qbe x76.2.1 (w64 (x69.1.1+1))))) some))
  else some (Sum.inr (Sum.inl (qbD x69.2.1)))
def qfb (r90:List Zv54) (x89:Zv62×Zv11) (x91:Zv51×Zv11):Option (Zv3 ⊕ (Zv4 ⊕ (Zv7 ⊕ (Zv6 ⊕ (Zv7 ⊕ Bool))))) :=
  bif (decide (x91.1.2.1<((r90.length:Nat):Int))) then(req (inb x91.1.2.1 r90.length) (req (inb x89.1.1 x91.2.1.2.2.2.2.2.2.2.2.2.2.2.1.length) (Option.bind (qp (x91.2.1.1,(x91.2.1.2.1,(x91.2.1.2.2.1,(x91.2.1.2.2.2.1,(x91.2.1.2.2.2.2.1,(x91.2.1.2.2.2.2.2.1,(x91.2.1.2.2.2.2.2.2.1,(x91.2.1.2.2.2.2.2.2.2.1,(x91.2.1.2.2.2.2.2.2.2.2.1,(x91.2.1.2.2.2.2.2.2.2.2.2.1,(x91.2.1.2.2.2.2.2.2.2.2.2.2.1,()))))))))))) (getD' x91.2.1.2.2.2.2.2.2.2.2.2.2.2.1 ((x89.1.1).toNat) ([],(([],([],())),((0:Int),((0:Int),()))))) (getD' r90 ((x91.1.2.1).toNat) ((0:Int),((0:Int),((0:Int),()))))) fun r92 =>
  Option.bind (qu (qY x91.2.1) (r92.1,((r92.2.1.1,(r92.2.1.2.1,())),r92.2.2))) fun r93 =>
  req (room (x91.1.1.length+([r93.2]).length) 8) (bif (decide (((r93.1.2.1.length:Nat):Int)>3000)) then(Option.map Sum.inr (Option.map Sum.inr (Option.map Sum.inr (Option.map Sum.inr (Option.map Sum.inr (Option.bind (qh ([(1:Int),(2:Int)])) fun r94 =>
  bif (((!r94)||true)||true) then some false
  else none))))))
  else some (Sum.inl (qcc r93.1 (x91.1.1++[r93.2]) (w64 (x91.1.2.1+1))))))))
  else some (Sum.inr (Sum.inl (qce x91)))
def qe8 (x89:Zv62×Zv11):Option (Zv6 ⊕ (Zv7 ⊕ Bool)) :=
  bif (decide (x89.1.1<((x89.2.1.2.2.2.2.2.2.2.2.2.2.2.1.length:Nat):Int))) then(Option.bind (α:=Zv7 ⊕ (Zv6 ⊕ (Zv7 ⊕ Bool))) (req (inb x89.1.1 x89.2.1.2.2.2.2.2.2.2.2.2.2.2.1.length) (Option.bind (qaC (x89.2.1.1,(x89.2.1.2.1,(x89.2.1.2.2.1,(x89.2.1.2.2.2.1,(x89.2.1.2.2.2.2.1,(x89.2.1.2.2.2.2.2.1,(x89.2.1.2.2.2.2.2.2.1,(x89.2.1.2.2.2.2.2.2.2.1,(x89.2.1.2.2.2.2.2.2.2.2.1,(x89.2.1.2.2.2.2.2.2.2.2.2.1,(x89.2.1.2.2.2.2.2.2.2.2.2.2.1,()))))))))))) (getD' x89.2.1.2.2.2.2.2.2.2.2.2.2.2.1 ((x89.1.1).toNat) ([],(([],([],())),((0:Int),((0:Int),())))))) fun r90 =>
  Option.bind (α:=Zv4 ⊕ (Zv7 ⊕ (Zv6 ⊕ (Zv7 ⊕ Bool)))) (iterW (qfb r90 x89) (qck x89.2.1 ([]:List Int) (0:Int))) (Sum.elim (fun x95 =>
  req (room (x95.2.1.2.2.2.2.2.2.2.2.2.2.2.2.1.length+([x95.1.1]).length) 24) (some (Sum.inl (qcf x95.2.1 (x95.2.1.2.2.2.2.2.2.2.2.2.2.2.2.1++[x95.1.1]))))) some))) (Sum.elim (fun x96 =>
  some (Sum.inl (qbe x96.2.1 (w64 (x89.1.1+1))))) some))
  else some (Sum.inr (Sum.inl (qbD x89.2.1)))
def qex (r117:List Zv54) (x116:Zv62×Zv11) (x118:Zv51×Zv11):Option (Zv3 ⊕ (Zv4 ⊕ (Zv7 ⊕ (Zv6 ⊕ (Zv7 ⊕ Bool))))) :=
  bif (decide (x118.1.2.1<((r117.length:Nat):Int))) then(req (inb x118.1.2.1 r117.length) (req (inb x116.1.1 x118.2.1.2.2.2.2.2.2.2.2.2.2.2.1.length) (Option.bind (qp (x118.2.1.1,(x118.2.1.2.1,(x118.2.1.2.2.1,(x118.2.1.2.2.2.1,(x118.2.1.2.2.2.2.1,(x118.2.1.2.2.2.2.2.1,(x118.2.1.2.2.2.2.2.2.1,(x118.2.1.2.2.2.2.2.2.2.1,(x118.2.1.2.2.2.2.2.2.2.2.1,(x118.2.1.2.2.2.2.2.2.2.2.2.1,(x118.2.1.2.2.2.2.2.2.2.2.2.2.1,()))))))))))) (getD' x118.2.1.2.2.2.2.2.2.2.2.2.2.2.1 ((x116.1.1).toNat) ([],(([],([],())),((0:Int),((0:Int),()))))) (getD' r117 ((x118.1.2.1).toNat) ((0:Int),((0:Int),((0:Int),()))))) fun r119 =>
  Option.bind (qu (qY x118.2.1) (r119.1,((r119.2.1.1,(r119.2.1.2.1,())),r119.2.2))) fun r120 =>
  req (room (x118.1.1.length+([r120.2]).length) 8) (bif (decide (((r120.1.2.1.length:Nat):Int)>3000)) then(Option.map Sum.inr (Option.map Sum.inr (Option.map Sum.inr (Option.map Sum.inr (Option.map Sum.inr (Option.bind (qh ([(2:Int),(2:Int)])) fun r121 =>
  bif (((!r121)||true)||true) then some false
  else none))))))
  else some (Sum.inl (qcc r120.1 (x118.1.1++[r120.2]) (w64 (x118.1.2.1+1))))))))
  else some (Sum.inr (Sum.inl (qce x118)))
def qe9 (x116:Zv62×Zv11):Option (Zv6 ⊕ (Zv7 ⊕ Bool)) :=
  bif (decide (x116.1.1<((x116.2.1.2.2.2.2.2.2.2.2.2.2.2.1.length:Nat):Int))) then(Option.bind (α:=Zv7 ⊕ (Zv6 ⊕ (Zv7 ⊕ Bool))) (req (inb x116.1.1 x116.2.1.2.2.2.2.2.2.2.2.2.2.2.1.length) (Option.bind (qaC (x116.2.1.1,(x116.2.1.2.1,(x116.2.1.2.2.1,(x116.2.1.2.2.2.1,(x116.2.1.2.2.2.2.1,(x116.2.1.2.2.2.2.2.1,(x116.2.1.2.2.2.2.2.2.1,(x116.2.1.2.2.2.2.2.2.2.1,(x116.2.1.2.2.2.2.2.2.2.2.1,(x116.2.1.2.2.2.2.2.2.2.2.2.1,(x116.2.1.2.2.2.2.2.2.2.2.2.2.1,()))))))))))) (getD' x116.2.1.2.2.2.2.2.2.2.2.2.2.2.1 ((x116.1.1).toNat) ([],(([],([],())),((0:Int),((0:Int),())))))) fun r117 =>
  Option.bind (α:=Zv4 ⊕ (Zv7 ⊕ (Zv6 ⊕ (Zv7 ⊕ Bool)))) (iterW (qex r117 x116) (qck x116.2.1 ([]:List Int) (0:Int))) (Sum.elim (fun x122 =>
  req (room (x122.2.1.2.2.2.2.2.2.2.2.2.2.2.2.1.length+([x122.1.1]).length) 24) (some (Sum.inl (qcf x122.2.1 (x122.2.1.2.2.2.2.2.2.2.2.2.2.2.2.1++[x122.1.1]))))) some))) (Sum.elim (fun x123 =>
  some (Sum.inl (qbe x123.2.1 (w64 (x116.1.1+1))))) some))
  else some (Sum.inr (Sum.inl (qbD x116.2.1)))
def qC (r107:List Zv54) (x106:Zv62×Zv11) (x108:Zv51×Zv11):Option (Zv3 ⊕ (Zv4 ⊕ (Zv7 ⊕ (Zv6 ⊕ (Zv7 ⊕ Bool))))) :=
  bif (decide (x108.1.2.1<((r107.length:Nat):Int))) then(req (inb x108.1.2.1 r107.length) (req (inb x106.1.1 x108.2.1.2.2.2.2.2.2.2.2.2.2.2.1.length) (Option.bind (qp (x108.2.1.1,(x108.2.1.2.1,(x108.2.1.2.2.1,(x108.2.1.2.2.2.1,(x108.2.1.2.2.2.2.1,(x108.2.1.2.2.2.2.2.1,(x108.2.1.2.2.2.2.2.2.1,(x108.2.1.2.2.2.2.2.2.2.1,(x108.2.1.2.2.2.2.2.2.2.2.1,(x108.2.1.2.2.2.2.2.2.2.2.2.1,(x108.2.1.2.2.2.2.2.2.2.2.2.2.1,()))))))))))) (getD' x108.2.1.2.2.2.2.2.2.2.2.2.2.2.1 ((x106.1.1).toNat) ([],(([],([],())),((0:Int),((0:Int),()))))) (getD' r107 ((x108.1.2.1).toNat) ((0:Int),((0:Int),((0:Int),()))))) fun r109 =>
  Option.bind (qu (qY x108.2.1) (r109.1,((r109.2.1.1,(r109.2.1.2.1,())),r109.2.2))) fun r110 =>
  req (room (x108.1.1.length+([r110.2]).length) 8) (bif (decide (((r110.1.2.1.length:Nat):Int)>3000)) then(Option.map Sum.inr (Option.map Sum.inr (Option.map Sum.inr (Option.map Sum.inr (Option.map Sum.inr (Option.bind (qar ((qa).1,(((qa).2).1,((((qa).2).2).1,(((((qa).2).2).2).1,((((((qa).2).2).2).2).1,(((((((qa).2).2).2).2).2).1,((((((((qa).2).2).2).2).2).2).1,(((((((((qa).2).2).2).2).2).2).2).1,((((((((((qa).2).2).2).2).2).2).2).2).1,(((((((((((qa).2).2).2).2).2).2).2).2).2).1,((((((((((((qa).2).2).2).2).2).2).2).2).2).2).1,())))))))))))) fun r111 =>
  bif (r111.2.1 !=0) then(Option.bind (qh ([(2:Int),r111.2.1])) fun r112 =>
  bif (((!r112)||true)||true) then some false
  else none)
  else bif (((((((((((qa).2).2).2).2).2).2).2).2).2).1 !=0) then(Option.bind (qh ([(2:Int),(1:Int)])) fun r113 =>
  bif (((!r113)||true)||true) then some false
  else none)
  else Option.bind (qaw ((qa).1,(((qa).2).1,((((qa).2).2).1,(((((qa).2).2).2).1,((((((qa).2).2).2).2).1,(((((((qa).2).2).2).2).2).1,((((((((qa).2).2).2).2).2).2).1,(((((((((qa).2).2).2).2).2).2).2).1,((((((((((qa).2).2).2).2).2).2).2).2).1,(((((((((((qa).2).2).2).2).2).2).2).2).2).1,((((((((((((qa).2).2).2).2).2).2).2).2).2).2).1,())))))))))))) fun r114 =>
  Option.bind (qu (r114,(([]:List Zv26),(([]:List Zv63),(([]:List Zv58),(([]:List Zv61),()))))) (r111.1.1,((r111.1.2.1.1,(r111.1.2.1.2.1,())),r111.1.2.2))) fun r115 =>
  Option.bind (α:=Zv7 ⊕ Bool) (iterW (qe9) (qaU r115.1 (0:Int))) (Sum.elim (fun x124 =>
  Option.bind (qH (qY x124.2.1)) fun r125 =>
  Option.bind (qh ([(2:Int),(0:Int)])) fun r126 =>
  bif (((!r126)||true)||false) then some false
  else Option.bind (qah (r125.1.1,(r125.1.2.1,(r125.1.2.2.1,(r125.1.2.2.2.1,(r125.1.2.2.2.2.1,()))))) (0:Int)) fun r127 =>
  Option.bind (agree (Option.bind (qag ((qa).1,(((qa).2).1,((((qa).2).2).1,(((((qa).2).2).2).1,((((((qa).2).2).2).2).1,(((((((qa).2).2).2).2).2).1,((((((((qa).2).2).2).2).2).2).1,(((((((((qa).2).2).2).2).2).2).2).1,((((((((((qa).2).2).2).2).2).2).2).2).1,(((((((((((qa).2).2).2).2).2).2).2).2).2).1,((((((((((((qa).2).2).2).2).2).2).2).2).2).2).1,()))))))))))) (r127.2.1.1,((r127.2.1.2.1.1,(r127.2.1.2.1.2.1,())),r127.2.1.2.2)) (2:Int)) fun r128 =>
  some ((r128.1,r128.2.1,()),())) (Option.bind (qag ((qa).1,(((qa).2).1,((((qa).2).2).1,(((((qa).2).2).2).1,((((((qa).2).2).2).2).1,(((((((qa).2).2).2).2).2).1,((((((((qa).2).2).2).2).2).2).1,(((((((((qa).2).2).2).2).2).2).2).1,((((((((((qa).2).2).2).2).2).2).2).2).1,(((((((((((qa).2).2).2).2).2).2).2).2).2).1,((((((((((((qa).2).2).2).2).2).2).2).2).2).2).1,()))))))))))) (r127.2.1.1,((r127.2.1.2.1.1,(r127.2.1.2.1.2.1,())),r127.2.1.2.2)) (2:Int)) fun r129 =>
  some ((r129.1,r129.2.1,()),()))) fun x130 =>
  none) some)))))))
  else some (Sum.inl (qcc r110.1 (x108.1.1++[r110.2]) (w64 (x108.1.2.1+1))))))))
  else some (Sum.inr (Sum.inl (qce x108)))
def qK (x106:Zv62×Zv11):Option (Zv6 ⊕ (Zv7 ⊕ Bool)) :=
  bif (decide (x106.1.1<((x106.2.1.2.2.2.2.2.2.2.2.2.2.2.1.length:Nat):Int))) then(Option.bind (α:=Zv7 ⊕ (Zv6 ⊕ (Zv7 ⊕ Bool))) (req (inb x106.1.1 x106.2.1.2.2.2.2.2.2.2.2.2.2.2.1.length) (Option.bind (qaC (x106.2.1.1,(x106.2.1.2.1,(x106.2.1.2.2.1,(x106.2.1.2.2.2.1,(x106.2.1.2.2.2.2.1,(x106.2.1.2.2.2.2.2.1,(x106.2.1.2.2.2.2.2.2.1,(x106.2.1.2.2.2.2.2.2.2.1,(x106.2.1.2.2.2.2.2.2.2.2.1,(x106.2.1.2.2.2.2.2.2.2.2.2.1,(x106.2.1.2.2.2.2.2.2.2.2.2.2.1,()))))))))))) (getD' x106.2.1.2.2.2.2.2.2.2.2.2.2.2.1 ((x106.1.1).toNat) ([],(([],([],())),((0:Int),((0:Int),())))))) fun r107 =>
  Option.bind (α:=Zv4 ⊕ (Zv7 ⊕ (Zv6 ⊕ (Zv7 ⊕ Bool)))) (iterW (qC r107 x106) (qck x106.2.1 ([]:List Int) (0:Int))) (Sum.elim (fun x131 =>
  req (room (x131.2.1.2.2.2.2.2.2.2.2.2.2.2.2.1.length+([x131.1.1]).length) 24) (some (Sum.inl (qcf x131.2.1 (x131.2.1.2.2.2.2.2.2.2.2.2.2.2.2.1++[x131.1.1]))))) some))) (Sum.elim (fun x132 =>
  some (Sum.inl (qbe x132.2.1 (w64 (x106.1.1+1))))) some))
  else some (Sum.inr (Sum.inl (qbD x106.2.1)))
def qa5:Option (Bool) :=
  Option.bind (qar ((qa).1,(((qa).2).1,((((qa).2).2).1,(((((qa).2).2).2).1,((((((qa).2).2).2).2).1,(((((((qa).2).2).2).2).2).1,((((((((qa).2).2).2).2).2).2).1,(((((((((qa).2).2).2).2).2).2).2).1,((((((((((qa).2).2).2).2).2).2).2).2).1,(((((((((((qa).2).2).2).2).2).2).2).2).2).1,((((((((((((qa).2).2).2).2).2).2).2).2).2).2).1,())))))))))))) fun r42 =>
  bif (r42.2.1 !=0) then(bif (r42.2.1 !=0) then(Option.bind (qar ((qa).1,(((qa).2).1,((((qa).2).2).1,(((((qa).2).2).2).1,((((((qa).2).2).2).2).1,(((((((qa).2).2).2).2).2).1,((((((((qa).2).2).2).2).2).2).1,(((((((((qa).2).2).2).2).2).2).2).1,((((((((((qa).2).2).2).2).2).2).2).2).1,(((((((((((qa).2).2).2).2).2).2).2).2).2).1,((((((((((((qa).2).2).2).2).2).2).2).2).2).2).1,())))))))))))) fun r43 =>
  bif (r43.2.1 !=0) then(Option.bind (qh ([r42.2.1,r43.2.1])) fun r44 =>
  bif (((!r44)||true)||true) then some false
  else none)
  else bif (((((((((((qa).2).2).2).2).2).2).2).2).2).1 !=0) then(Option.bind (qh ([r42.2.1,(1:Int)])) fun r45 =>
  bif (((!r45)||true)||true) then some false
  else none)
  else Option.bind (qaw ((qa).1,(((qa).2).1,((((qa).2).2).1,(((((qa).2).2).2).1,((((((qa).2).2).2).2).1,(((((((qa).2).2).2).2).2).1,((((((((qa).2).2).2).2).2).2).1,(((((((((qa).2).2).2).2).2).2).2).1,((((((((((qa).2).2).2).2).2).2).2).2).1,(((((((((((qa).2).2).2).2).2).2).2).2).2).1,((((((((((((qa).2).2).2).2).2).2).2).2).2).2).1,())))))))))))) fun r46 =>
  Option.bind (qu (r46,(([]:List Zv26),(([]:List Zv63),(([]:List Zv58),(([]:List Zv61),()))))) (r43.1.1,((r43.1.2.1.1,(r43.1.2.1.2.1,())),r43.1.2.2))) fun r47 =>
  Option.bind (α:=Zv7 ⊕ Bool) (iterW (qe7 r42) (qaU r47.1 (0:Int))) (Sum.elim (fun x56 =>
  Option.bind (qH (qY x56.2.1)) fun r57 =>
  Option.bind (qh ([r42.2.1,(0:Int)])) fun r58 =>
  bif (((!r58)||true)||false) then some false
  else Option.bind (qah (r57.1.1,(r57.1.2.1,(r57.1.2.2.1,(r57.1.2.2.2.1,(r57.1.2.2.2.2.1,()))))) (0:Int)) fun r59 =>
  Option.bind (agree (Option.bind (qag ((qa).1,(((qa).2).1,((((qa).2).2).1,(((((qa).2).2).2).1,((((((qa).2).2).2).2).1,(((((((qa).2).2).2).2).2).1,((((((((qa).2).2).2).2).2).2).1,(((((((((qa).2).2).2).2).2).2).2).1,((((((((((qa).2).2).2).2).2).2).2).2).1,(((((((((((qa).2).2).2).2).2).2).2).2).2).1,((((((((((((qa).2).2).2).2).2).2).2).2).2).2).1,()))))))))))) (r59.2.1.1,((r59.2.1.2.1.1,(r59.2.1.2.1.2.1,())),r59.2.1.2.2)) (2:Int)) fun r60 =>
  some ((r60.1,r60.2.1,()),())) (Option.bind (qag ((qa).1,(((qa).2).1,((((qa).2).2).1,(((((qa).2).2).2).1,((((((qa).2).2).2).2).1,(((((((qa).2).2).2).2).2).1,((((((((qa).2).2).2).2).2).2).1,(((((((((qa).2).2).2).2).2).2).2).1,((((((((((qa).2).2).2).2).2).2).2).2).1,(((((((((((qa).2).2).2).2).2).2).2).2).2).1,((((((((((((qa).2).2).2).2).2).2).2).2).2).2).1,()))))))))))) (r59.2.1.1,((r59.2.1.2.1.1,(r59.2.1.2.1.2.1,())),r59.2.1.2.2)) (2:Int)) fun r61 =>
  some ((r61.1,r61.2.1,()),()))) fun x62 =>
  none) some))
  else Option.bind (qaw ((qa).1,(((qa).2).1,((((qa).2).2).1,(((((qa).2).2).2).1,((((((qa).2).2).2).2).1,(((((((qa).2).2).2).2).2).1,((((((((qa).2).2).2).2).2).2).1,(((((((((qa).2).2).2).2).2).2).2).1,((((((((((qa).2).2).2).2).2).2).2).2).1,(((((((((((qa).2).2).2).2).2).2).2).2).2).1,((((((((((((qa).2).2).2).2).2).2).2).2).2).2).1,())))))))))))) fun r63 =>
  Option.bind (qar ((qa).1,(((qa).2).1,((((qa).2).2).1,(((((qa).2).2).2).1,((((((qa).2).2).2).2).1,(((((((qa).2).2).2).2).2).1,((((((((qa).2).2).2).2).2).2).1,(((((((((qa).2).2).2).2).2).2).2).1,((((((((((qa).2).2).2).2).2).2).2).2).1,(((((((((((qa).2).2).2).2).2).2).2).2).2).1,((((((((((((qa).2).2).2).2).2).2).2).2).2).2).1,())))))))))))) fun r64 =>
  bif (r64.2.1 !=0) then(Option.bind (qh ([(0:Int),r64.2.1])) fun r65 =>
  bif (((!r65)||false)||true) then some false
  else none)
  else bif (((((((((((qa).2).2).2).2).2).2).2).2).2).1 !=0) then(Option.bind (qh ([(0:Int),(1:Int)])) fun r66 =>
  bif (((!r66)||false)||true) then some false
  else none)
  else Option.bind (qaw ((qa).1,(((qa).2).1,((((qa).2).2).1,(((((qa).2).2).2).1,((((((qa).2).2).2).2).1,(((((((qa).2).2).2).2).2).1,((((((((qa).2).2).2).2).2).2).1,(((((((((qa).2).2).2).2).2).2).2).1,((((((((((qa).2).2).2).2).2).2).2).2).1,(((((((((((qa).2).2).2).2).2).2).2).2).2).1,((((((((((((qa).2).2).2).2).2).2).2).2).2).2).1,())))))))))))) fun r67 =>
  Option.bind (qu (r67,(([]:List Zv26),(([]:List Zv63),(([]:List Zv58),(([]:List Zv61),()))))) (r64.1.1,((r64.1.2.1.1,(r64.1.2.1.2.1,())),r64.1.2.2))) fun r68 =>
  Option.bind (α:=Zv7 ⊕ Bool) (iterW (qD) (qaU r68.1 (0:Int))) (Sum.elim (fun x77 =>
  Option.bind (qH (qY x77.2.1)) fun r78 =>
  Option.bind (qh ([(0:Int),(0:Int)])) fun r79 =>
  bif (((!r79)||false)||false) then some false
  else Option.bind (qah (r78.1.1,(r78.1.2.1,(r78.1.2.2.1,(r78.1.2.2.2.1,(r78.1.2.2.2.2.1,()))))) (0:Int)) fun r80 =>
  Option.bind (agree (Option.bind (qag ((qa).1,(((qa).2).1,((((qa).2).2).1,(((((qa).2).2).2).1,((((((qa).2).2).2).2).1,(((((((qa).2).2).2).2).2).1,((((((((qa).2).2).2).2).2).2).1,(((((((((qa).2).2).2).2).2).2).2).1,((((((((((qa).2).2).2).2).2).2).2).2).1,(((((((((((qa).2).2).2).2).2).2).2).2).2).1,((((((((((((qa).2).2).2).2).2).2).2).2).2).2).1,()))))))))))) (r80.2.1.1,((r80.2.1.2.1.1,(r80.2.1.2.1.2.1,())),r80.2.1.2.2)) (2:Int)) fun r81 =>
  some ((r81.1,r81.2.1,()),())) (Option.bind (qag ((qa).1,(((qa).2).1,((((qa).2).2).1,(((((qa).2).2).2).1,((((((qa).2).2).2).2).1,(((((((qa).2).2).2).2).2).1,((((((((qa).2).2).2).2).2).2).1,(((((((((qa).2).2).2).2).2).2).2).1,((((((((((qa).2).2).2).2).2).2).2).2).1,(((((((((((qa).2).2).2).2).2).2).2).2).2).1,((((((((((((qa).2).2).2).2).2).2).2).2).2).2).1,()))))))))))) (r80.2.1.1,((r80.2.1.2.1.1,(r80.2.1.2.1.2.1,())),r80.2.1.2.2)) (2:Int)) fun r82 =>
  some ((r82.1,r82.2.1,()),()))) fun x83 =>
  none) some))
  else bif (((((((((((qa).2).2).2).2).2).2).2).2).2).1 !=0) then(Option.bind (qar ((qa).1,(((qa).2).1,((((qa).2).2).1,(((((qa).2).2).2).1,((((((qa).2).2).2).2).1,(((((((qa).2).2).2).2).2).1,((((((((qa).2).2).2).2).2).2).1,(((((((((qa).2).2).2).2).2).2).2).1,((((((((((qa).2).2).2).2).2).2).2).2).1,(((((((((((qa).2).2).2).2).2).2).2).2).2).1,((((((((((((qa).2).2).2).2).2).2).2).2).2).2).1,())))))))))))) fun r84 =>
  bif (r84.2.1 !=0) then(Option.bind (qh ([(1:Int),r84.2.1])) fun r85 =>
  bif (((!r85)||true)||true) then some false
  else none)
  else bif (((((((((((qa).2).2).2).2).2).2).2).2).2).1 !=0) then(Option.bind (qh ([(1:Int),(1:Int)])) fun r86 =>
  bif (((!r86)||true)||true) then some false
  else none)
  else Option.bind (qaw ((qa).1,(((qa).2).1,((((qa).2).2).1,(((((qa).2).2).2).1,((((((qa).2).2).2).2).1,(((((((qa).2).2).2).2).2).1,((((((((qa).2).2).2).2).2).2).1,(((((((((qa).2).2).2).2).2).2).2).1,((((((((((qa).2).2).2).2).2).2).2).2).1,(((((((((((qa).2).2).2).2).2).2).2).2).2).1,((((((((((((qa).2).2).2).2).2).2).2).2).2).2).1,())))))))))))) fun r87 =>
  Option.bind (qu (r87,(([]:List Zv26),(([]:List Zv63),(([]:List Zv58),(([]:List Zv61),()))))) (r84.1.1,((r84.1.2.1.1,(r84.1.2.1.2.1,())),r84.1.2.2))) fun r88 =>
  Option.bind (α:=Zv7 ⊕ Bool) (iterW (qe8) (qaU r88.1 (0:Int))) (Sum.elim (fun x97 =>
  Option.bind (qH (qY x97.2.1)) fun r98 =>
  Option.bind (qh ([(1:Int),(0:Int)])) fun r99 =>
  bif (((!r99)||true)||false) then some false
  else Option.bind (qah (r98.1.1,(r98.1.2.1,(r98.1.2.2.1,(r98.1.2.2.2.1,(r98.1.2.2.2.2.1,()))))) (0:Int)) fun r100 =>
  Option.bind (agree (Option.bind (qag ((qa).1,(((qa).2).1,((((qa).2).2).1,(((((qa).2).2).2).1,((((((qa).2).2).2).2).1,(((((((qa).2).2).2).2).2).1,((((((((qa).2).2).2).2).2).2).1,(((((((((qa).2).2).2).2).2).2).2).1,((((((((((qa).2).2).2).2).2).2).2).2).1,(((((((((((qa).2).2).2).2).2).2).2).2).2).1,((((((((((((qa).2).2).2).2).2).2).2).2).2).2).1,()))))))))))) (r100.2.1.1,((r100.2.1.2.1.1,(r100.2.1.2.1.2.1,())),r100.2.1.2.2)) (2:Int)) fun r101 =>
  some ((r101.1,r101.2.1,()),())) (Option.bind (qag ((qa).1,(((qa).2).1,((((qa).2).2).1,(((((qa).2).2).2).1,((((((qa).2).2).2).2).1,(((((((qa).2).2).2).2).2).1,((((((((qa).2).2).2).2).2).2).1,(((((((((qa).2).2).2).2).2).2).2).1,((((((((((qa).2).2).2).2).2).2).2).2).1,(((((((((((qa).2).2).2).2).2).2).2).2).2).1,((((((((((((qa).2).2).2).2).2).2).2).2).2).2).1,()))))))))))) (r100.2.1.1,((r100.2.1.2.1.1,(r100.2.1.2.1.2.1,())),r100.2.1.2.2)) (2:Int)) fun r102 =>
  some ((r102.1,r102.2.1,()),()))) fun x103 =>
  none) some))
  else Option.bind (qaw ((qa).1,(((qa).2).1,((((qa).2).2).1,(((((qa).2).2).2).1,((((((qa).2).2).2).2).1,(((((((qa).2).2).2).2).2).1,((((((((qa).2).2).2).2).2).2).1,(((((((((qa).2).2).2).2).2).2).2).1,((((((((((qa).2).2).2).2).2).2).2).2).1,(((((((((((qa).2).2).2).2).2).2).2).2).2).1,((((((((((((qa).2).2).2).2).2).2).2).2).2).2).1,())))))))))))) fun r104 =>
  Option.bind (qu (r104,(([]:List Zv26),(([]:List Zv63),(([]:List Zv58),(([]:List Zv61),()))))) (r42.1.1,((r42.1.2.1.1,(r42.1.2.1.2.1,())),r42.1.2.2))) fun r105 =>
  Option.bind (α:=Zv7 ⊕ Bool) (iterW (qK) (qaU r105.1 (0:Int))) (Sum.elim (fun x133 =>
  Option.bind (qH (qY x133.2.1)) fun r134 =>
  Option.bind (qaw ((qa).1,(((qa).2).1,((((qa).2).2).1,(((((qa).2).2).2).1,((((((qa).2).2).2).2).1,(((((((qa).2).2).2).2).2).1,((((((((qa).2).2).2).2).2).2).1,(((((((((qa).2).2).2).2).2).2).2).1,((((((((((qa).2).2).2).2).2).2).2).2).1,(((((((((((qa).2).2).2).2).2).2).2).2).2).1,((((((((((((qa).2).2).2).2).2).2).2).2).2).2).1,())))))))))))) fun r135 =>
  Option.bind (qar ((qa).1,(((qa).2).1,((((qa).2).2).1,(((((qa).2).2).2).1,((((((qa).2).2).2).2).1,(((((((qa).2).2).2).2).2).1,((((((((qa).2).2).2).2).2).2).1,(((((((((qa).2).2).2).2).2).2).2).1,((((((((((qa).2).2).2).2).2).2).2).2).1,(((((((((((qa).2).2).2).2).2).2).2).2).2).1,((((((((((((qa).2).2).2).2).2).2).2).2).2).2).1,())))))))))))) fun r136 =>
  bif (r136.2.1 !=0) then(Option.bind (qh ([(0:Int),r136.2.1])) fun r137 =>
  bif (((!r137)||false)||true) then some false
  else none)
  else bif (((((((((((qa).2).2).2).2).2).2).2).2).2).1 !=0) then(Option.bind (qh ([(0:Int),(1:Int)])) fun r138 =>
  bif (((!r138)||false)||true) then some false
  else none)
  else Option.bind (qaw ((qa).1,(((qa).2).1,((((qa).2).2).1,(((((qa).2).2).2).1,((((((qa).2).2).2).2).1,(((((((qa).2).2).2).2).2).1,((((((((qa).2).2).2).2).2).2).1,(((((((((qa).2).2).2).2).2).2).2).1,((((((((((qa).2).2).2).2).2).2).2).2).1,(((((((((((qa).2).2).2).2).2).2).2).2).2).1,((((((((((((qa).2).2).2).2).2).2).2).2).2).2).1,())))))))))))) fun r139 =>
  Option.bind (qu (r139,(([]:List Zv26),(([]:List Zv63),(([]:List Zv58),(([]:List Zv61),()))))) (r136.1.1,((r136.1.2.1.1,(r136.1.2.1.2.1,())),r136.1.2.2))) fun r140 =>
  Option.bind (α:=Zv7 ⊕ Bool) (iterW (qD) (qaU r140.1 (0:Int))) (Sum.elim (fun x149 =>
  Option.bind (qH (qY x149.2.1)) fun r150 =>
  Option.bind (qh ([(0:Int),(0:Int)])) fun r151 =>
  bif (((!r151)||false)||false) then some false
  else Option.bind (qah (r150.1.1,(r150.1.2.1,(r150.1.2.2.1,(r150.1.2.2.2.1,(r150.1.2.2.2.2.1,()))))) (0:Int)) fun r152 =>
  Option.bind (agree (Option.bind (qag ((qa).1,(((qa).2).1,((((qa).2).2).1,(((((qa).2).2).2).1,((((((qa).2).2).2).2).1,(((((((qa).2).2).2).2).2).1,((((((((qa).2).2).2).2).2).2).1,(((((((((qa).2).2).2).2).2).2).2).1,((((((((((qa).2).2).2).2).2).2).2).2).1,(((((((((((qa).2).2).2).2).2).2).2).2).2).1,((((((((((((qa).2).2).2).2).2).2).2).2).2).2).1,()))))))))))) (r152.2.1.1,((r152.2.1.2.1.1,(r152.2.1.2.1.2.1,())),r152.2.1.2.2)) (2:Int)) fun r153 =>
  some ((r153.1,r153.2.1,()),())) (Option.bind (qag ((qa).1,(((qa).2).1,((((qa).2).2).1,(((((qa).2).2).2).1,((((((qa).2).2).2).2).1,(((((((qa).2).2).2).2).2).1,((((((((qa).2).2).2).2).2).2).1,(((((((((qa).2).2).2).2).2).2).2).1,((((((((((qa).2).2).2).2).2).2).2).2).1,(((((((((((qa).2).2).2).2).2).2).2).2).2).1,((((((((((((qa).2).2).2).2).2).2).2).2).2).2).1,()))))))))))) (r152.2.1.1,((r152.2.1.2.1.1,(r152.2.1.2.1.2.1,())),r152.2.1.2.2)) (2:Int)) fun r154 =>
  some ((r154.1,r154.2.1,()),()))) fun x155 =>
  Option.bind (qb1 (r135,((r134.1.1,(r134.1.2.1,(r134.1.2.2.1,(r134.1.2.2.2.1,(r134.1.2.2.2.2.1,()))))),(((),((),((0:Int),()))),()))) (r152.2.1.1,((r152.2.1.2.1.1,(r152.2.1.2.1.2.1,())),r152.2.1.2.2)) (9:Int)) fun r156 =>
  Option.bind (qiK ((qa).1,(((qa).2).1,((((qa).2).2).1,(((((qa).2).2).2).1,((((((qa).2).2).2).2).1,(((((((qa).2).2).2).2).2).1,((((((((qa).2).2).2).2).2).2).1,(((((((((qa).2).2).2).2).2).2).2).1,((((((((((qa).2).2).2).2).2).2).2).2).1,(((((((((((qa).2).2).2).2).2).2).2).2).2).1,((((((((((((qa).2).2).2).2).2).2).2).2).2).2).1,()))))))))))) r156.2.1) fun r157 =>
  Option.bind (agree (Option.bind (qaO ((qa).1,(((qa).2).1,((((qa).2).2).1,(((((qa).2).2).2).1,((((((qa).2).2).2).2).1,(((((((qa).2).2).2).2).2).1,((((((((qa).2).2).2).2).2).2).1,(((((((((qa).2).2).2).2).2).2).2).1,((((((((((qa).2).2).2).2).2).2).2).2).1,(((((((((((qa).2).2).2).2).2).2).2).2).2).1,((((((((((((qa).2).2).2).2).2).2).2).2).2).2).1,()))))))))))) (r152.2.1.1,((r152.2.1.2.1.1,(r152.2.1.2.1.2.1,())),r152.2.1.2.2))) fun r158 =>
  some ((r158.1,r158.2.1,()),())) (Option.bind (qaO ((qa).1,(((qa).2).1,((((qa).2).2).1,(((((qa).2).2).2).1,((((((qa).2).2).2).2).1,(((((((qa).2).2).2).2).2).1,((((((((qa).2).2).2).2).2).2).1,(((((((((qa).2).2).2).2).2).2).2).1,((((((((((qa).2).2).2).2).2).2).2).2).1,(((((((((((qa).2).2).2).2).2).2).2).2).2).1,((((((((((((qa).2).2).2).2).2).2).2).2).2).2).1,()))))))))))) (r152.2.1.1,((r152.2.1.2.1.1,(r152.2.1.2.1.2.1,())),r152.2.1.2.2))) fun r159 =>
  some ((r159.1,r159.2.1,()),()))) fun x160 =>
  Option.bind (agree (Option.bind (qm9 ((qa).1,(((qa).2).1,((((qa).2).2).1,(((((qa).2).2).2).1,((((((qa).2).2).2).2).1,(((((((qa).2).2).2).2).2).1,((((((((qa).2).2).2).2).2).2).1,(((((((((qa).2).2).2).2).2).2).2).1,((((((((((qa).2).2).2).2).2).2).2).2).1,(((((((((((qa).2).2).2).2).2).2).2).2).2).1,((((((((((((qa).2).2).2).2).2).2).2).2).2).2).1,()))))))))))) (r152.2.1.1,((r152.2.1.2.1.1,(r152.2.1.2.1.2.1,())),r152.2.1.2.2))) fun r161 =>
  some ((r161.1,r161.2.1,()),())) (Option.bind (qm9 ((qa).1,(((qa).2).1,((((qa).2).2).1,(((((qa).2).2).2).1,((((((qa).2).2).2).2).1,(((((((qa).2).2).2).2).2).1,((((((((qa).2).2).2).2).2).2).1,(((((((((qa).2).2).2).2).2).2).2).1,((((((((((qa).2).2).2).2).2).2).2).2).1,(((((((((((qa).2).2).2).2).2).2).2).2).2).1,((((((((((((qa).2).2).2).2).2).2).2).2).2).2).1,()))))))))))) (r152.2.1.1,((r152.2.1.2.1.1,(r152.2.1.2.1.2.1,())),r152.2.1.2.2))) fun r162 =>
  some ((r162.1,r162.2.1,()),()))) fun x163 =>
  Option.bind (agree (Option.bind (qdu ((qa).1,(((qa).2).1,((((qa).2).2).1,(((((qa).2).2).2).1,((((((qa).2).2).2).2).1,(((((((qa).2).2).2).2).2).1,((((((((qa).2).2).2).2).2).2).1,(((((((((qa).2).2).2).2).2).2).2).1,((((((((((qa).2).2).2).2).2).2).2).2).1,(((((((((((qa).2).2).2).2).2).2).2).2).2).1,((((((((((((qa).2).2).2).2).2).2).2).2).2).2).1,()))))))))))) (r152.2.1.1,((r152.2.1.2.1.1,(r152.2.1.2.1.2.1,())),r152.2.1.2.2))) fun r164 =>
  some ((r164.1,r164.2.1,()),())) (Option.bind (qdu ((qa).1,(((qa).2).1,((((qa).2).2).1,(((((qa).2).2).2).1,((((((qa).2).2).2).2).1,(((((((qa).2).2).2).2).2).1,((((((((qa).2).2).2).2).2).2).1,(((((((((qa).2).2).2).2).2).2).2).1,((((((((((qa).2).2).2).2).2).2).2).2).1,(((((((((((qa).2).2).2).2).2).2).2).2).2).1,((((((((((((qa).2).2).2).2).2).2).2).2).2).2).1,()))))))))))) (r152.2.1.1,((r152.2.1.2.1.1,(r152.2.1.2.1.2.1,())),r152.2.1.2.2))) fun r165 =>
  some ((r165.1,r165.2.1,()),()))) fun x166 =>
  Option.bind (qh ([r152.2.2.2.1,x155.1.2.1,r156.2.2.1,r157.2.2.1,x163.1.2.1,x166.1.2.1])) fun r167 =>
  some ((((((((r167&&(x160.1.2.1==8))&&(x160.1.1==0))&&(r152.2.2.1.2.1==2))&&(x155.1.1==(-998:Int)))&&(((r156.2.1.length:Nat):Int)==2))&&(r157.2.1==2))&&(x163.1.1==0))&&(((x166.1.1.length:Nat):Int)==2))) some)) some)
def qcr (t:Zv21×Zv23×Zv60×Zv52×Zv55×Unit):Option Zv9 :=
  some ((t.1,(t.2.1,(t.2.2.1,(t.2.2.2.1,(t.2.2.2.2.1,()))))),((t.2.1.length:Nat):Int))
def qad (a:Int) (n:Int):Option (Int) :=
  req ((wu64 n)!=0) (some (w64 ((wu64 a).tmod (wu64 n))))
def qa1 (s1:List Zv54) (s2:List Zv54) (x1:Zv62×(Unit)):Option (Zv56 ⊕ (Zv59 ⊕ Bool)) :=
  bif (decide (x1.1.1<((s1.length:Nat):Int))) then(Option.bind (at? s1 x1.1.1) fun d2 =>
  Option.bind (at? s2 x1.1.1) fun d3 =>
  bif (!((d2.1==d3.1)&&((d2.2.1==d3.2.1)&&((d2.2.2.1==d3.2.2.1)&&true)))) then some (Sum.inr (Sum.inr false))
  else some (Sum.inl (((w64 (x1.1.1+1)),()),())))
  else some (Sum.inr (Sum.inl ((),())))
def qbL (s1:List Zv54) (s2:List Zv54):Option (Bool) :=
  bif (((s1.length:Nat):Int)!=((s2.length:Nat):Int)) then some false
  else Option.bind (α:=Zv59 ⊕ Bool) (iterW (qa1 s1 s2) (((0:Int),()),())) (Sum.elim (fun x4 =>
  some true) some)
def qr (r11:List Zv54) (x10:Zv62×Zv11) (x12:Zv51×Zv11):Option (Zv3 ⊕ (Zv4 ⊕ (Zv7 ⊕ (Zv6 ⊕ (Zv7 ⊕ Bool))))) :=
  bif (decide (x12.1.2.1<((r11.length:Nat):Int))) then(req (inb x12.1.2.1 r11.length) (req (inb x10.1.1 x12.2.1.2.2.2.2.2.2.2.2.2.2.2.1.length) (Option.bind (qp (x12.2.1.1,(x12.2.1.2.1,(x12.2.1.2.2.1,(x12.2.1.2.2.2.1,(x12.2.1.2.2.2.2.1,(x12.2.1.2.2.2.2.2.1,(x12.2.1.2.2.2.2.2.2.1,(x12.2.1.2.2.2.2.2.2.2.1,(x12.2.1.2.2.2.2.2.2.2.2.1,(x12.2.1.2.2.2.2.2.2.2.2.2.1,(x12.2.1.2.2.2.2.2.2.2.2.2.2.1,()))))))))))) (getD' x12.2.1.2.2.2.2.2.2.2.2.2.2.2.1 ((x10.1.1).toNat) ([],(([],([],())),((0:Int),((0:Int),()))))) (getD' r11 ((x12.1.2.1).toNat) ((0:Int),((0:Int),((0:Int),()))))) fun r13 =>
  Option.bind (qu (qY x12.2.1) (r13.1,((r13.2.1.1,(r13.2.1.2.1,())),r13.2.2))) fun r14 =>
  req (room (x12.1.1.length+([r14.2]).length) 8) (bif (decide (((r14.1.2.1.length:Nat):Int)>3000)) then some (Sum.inr (Sum.inr (Sum.inr (Sum.inr (Sum.inr true)))))
  else some (Sum.inl (qcc r14.1 (x12.1.1++[r14.2]) (w64 (x12.1.2.1+1))))))))
  else some (Sum.inr (Sum.inl (qce x12)))
def qv (x10:Zv62×Zv11):Option (Zv6 ⊕ (Zv7 ⊕ Bool)) :=
  bif (decide (x10.1.1<((x10.2.1.2.2.2.2.2.2.2.2.2.2.2.1.length:Nat):Int))) then(Option.bind (α:=Zv7 ⊕ (Zv6 ⊕ (Zv7 ⊕ Bool))) (req (inb x10.1.1 x10.2.1.2.2.2.2.2.2.2.2.2.2.2.1.length) (Option.bind (qaC (x10.2.1.1,(x10.2.1.2.1,(x10.2.1.2.2.1,(x10.2.1.2.2.2.1,(x10.2.1.2.2.2.2.1,(x10.2.1.2.2.2.2.2.1,(x10.2.1.2.2.2.2.2.2.1,(x10.2.1.2.2.2.2.2.2.2.1,(x10.2.1.2.2.2.2.2.2.2.2.1,(x10.2.1.2.2.2.2.2.2.2.2.2.1,(x10.2.1.2.2.2.2.2.2.2.2.2.2.1,()))))))))))) (getD' x10.2.1.2.2.2.2.2.2.2.2.2.2.2.1 ((x10.1.1).toNat) ([],(([],([],())),((0:Int),((0:Int),())))))) fun r11 =>
  Option.bind (α:=Zv4 ⊕ (Zv7 ⊕ (Zv6 ⊕ (Zv7 ⊕ Bool)))) (iterW (qr r11 x10) (qck x10.2.1 ([]:List Int) (0:Int))) (Sum.elim (fun x15 =>
  req (room (x15.2.1.2.2.2.2.2.2.2.2.2.2.2.2.1.length+([x15.1.1]).length) 24) (some (Sum.inl (qcf x15.2.1 (x15.2.1.2.2.2.2.2.2.2.2.2.2.2.2.1++[x15.1.1]))))) some))) (Sum.elim (fun x16 =>
  some (Sum.inl (qbe x16.2.1 (w64 (x10.1.1+1))))) some))
  else some (Sum.inr (Sum.inl (qbD x10.2.1)))
def qs (picks:List Int) (r:ByteArray×Int×Int×Zv24×Zv63×Bool×Bool×Zv38×Int×Int×Int×Unit) (x22:Zv62×Zv11):Option (Zv6 ⊕ (Zv7 ⊕ Bool)) :=
  bif (decide (x22.1.1<((((picks.take ((if (8:Int)<((picks.length:Nat):Int) then(8:Int) else((picks.length:Nat):Int))).toNat).drop 0).length:Nat):Int))) then(Option.bind (α:=Zv7 ⊕ (Zv6 ⊕ (Zv7 ⊕ Bool))) (Option.bind (at? ((picks.take ((if (8:Int)<((picks.length:Nat):Int) then(8:Int) else((picks.length:Nat):Int))).toNat).drop 0) x22.1.1) fun d23 =>
  Option.bind (qcr (qY x22.2.1)) fun r24 =>
  Option.bind (qad d23 r24.2) fun r25 =>
  Option.bind (qah (r24.1.1,(r24.1.2.1,(r24.1.2.2.1,(r24.1.2.2.2.1,(r24.1.2.2.2.2.1,()))))) r25) fun r26 =>
  bif (r26.2.2.2.1 !=0) then some (Sum.inr (Sum.inr (Sum.inr false)))
  else Option.bind (qdu r (r26.2.1.1,((r26.2.1.2.1.1,(r26.2.1.2.1.2.1,())),r26.2.1.2.2))) fun r27 =>
  bif ((((r27.2.1 !=0)||(decide (((r27.1.length:Nat):Int)>12)))||((r26.2.2.1.2.1 !=1)&&(r26.2.2.1.2.1 !=3)))||(!((r26.2.2.1.1==1)==(r26.2.1.2.2.1==0)))) then some (Sum.inl (qfN r26.1))
  else Option.bind (qcu r (r26.2.1.1,((r26.2.1.2.1.1,(r26.2.1.2.1.2.1,())),r26.2.1.2.2)) r26.2.2.1.2.1) fun r28 =>
  bif (r28==17) then some (Sum.inl (qfN r26.1))
  else Option.bind (qQ (r26.1.1,(r26.1.2.1,(r26.1.2.2.1,(r26.1.2.2.2.1,(r26.1.2.2.2.2.1,()))))) (r26.2.1.1,((r26.2.1.2.1.1,(r26.2.1.2.1.2.1,())),r26.2.1.2.2))) fun r29 =>
  Option.bind (qae r (r26.2.1.1,((r26.2.1.2.1.1,(r26.2.1.2.1.2.1,())),r26.2.1.2.2)) r26.2.2.1.2.1) fun r30 =>
  Option.bind (qaO r (r26.2.1.1,((r26.2.1.2.1.1,(r26.2.1.2.1.2.1,())),r26.2.1.2.2))) fun r31 =>
  Option.bind (qh ([r29.2.2.1,r30.2.1,r31.2.1])) fun r32 =>
  Option.bind (gopt (!(!r32)) false (qbL r29.2.1 r30.1)) fun r33 =>
  bif (((!r32)||(!r33))||(r31.1 !=r26.2.2.1.2.1)) then some (Sum.inr (Sum.inr (Sum.inr false)))
  else some (Sum.inl (qfN r29.1))) (Sum.elim (fun x34 =>
  some (Sum.inl (qbe x34.2.1 (w64 (x22.1.1+1))))) some))
  else some (Sum.inr (Sum.inl (qbD x22.2.1)))
def qw (r:ByteArray×Int×Int×Zv24×Zv63×Bool×Bool×Zv38×Int×Int×Int×Unit) (picks:List Int):Option (Bool) :=
  Option.bind (qa5) fun r6 =>
  bif (!r6) then some false
  else bif ((decide ((w64 (r.2.1*r.2.2.1))>9))||(decide (((r.2.2.2.1.length:Nat):Int)>3))) then some true
  else Option.bind (qar r) fun r7 =>
  bif (r7.2.1 !=0) then(bif ((r7.2.1 !=0)||true) then some true
  else none)
  else bif (r.2.2.2.2.2.2.2.2.2.1 !=0) then some true
  else Option.bind (qaw r) fun r8 =>
  Option.bind (qu (r8,(([]:List Zv26),(([]:List Zv63),(([]:List Zv58),(([]:List Zv61),()))))) (r7.1.1,((r7.1.2.1.1,(r7.1.2.1.2.1,())),r7.1.2.2))) fun r9 =>
  Option.bind (α:=Zv7 ⊕ Bool) (iterW (qv) (qaU r9.1 (0:Int))) (Sum.elim (fun x17 =>
  Option.bind (qH (qY x17.2.1)) fun r18 =>
  Option.bind (Option.bind (qcr (r18.1.1,(r18.1.2.1,(r18.1.2.2.1,(r18.1.2.2.2.1,(r18.1.2.2.2.2.1,())))))) fun r19 =>
  bif (r19.2==0) then some (qaU r19.1 true)
  else Option.bind (qcr (r19.1.1,(r19.1.2.1,(r19.1.2.2.1,(r19.1.2.2.2.1,(r19.1.2.2.2.2.1,())))))) fun r20 =>
  some (qaU r20.1 (decide (r20.2>500)))) fun x21 =>
  bif x21.1.1 then some true
  else req (qM (0:Int) (if (8:Int)<((picks.length:Nat):Int) then(8:Int) else((picks.length:Nat):Int)) picks.length) (Option.bind (α:=Zv7 ⊕ Bool) (iterW (qs picks r) (qbe x21.2.1 (0:Int))) (Sum.elim (fun x35 =>
  some true) some))) some)
end
end Go.Proofs.YtkkoolcdonhoaaaGreatDoor
namespace Go.Den
open Go.Eng Go.Sort Go.Proofs Go.Shelf Go.Lib
set_option linter.unusedVariables false
set_option linter.unusedSectionVars false
set_option linter.unusedSimpArgs false
instance (τ:Ty):Inhabited (D τ):=⟨dflt τ⟩

theorem qrh {α:Type} [Inhabited α] (enc:α→List Value) (k:Nat) (hk:∀x,(enc x).length=k):∀(l:List α) (t:Nat),t<l.length*k→(l.map enc).flatten[t]?=some ((enc l[t / k]!)[t % k]!)
  | [],t,h=>by simp at h
  | x::l,t,h=>by
    rw[List.map_cons,List.flatten_cons];have k0:0<k:=by
      rcases Nat.eq_zero_or_pos k with e | e
      · subst e;simp at h
      · exact e
    by_cases ht:t<k
    · rw[List.getElem?_append_left (by rw[hk];exact ht),Nat.div_eq_of_lt ht,Nat.mod_eq_of_lt ht];simp[hk,ht]
    · rw[List.getElem?_append_right (by rw[hk];omega),hk,qrh enc k hk l (t-k) (by rw[List.length_cons,Nat.add_mul] at h;omega)];obtain⟨u,rfl⟩:∃u,t=u+k:=⟨t-k,by omega⟩;rw[Nat.add_sub_cancel,Nat.add_div_right _ k0,Nat.add_mod_right];simp
theorem flen {α:Type} (enc:α→List Value) (k:Nat) (hk:∀x,(enc x).length=k):∀l:List α,((l.map enc).flatten).length=l.length*k
  | []=>by simp
  | x::l=>by rw[List.map_cons,List.flatten_cons,List.length_append,hk,flen enc k hk l,List.length_cons,Nat.add_mul];omega
theorem qnh {α:Type} [Inhabited α] (enc:α→List Value) (k:Nat) (hk:∀x,(enc x).length=k) (l:List α):flatK enc k l.toArray=((l.map enc).flatten).toArray:=by
  have hl:=flen enc k hk l;refine ext_get! (by simp[hl]) fun t ht=>?_
  have ht':t<l.toArray.size*k:=by simpa using ht
  rw[get_flatK _ _ _ _ ht'];have:=qrh enc k hk l t (by simpa using ht');simp[this]

variable [CT : Ctx]
theorem qh2 {w:World} {S:Sp}:∀(τ:Ty) (x:D τ),τ.flat=true→Rep w S τ x [] (qbK τ x)
  | .int k,x,_=>⟨rfl,rfl⟩
  | .bool,x,_=>⟨rfl,rfl⟩
  | .str,x,_=>⟨rfl,rfl⟩
  | .nil,x,_=>⟨rfl,rfl⟩
  | .sl e,x,h=>by cases h
  | .osl i e,x,h=>by cases h
  | .obx _,x,h=>by cases h
  | .err,x,h=>by cases h
  | .bld _ _,x,h=>by cases h
  | .st f r,x,h=>by
    simp only[Ty.flat,Bool.and_eq_true] at h;exact⟨_,_,[],[],rfl,rfl,qh2 f x.1 h.1,qh2 r x.2 h.2⟩
theorem qpD {w:World} {S:Sp} {τ:Ty} (hf:τ.flat=true):∀ {xs:List (D τ)} {us:List Value},RepL (fun x c=>Rep w S τ x [] c) xs us→us=(xs.map (qbK τ)).flatten
  | [],us,h=>h
  | x::xs,us,⟨c,r,e,h1,h2⟩=>by
    rw[e,qk5 τ hf h1,qpD hf h2];rfl
theorem qop {w:World} {S:Sp} {τ:Ty} (hf:τ.flat=true):∀(xs:List (D τ)),RepL (fun x c=>Rep w S τ x [] c) xs (xs.map (qbK τ)).flatten
  | []=>rfl
  | x::xs=>⟨_,_,rfl,qh2 τ x hf,qop hf xs⟩
theorem chg_grow {w w':World} (h:Chg (CT:=⟨[],[],true,[],none,none⟩) [] w w'):∃q os',w'=grow (w.drewN q) os':=by
  refine⟨w'.drawn-w.drawn,w'.heap.extract w.heap.size w'.heap.size,?_⟩;obtain⟨heap,tape,drawn,os,output⟩:=w;obtain⟨heap',tape',drawn',os',output'⟩:=w';obtain⟨h1,h2,h3,h4,h5,h6⟩:=h;simp only at h1 h2 h3 h4 h5 h6;subst h1 h2 h3;have h6:=h6 trivial;have:heap'=heap++heap'.extract heap.size heap'.size:=by
    apply Array.ext_getElem?;intro j;rw[Array.getElem?_append];by_cases hj:j<heap.size
    · rw[if_pos hj];exact h5 j hj (by simp)
    · rw[if_neg hj,Array.getElem?_extract];by_cases hj2:j<heap'.size
      · rw[if_pos (by omega)];congr 1;omega
      · rw[if_neg (by omega),Array.getElem?_eq_none (by omega)]
  show World.mk heap' tape' drawn' os' output'=World.mk (heap++heap'.extract heap.size heap'.size) tape' (drawn+(drawn'-drawn)) os' output';rw[←this];congr 1;omega

section
variable {P : Program} {ρ : Ren}
theorem qqn (L:SlLaysF0.n6 P ρ) {f:FuncId} (hf6:ρ.f 6=f) {τ:Ty} {i:TypeId} (hi:ρ.t 24=i) (hflat:τ.flat=true) (hagg:τ.isAgg=true) (aE:∀w,(isAgg i).run P w = .ok true w) (zE:∀w,(Go.sizeOf i).run P w = .ok τ.size w) {g:FuncId} {res:List Ty} {φ:DL [τ,τ]→Option Int} {tot:Option (DL [τ,τ]→Int)}
    (hc:ConOK (CT:=⟨[],[],true,[],none,none⟩) P g ⟨[τ,τ],true,res,.int .i64,φ,tot⟩) (cf:D τ→D τ→Int) (hcf:∀x y,φ (x,y,())=some (cf x y)) (hO:SWO (ltOf cf)) (hT:∀x y,(ltOf cf) x y=false→(ltOf cf) y x=false→x=y) (eg:∀args w,(callFunc g args).run P w = .ok (.enter g args) w) :
    SrtOK P f ⟨i,τ,some g,fun xs=>xs.mergeSort fun x y=>!(ltOf cf) y x⟩:=by
  subst hf6;subst hi;refine⟨hflat,fun xs=>List.length_mergeSort xs,fun w S v M xs us hlen hown hrep=>?_⟩;simp only at hown hrep ⊢;have hsz:∀x:D τ,(qbK τ x).length=τ.size:=fun x=>Rep.length τ (qh2 (w:=w) (S:=S) τ x hflat);have hus:=qpD hflat hrep;rcases hown with ⟨rfl,⟨ao,rfl⟩,h3,h4⟩ | ⟨b,cap,cur,rfl,rfl,hb,hcap,hcap2,hcs,htake⟩
  · have hxs:xs=[]:=List.length_eq_zero_iff.1 h3;subst hxs;refine(AnyF.slices_SortFunc_none L ao 0 _ w).mono ?_
    rintro e w' ⟨rfl,rfl⟩
    exact⟨rfl,Chg.refl _ _,us,.inl ⟨rfl,⟨ao,rfl⟩,rfl,h4⟩,by subst h4;simp[RepL]⟩
  · have hrow:=hb;obtain⟨fz,hb,hfz⟩:=hb;have hcmp:CmpLays P g #[] (qbK τ) τ.size cf b 0 xs.toArray.size w:=fun m os dk hdk x y=>by
      have:=ConOK.calls (CT:=⟨[],[],true,[],none,none⟩) hc (sortWorldK (qbK τ) τ.size w b 0 m dk os) ⟨fun _=>False,fun _=>none⟩ (#[.agg (qbK τ x).toArray,.agg (qbK τ y).toArray] ++ #[]) (x,y,()) (cf x y) (fun _ h=>h.elim) (tabR_nil (CT:=⟨[],[],true,[],none,none⟩) rfl rfl)
        ⟨_,_,rfl,⟨qbK τ x,qh2 (CT:=⟨[],[],true,[],none,none⟩) τ x hflat,by simp[oneV,hagg]⟩,_,_,rfl,⟨qbK τ y,qh2 (CT:=⟨[],[],true,[],none,none⟩) τ y hflat,by simp[oneV,hagg]⟩,rfl⟩ (hcf x y)
      refine this.mono ?_
      rintro e w' ⟨v,rfl,hch,M',cs,_,_,hr,hv⟩
      refine⟨?_,chg_grow hch⟩;rw[hv,hr.2];rfl
    have hblk:b<w.heap.size:=(Array.getElem?_eq_some_iff.1 hb).1
    have hul:us.length=xs.length*τ.size:=by rw[hus];exact flen _ _ hsz xs
    have hnc:xs.length*τ.size≤cur.size:=by rw[hcs];exact Nat.mul_le_mul_right _ hcap
    have hH:HoldsK (qbK τ) τ.size w b 0 xs.toArray:=by
      intro j hj;rw[size_flatK] at hj;rw[qnh _ _ hsz,←hus]
      have hj':j<us.length:=by rw[hul];simpa using hj
      refine⟨?_,by rw[Nat.zero_add];exact hrow.fro (by omega)⟩;simp only[World.cell?,hb,Nat.zero_add];have:cur[j]?=us[j]?:=by
        rw[←htake,List.getElem?_take,if_pos (by rw[←hul];exact hj'),Array.getElem?_toList]
      simp[this,hj']
    have:=AnyQ.slices_SortFunc_total L τ.size aE zE (qbK τ) hsz (fun x v hv=>Rep.one τ (qh2 (w:=w) (S:=S) τ x hflat) v hv) cf hO g #[] b 0 cap xs.toArray w eg hcmp hH hblk (by simpa using hlen) hT;simp only[List.size_toArray] at this;refine this.mono ?_
    rintro e w' ⟨rfl,n,os,rfl⟩
    have hl:=List.length_mergeSort (le:=fun x y=>!ltOf cf y x) xs;generalize hys:xs.mergeSort (fun x y=>!ltOf cf y x)=ys at hl ⊢;simp only[hys]
    have hyl:((ys.map (qbK τ)).flatten).length=xs.length*τ.size:=by rw[flen _ _ hsz ys,hl]
    have hheap:∀j,j<w.heap.size→(sortWorldK (qbK τ) τ.size w b 0 n ys.toArray os).heap[j]?=if b=j then some (.cells (putCells id 0 (flatK (qbK τ) τ.size ys.toArray) cur) (ρ.t 24) fz) else w.heap[j]?:=fun j hj=>by
      simp only[sortWorldK,putRowK,putRow,grow,mapBlock,Sort.ahead];rw[Array.getElem?_append_left (by simpa using hj),Array.getElem?_modify];by_cases e:b=j
      · subst e;simp[hb,onCells]
      · simp[e]
    refine⟨trivial,⟨rfl,rfl,rfl,?_,fun j hj hn=>?_,?_⟩,_,.inr ⟨b,cap,putCells id 0 (flatK (qbK τ) τ.size ys.toArray) cur,rfl,rfl,?_,hcap,hcap2,?_,rfl⟩,?_⟩
    · simp[sortWorldK,putRowK,putRow,grow,mapBlock,Sort.ahead]
    · rw[hheap j hj,if_neg (fun e=>hn (by simp[e]))]
    · simp[sortWorldK,putRowK,putRow,grow,mapBlock,Sort.ahead]
    · exact⟨fz,by rw[hheap b hblk,if_pos rfl],by simpa[putCells] using hfz⟩
    · simp[putCells,hcs]
    · have:(putCells id 0 (flatK (qbK τ) τ.size ys.toArray) cur).toList.take (xs.length*τ.size)=(ys.map (qbK τ)).flatten:=by
        apply List.ext_getElem?;intro j;rw[List.getElem?_take];by_cases hj:j<xs.length*τ.size
        · rw[if_pos hj,Array.getElem?_toList,qnh _ _ hsz]
          have h1:j<cur.size:=by omega
          simp[putCells,Array.getElem?_mapIdx,h1,hyl,hj]
        · rw[if_neg hj,List.getElem?_eq_none (by rw[hyl];omega)]
      rw[this];exact qop hflat ys
end
end Go.Den
namespace Go.Den
set_option linter.unusedVariables false
set_option linter.unusedSimpArgs false

theorem qkf {T α:Type} {f:T→Option (T ⊕ α)}:∀ {n m:Nat} {x:T} {r:α},iterN f n x=some r→n≤m→iterN f m x=some r
  | 0,_,_,_,h,_=>by simp[iterN] at h
  | n+1,0,_,_,_,h=>by omega
  | n+1,m+1,x,r,h,hm=>by
    simp only[iterN] at h ⊢
    match hf:f x with
    | none=>simp[hf] at h
    | some (.inr q)=>simp only[hf] at h ⊢;exact h
    | some (.inl y)=>simp only[hf] at h ⊢;exact qkf h (by omega)
theorem qk2 {T α:Type} {f:T→Option (T ⊕ α)} {n:Nat} {x:T} {r:α} (h:iterN f n x=some r):iterW f x=some r:=by
  have hx:∃n,(iterN f n x).isSome=true:=⟨n,by rw[h];rfl⟩;unfold iterW;rw[dif_pos hx];obtain⟨q,hq⟩:=Option.isSome_iff_exists.1 (Classical.choose_spec hx);rw[hq];rcases Nat.le_total n (Classical.choose hx) with hl | hl
  · rw[←hq,qkf h hl]
  · rw[←h,qkf hq hl]
theorem qlK {T α:Type} {f:T→Option (T ⊕ α)} {x:T} {r:α} (h:iterW f x=some r):∃n,iterN f n x=some r:=by
  unfold iterW at h;split at h
  · exact⟨_,h⟩
  · cases h
theorem qx {T α:Type} {f:T→Option (T ⊕ α)} {x y:T} (h:f x=some (.inl y)):iterW f x=iterW f y:=by
  cases hy:iterW f y with
  | some r =>
    obtain⟨n,hn⟩:=qlK hy;exact qk2 (n:=n+1) (by simp[iterN,h,hn])
  | none =>
    cases hx:iterW f x with
    | none=>rfl
    | some r =>
      obtain⟨n,hn⟩:=qlK hx
      cases n with
      | zero=>simp[iterN] at hn
      | succ n =>
        simp only[iterN,h] at hn;rw[qk2 hn] at hy;cases hy
theorem qn {T α:Type} {f:T→Option (T ⊕ α)} {x:T} {r:α} (h:f x=some (.inr r)):iterW f x=some r:=qk2 (n:=1) (by simp[iterN,h])
theorem qm1 {T α:Type} {f:T→Option (T ⊕ α)} (I:T→Prop) (μ:T→Nat) (Q:α→Prop)
    (h:∀x,I x→(∃y,f x=some (.inl y)∧I y∧μ y<μ x)∨(∃r,f x=some (.inr r)∧Q r)):∀x,I x→∃r,iterW f x=some r∧Q r:=by
  have key:∀(n:Nat) x,μ x<n→I x→∃r,iterW f x=some r∧Q r:=by
    intro n
    induction n with
    | zero=>intro x hx;omega
    | succ n ih =>
      intro x hx hi;rcases h x hi with ⟨y,h1,h2,h3⟩ | ⟨r,h1,h2⟩
      · rw[qx h1];exact ih y (by omega) h2
      · exact⟨r,qn h1,h2⟩
  exact fun x hi=>key _ x (Nat.lt_succ_self _) hi
theorem qZ {T α:Type} {f:T→Option (T ⊕ α)} (n:Nat) (st:Nat→T) (r:α) (hs:∀i,i<n→f (st i)=some (.inl (st (i+1)))) (he:f (st n)=some (.inr r)):iterW f (st 0)=some r:=by
  have key:∀k,k≤n→iterW f (st (n-k))=some r:=by
    intro k
    induction k with
    | zero=>intro _;exact qn he
    | succ k ih =>
      intro hk;have:=hs (n-(k+1)) (by omega);rw[show n-(k+1)+1=n-k by omega] at this;rw[qx this];exact ih (by omega)
  have:=key n (Nat.le_refl _)
  rwa [Nat.sub_self] at this
theorem qcO {α β:Type} (xs:List α) (p:α→Bool) (f:((Int×Unit)×Unit)→Option (((Int×Unit)×Unit) ⊕ β)) (A B:β)
    (h1:∀i (hi:i<xs.length),f (((i:Int),()),())=bif p xs[i] then some (.inr A) else some (.inl ((((i+1:Nat):Int),()),()))) (h2:f (((xs.length:Int),()),())=some (.inr B)) :
    iterW f ((0,()),())=some (bif xs.any p then A else B):=by
  have key:∀k i,i+k=xs.length→iterW f (((i:Int),()),())=some (bif (xs.drop i).any p then A else B):=by
    intro k
    induction k with
    | zero =>
      intro i hi
      have:i=xs.length:=by omega
      subst this;rw[qn h2];simp
    | succ k ih =>
      intro i hi
      have hl:i<xs.length:=by omega
      have hs:=h1 i hl;rw[List.drop_eq_getElem_cons hl]
      cases hp:p xs[i] with
      | true =>
        rw[hp] at hs;rw[qn hs];simp only[List.any_cons,hp,Bool.true_or,cond_true]
      | false =>
        rw[hp] at hs;rw[qx hs,ih (i+1) (by omega)];simp only[List.any_cons,hp,Bool.false_or]
  have:=key xs.length 0 (by omega);simpa using this
def scan {β:Type} (e:Nat→Option β) (B:β):Nat→Nat→β
  | _,0=>B
  | i,k+1=>match e i with
    | some b=>b
    | none=>scan e B (i+1) k
theorem qm3 {β:Type} (n:Nat) (f:((Int×Unit)×Unit)→Option (((Int×Unit)×Unit) ⊕ β)) (e:Nat→Option β) (B:β)
    (h1:∀i,i<n→f (((i:Int),()),())=match e i with
      | some b=>some (.inr b)
      | none=>some (.inl ((((i+1:Nat):Int),()),()))) (h2:f (((n:Int),()),())=some (.inr B)) :
    iterW f ((0,()),())=some (scan e B 0 n):=by
  have key:∀k i,i+k=n→iterW f (((i:Int),()),())=some (scan e B i k):=by
    intro k
    induction k with
    | zero =>
      intro i hi
      have:i=n:=by omega
      subst this;exact qn h2
    | succ k ih =>
      intro i hi;have hs:=h1 i (by omega);unfold scan
      match he:e i with
      | some b=>rw[he] at hs;exact qn hs
      | none=>rw[he] at hs;rw[qx hs];exact ih (i+1) (by omega)
  exact key n 0 (by omega)
theorem qk {n:Int} (h1 : -9223372036854775808≤n) (h2:n≤9223372036854775807):w64 n=n:=by
  simp[w64,IntKind.wrap,IntKind.signed,IntKind.bits];omega
theorem qav {n b:Nat} (h:n*b≤140737488355328):room n b=true:=Nat.ble_eq_true_of_le h
theorem beq_f {α:Type} [BEq α] [LawfulBEq α] {a b:α} (h:¬a=b):(a==b)=false:=by simpa using h
theorem bne_t {α:Type} [BEq α] [LawfulBEq α] {a b:α} (h:¬a=b):(a !=b)=true:=by simpa using h
theorem beq_t {α:Type} [BEq α] [LawfulBEq α] {a b:α} (h:a=b):(a==b)=true:=by simpa using h
theorem bne_f {α:Type} [BEq α] [LawfulBEq α] {a b:α} (h:a=b):(a !=b)=false:=by simpa using h
theorem qi {α:Type} (x:Option α):req true x=x:=rfl
theorem at?_eq {α:Type} (xs:List α) (i:Int) (h0:0≤i) (h1:i<(xs.length:Int)):at? xs i=some (xs[i.toNat]'(by omega)):=by
  simp[at?,h0,List.getElem?_eq_getElem (show i.toNat<xs.length by omega)]
theorem inb_iff {i:Int} {n:Nat}:inb i n=true↔0≤i∧i<(n:Int):=by simp[inb]
def Le {α:Type} (a b:Option α):Prop:=∀r,a=some r→b=some r
theorem Le.refl {α:Type} (a:Option α):Le a a:=fun _ h=>h
theorem Le.bind {α β:Type} {a b:Option α} {f g:α→Option β} (h:Le a b) (hf:∀x,Le (f x) (g x)):Le (Option.bind a f) (Option.bind b g):=fun r hr=>by
  obtain⟨x,h1,h2⟩:=Option.bind_eq_some_iff.1 hr;rw[h x h1];exact hf x r h2
theorem Le.elim {α β γ:Type} {f g:α→Option γ} {f' g':β→Option γ} (h:∀x,Le (f x) (g x)) (h':∀x,Le (f' x) (g' x)):∀x,Le (Sum.elim f f' x) (Sum.elim g g' x)
  | .inl x=>h x
  | .inr x=>h' x
theorem Le.cond {α:Type} {c:Bool} {a b a' b':Option α} (h:Le a a') (h':Le b b'):Le (bif c then a else b) (bif c then a' else b'):=by
  cases c
  · exact h'
  · exact h
theorem Le.req {α:Type} {c:Bool} {a b:Option α} (h:Le a b):Le (req c a) (req c b):=by
  cases c
  · exact Le.refl _
  · exact h
theorem Le.gopt {α:Type} {c:Bool} {d:α} {a b:Option α} (h:Le a b):Le (gopt c d a) (gopt c d b):=by
  cases c
  · exact Le.refl _
  · exact h
theorem Le.map {α β:Type} {f:α→β} {a b:Option α} (h:Le a b):Le (Option.map f a) (Option.map f b):=fun r hr=>by
  obtain⟨x,h1,h2⟩:=Option.map_eq_some_iff.1 hr;rw[h x h1,←h2];rfl
theorem Le.iter {T α:Type} {f g:T→Option (T ⊕ α)} (h:∀x,Le (f x) (g x)) (n:Nat) (x:T):Le (iterN f n x) (iterW g x):=by
  have key:∀n x,Le (iterN f n x) (iterN g n x):=by
    intro n
    induction n with
    | zero=>intro x;exact Le.refl _
    | succ n ih =>
      intro x r hr;simp only[iterN] at hr ⊢
      match hf:f x with
      | none=>rw[hf] at hr;cases hr
      | some (.inl y)=>rw[hf] at hr;rw[h x _ hf];exact ih y r hr
      | some (.inr q)=>rw[hf] at hr;rw[h x _ hf];exact hr
  exact fun r hr=>qk2 (key n x r hr)
def Mono {T α:Type} (G:(T→Option α)→T→Option α):Prop:=∀φ ψ,(∀x,Le (φ x) (ψ x))→∀x,Le (G φ x) (G ψ x)
theorem Le.fix {T α:Type} {F G:(T→Option α)→T→Option α} (h:∀φ ψ,(∀x,Le (φ x) (ψ x))→∀x,Le (F φ x) (G ψ x)) (hG:Mono G) (n:Nat) (x:T):Le (fixN F n x) (fixW G x):=by
  have key:∀n x,Le (fixN F n x) (fixN G n x):=by
    intro n
    induction n with
    | zero=>intro x;exact Le.refl _
    | succ n ih=>intro x;exact h _ _ ih x
  have up:∀n x,Le (fixN G n x) (fixN G (n+1) x):=by
    intro n
    induction n with
    | zero=>intro x r hr;cases hr
    | succ n ih=>intro x;exact hG _ _ ih x
  have mono:∀k n x,Le (fixN G n x) (fixN G (n+k) x):=by
    intro k
    induction k with
    | zero=>intro n x;exact Le.refl _
    | succ k ih=>intro n x r hr;exact up _ x r (ih n x r hr)
  intro r hr;have h1:=key n x r hr;have hx:∃n,(fixN G n x).isSome=true:=⟨n,by rw[h1];rfl⟩;unfold fixW;rw[dif_pos hx];obtain⟨q,hq⟩:=Option.isSome_iff_exists.1 (Classical.choose_spec hx);rw[hq];rcases Nat.le_total n (Classical.choose hx) with hl | hl
  · have:=mono (Classical.choose hx-n) n x r h1;rw[show n+(Classical.choose hx-n)=Classical.choose hx by omega,hq] at this;exact this
  · have:=mono (n-Classical.choose hx) (Classical.choose hx) x q hq;rw[show Classical.choose hx+(n-Classical.choose hx)=n by omega,h1] at this;exact this.symm
def rngB:(τ:Ty)→D τ→Bool
  | .int k,(n:Int)=>decide (k.min≤n)&&decide (n≤k.max)
  | .bool,_=>true
  | .str,(s:ByteArray)=>Nat.ble s.size maxLen
  | .sl e,(xs:List (D e))=>Nat.ble xs.length maxLen&&xs.all (rngB e)
  | .osl _ e,(xs:List (D e))=>Nat.ble xs.length maxLen&&xs.all (rngB e)
  | .obx e,x=>rngB e x
  | .onl _ _,_=>true
  | .hrl _ _ _ _ _,_=>true
  | .err,_=>true
  | .bld _ _,_=>true
  | .nil,_=>true
  | .ref,_=>true
  | .ifc _ _,_=>true
  | .omp _ _,_=>true
  | .st f r,x=>rngB f x.1&&rngB r x.2
theorem qkd:∀(τ:Ty) (x:D τ),rngB τ x=true→Rng τ x
  | .int k,n,h=>by
    simp only[rngB,Bool.and_eq_true,decide_eq_true_eq] at h
    cases k<;>exact h
  | .bool,_,_=>trivial
  | .str,s,h=>Nat.le_of_ble_eq_true h
  | .sl e,xs,h=>by
    simp only[rngB,Bool.and_eq_true] at h;exact⟨Nat.le_of_ble_eq_true h.1,fun x hx=>qkd e x (List.all_eq_true.1 h.2 x hx)⟩
  | .osl _ e,xs,h=>by
    simp only[rngB,Bool.and_eq_true] at h;exact⟨Nat.le_of_ble_eq_true h.1,fun x hx=>qkd e x (List.all_eq_true.1 h.2 x hx)⟩
  | .obx e,x,h=>qkd e x h
  | .onl _ _,_,_=>trivial
  | .hrl _ _ _ _ _,_,_=>trivial
  | .err,_,_=>trivial
  | .bld _ _,_,_=>trivial
  | .nil,_,_=>trivial
  | .ref,_,_=>trivial
  | .ifc _ _,_,_=>trivial
  | .omp _ _,_,_=>trivial
  | .st f r,x,h=>by
    simp only[rngB,Bool.and_eq_true] at h;exact⟨qkd f x.1 h.1,qkd r x.2 h.2⟩

def foldN {A:Type} (g:Nat→A→A):Nat→A→A
  | 0,a=>a
  | n+1,a=>g n (foldN g n a)
theorem qpq {A R:Type} (n:Nat) (f:((A×Int×Unit)×Unit)→Option (((A×Int×Unit)×Unit) ⊕ R)) (g:Nat→A→A) (fin:A→R) (I:Nat→A→Prop) (a0:A) (h0:I 0 a0)
    (hs:∀i,i<n→∀a,I i a→f ((a,(i:Int),()),())=some (.inl ((g i a,((i:Int)+1),()),()))∧I (i+1) (g i a)) (he:∀a,I n a→f ((a,(n:Int),()),())=some (.inr (fin a))) :
    iterW f ((a0,(0:Int),()),())=some (fin (foldN g n a0)):=by
  have hI:∀i,i≤n→I i (foldN g i a0):=fun i=>by
    induction i with
    | zero=>intro _;exact h0
    | succ i ih=>intro hi;exact(hs i (by omega) _ (ih (by omega))).2
  have:=qZ (f:=f) n (fun i=>((foldN g i a0,(i:Int),()),())) (fin (foldN g n a0)) (fun i hi=>by
    rw[(hs i hi _ (hI i (by omega))).1]
    simp[foldN]) (he _ (hI n (Nat.le_refl _)))
  exact this
theorem qpc {A:Type} (F:Nat→List A):∀(n:Nat) (a:List A),foldN (fun i a=>a++F i) n a=a++(List.range n).flatMap F
  | 0,a=>by simp[foldN]
  | n+1,a=>by rw[foldN,qpc F n,List.range_succ];simp
theorem qjc {A R:Type} (n B:Nat) (f:(((List A)×Int×Unit)×Unit)→Option ((((List A)×Int×Unit)×Unit) ⊕ R)) (F:Nat→List A) (fin:List A→R) (a0:List A) (hF:∀i,i<n→(F i).length≤B)
    (hs:∀i,i<n→∀a:List A,a.length≤a0.length+i*B→f ((a,(i:Int),()),())=some (.inl ((a++F i,((i:Int)+1),()),()))) (he:∀a,f ((a,(n:Int),()),())=some (.inr (fin a))) :
    iterW f ((a0,(0:Int),()),())=some (fin (a0++(List.range n).flatMap F)):=by
  rw[←qpc];refine qpq n f (fun i a=>a++F i) fin (fun i a=>a.length≤a0.length+i*B) a0 (by simp) (fun i hi a ha=>⟨hs i hi a ha,?_⟩) (fun a _=>he a);have:=hF i hi;rw[List.length_append,Nat.add_mul];omega
theorem qca {A C:Type} (F:C→List A) (B:Nat):∀l:List C,(∀x∈l,(F x).length≤B)→(l.flatMap F).length≤l.length*B
  | [],_=>by simp
  | x::l,h=>by
    have:=qca F B l (fun y hy=>h y (List.mem_cons_of_mem _ hy));have:=h x List.mem_cons_self;rw[List.flatMap_cons,List.length_append,List.length_cons,Nat.add_mul];omega
theorem foldN_all {A:Type} (xs:List A) (q:A→Bool) (b0:Bool):∀n,n≤xs.length→foldN (fun i b=>b&&((xs[i]?).map q).getD true) n b0=(b0&&(xs.take n).all q)
  | 0,_=>by simp[foldN]
  | n+1,h=>by
    have hn:n<xs.length:=by omega
    rw[foldN,foldN_all xs q b0 n (by omega),List.getElem?_eq_getElem hn,List.take_succ_eq_append_getElem hn,List.all_append];simp[Bool.and_assoc]
theorem qm5 {A R:Type} (xs:List A) (q:A→Bool) (f:((Int×Int×Unit)×Unit)→Option (((Int×Int×Unit)×Unit) ⊕ R)) (fin:Int→R)
    (hs:∀(i:Nat) (hi:i<xs.length) (c:Int),0≤c→c≤i→f ((c,(i:Int),()),())=some (.inl (((bif q xs[i] then c+1 else c),((i:Int)+1),()),()))) (he:∀c,f ((c,(xs.length:Int),()),())=some (.inr (fin c))) :
    iterW f (((0:Int),(0:Int),()),())=some (fin ((xs.countP q:Nat):Int)):=by
  have hf:∀n,n≤xs.length→foldN (fun i (c:Int)=>bif ((xs[i]?).map q).getD false then c+1 else c) n 0=(((xs.take n).countP q:Nat):Int):=fun n=>by
    induction n with
    | zero=>intro _;simp[foldN]
    | succ n ih =>
      intro h
      have hn:n<xs.length:=by omega
      rw[foldN,ih (by omega),List.getElem?_eq_getElem hn,List.take_succ_eq_append_getElem hn,List.countP_append];simp only[Option.map_some,Option.getD_some,List.countP_cons,List.countP_nil]
      cases q xs[n]<;>simp
  have:=hf xs.length (Nat.le_refl _);rw[List.take_length] at this;rw[←this];refine qpq xs.length f _ fin (fun i c=>0≤c∧c≤i) 0 (by simp) (fun i hi c hc=>⟨?_,?_⟩) (fun b _=>he b)
  · rw[hs i hi c hc.1 hc.2,List.getElem?_eq_getElem hi];rfl
  · cases ((xs[i]?).map q).getD false<;>simp<;>omega
def scanL {A S R:Type} (g:S→A→S ⊕ R) (fin:S→R):List A→S→R
  | [],s=>fin s
  | x::xs,s=>match g s x with
    | .inl s'=>scanL g fin xs s'
    | .inr r=>r
theorem iter_scan {A S T R:Type} (xs:List A) (f:T→Option (T ⊕ R)) (st:Nat→S→T) (g:S→A→S ⊕ R) (fin:S→R) (I:Nat→S→Prop)
    (hs:∀i (hi:i<xs.length) s,I i s→f (st i s)=match g s xs[i] with
      | .inl s'=>some (.inl (st (i+1) s'))
      | .inr r=>some (.inr r))
    (hI:∀i (hi:i<xs.length) s s',I i s→g s xs[i] = .inl s'→I (i+1) s')
    (he:∀s,I xs.length s→f (st xs.length s)=some (.inr (fin s))) (s0:S) (h0:I 0 s0) :
    iterW f (st 0 s0)=some (scanL g fin xs s0):=by
  have key:∀k i s,i+k=xs.length→I i s→iterW f (st i s)=some (scanL g fin (xs.drop i) s):=by
    intro k
    induction k with
    | zero =>
      intro i s hi hs'
      have:i=xs.length:=by omega
      subst this;rw[qn (he s hs'),List.drop_length];rfl
    | succ k ih =>
      intro i s hi hs'
      have hl:i<xs.length:=by omega
      have h1:=hs i hl s hs';have h2:=hI i hl s;rw[List.drop_eq_getElem_cons hl];unfold scanL
      match hg:g s xs[i] with
      | .inl s' =>
        rw[hg] at h1;rw[qx h1,ih (i+1) s' (by omega) (h2 s' hs' hg)]
      | .inr r =>
        rw[hg] at h1;rw[qn h1]
  have:=key xs.length 0 s0 (by omega) h0
  rwa [List.drop_zero] at this
theorem Le.iterW {T α:Type} {f g:T→Option (T ⊕ α)} (h:∀x,Le (f x) (g x)) (x:T):Le (Go.Den.iterW f x) (Go.Den.iterW g x):=fun r hr=>by
  obtain⟨n,hn⟩:=qlK hr;exact Le.iter h n x r hn
theorem Le.agreeW {α:Type} {a b a' b':Option α} (h:Le a a') (h':Le b b'):Le (Go.Den.agree a b) (Go.Den.agree a' b'):=fun r hr=>by
  unfold Go.Den.agree at hr ⊢;split at hr
  · rename_i e;rw[h r hr,h' r (e▸hr),if_pos rfl]
  · cases hr
theorem qre {T α:Type} {G:(T→Option α)→T→Option α} (hG:Mono G) (I:T→Prop) (μ:T→Nat) (s:T→α)
    (h:∀φ x,I x→(∀y,I y→μ y<μ x→φ y=some (s y))→G φ x=some (s x)):∀x,I x→fixW G x=some (s x):=by
  have a2:∀n x,I x→μ x<n→fixN G n x=some (s x):=by
    intro n
    induction n with
    | zero=>intro x _ hl;omega
    | succ n ih=>intro x hx hl;exact h _ x hx fun y hy hm=>ih y hy (by omega)
  intro x hx;exact Le.fix (fun φ ψ hs y=>hG φ ψ hs y) hG (μ x+1) x _ (a2 _ x hx (Nat.lt_succ_self _))
end Go.Den
namespace Go.Proofs.YtkkoolcdonhoaaaGreatDoor
open Go.Den
set_option linter.unusedVariables false
set_option maxRecDepth 100000
theorem qiI (self self':Zv13→Option (Bool)) (hself:∀x,Le (self x) (self' x)) (r:ByteArray×Int×Int×Zv24×Zv63×Bool×Bool×Zv38×Int×Int×Int×Unit) (r8:Zv63×Zv44×Int×Int×Unit) (n:Int) (x13:Zv58×Zv37):Le (qaE self r r8 n x13) (qaE self' r r8 n x13):=by
  unfold qaE
  repeat (first | exact Le.refl _ | assumption | apply hself | apply Le.cond | apply Le.req | apply Le.gopt | apply Le.map | apply Le.agreeW | refine Le.iterW (fun _=>?_) _ | refine Le.bind ?_ (Le.elim (fun _=>?_) (fun _=>?_)) | refine Le.bind ?_ (fun _=>?_))
theorem qjx (self self':Zv13→Option (Bool)) (hself:∀x,Le (self x) (self' x)) (r10:List Zv54) (r:ByteArray×Int×Int×Zv24×Zv63×Bool×Bool×Zv38×Int×Int×Int×Unit) (r8:Zv63×Zv44×Int×Int×Unit) (n:Int) (x11:Zv62×(Unit)):Le (qan r10 self r r8 n x11) (qan r10 self' r r8 n x11):=by
  unfold qan
  repeat (first | exact Le.refl _ | assumption | apply qiI | apply hself | apply Le.cond | apply Le.req | apply Le.gopt | apply Le.map | apply Le.agreeW | refine Le.iterW (fun _=>?_) _ | refine Le.bind ?_ (Le.elim (fun _=>?_) (fun _=>?_)) | refine Le.bind ?_ (fun _=>?_))
theorem qiZ (self self':Zv13→Option (Bool)) (hself:∀x,Le (self x) (self' x)) (r6:List Zv54) (r:ByteArray×Int×Int×Zv24×Zv63×Bool×Bool×Zv38×Int×Int×Int×Unit) (r4:Zv63×Zv44×Int×Int×Unit) (p:Zv63×Zv44×Int×Int×Unit) (n:Int) (x7:Zv62×(Unit)):Le (qU r6 r r4 p self n x7) (qU r6 r r4 p self' n x7):=by
  unfold qU
  repeat (first | exact Le.refl _ | assumption | apply qjx | apply hself | apply Le.cond | apply Le.req | apply Le.gopt | apply Le.map | apply Le.agreeW | refine Le.iterW (fun _=>?_) _ | refine Le.bind ?_ (Le.elim (fun _=>?_) (fun _=>?_)) | refine Le.bind ?_ (fun _=>?_))
theorem ql0:Mono qb0:=by
  intro self self' hself x
  unfold qb0 qbd
  repeat (first | exact Le.refl _ | assumption | apply qiZ | apply hself | apply Le.cond | apply Le.req | apply Le.gopt | apply Le.map | apply Le.agreeW | refine Le.iterW (fun _=>?_) _ | refine Le.bind ?_ (Le.elim (fun _=>?_) (fun _=>?_)) | refine Le.bind ?_ (fun _=>?_))
theorem qfs (self self':Zv14→Option Zv17) (hself:∀x,Le (self x) (self' x)) (r2:List Zv54) (p:Zv63×Zv44×Int×Int×Unit) (depth:Int) (x3:Zv62×Zv19):Le (qJ r2 p self depth x3) (qJ r2 p self' depth x3):=by
  unfold qJ
  repeat (first | exact Le.refl _ | assumption | apply hself | apply Le.cond | apply Le.req | apply Le.gopt | apply Le.map | apply Le.agreeW | refine Le.iterW (fun _=>?_) _ | refine Le.bind ?_ (Le.elim (fun _=>?_) (fun _=>?_)) | refine Le.bind ?_ (fun _=>?_))
theorem qgE:Mono qau:=by
  intro self self' hself x
  unfold qau qbR
  repeat (first | exact Le.refl _ | assumption | apply qfs | apply hself | apply Le.cond | apply Le.req | apply Le.gopt | apply Le.map | apply Le.agreeW | refine Le.iterW (fun _=>?_) _ | refine Le.bind ?_ (Le.elim (fun _=>?_) (fun _=>?_)) | refine Le.bind ?_ (fun _=>?_))
theorem qj5 (self self':Zv15→Option (Int)) (hself:∀x,Le (self x) (self' x)) (r4:List Zv54) (r:ByteArray×Int×Int×Zv24×Zv63×Bool×Bool×Zv38×Int×Int×Int×Unit) (p:Zv63×Zv44×Int×Int×Unit) (depth:Int) (x5:Zv58×Zv43):Le (qbB r4 r p self depth x5) (qbB r4 r p self' depth x5):=by
  unfold qbB
  repeat (first | exact Le.refl _ | assumption | apply hself | apply Le.cond | apply Le.req | apply Le.gopt | apply Le.map | apply Le.agreeW | refine Le.iterW (fun _=>?_) _ | refine Le.bind ?_ (Le.elim (fun _=>?_) (fun _=>?_)) | refine Le.bind ?_ (fun _=>?_))
theorem qmA:Mono qcw:=by
  intro self self' hself x
  unfold qcw qfJ
  repeat (first | exact Le.refl _ | assumption | apply qj5 | apply hself | apply Le.cond | apply Le.req | apply Le.gopt | apply Le.map | apply Le.agreeW | refine Le.iterW (fun _=>?_) _ | refine Le.bind ?_ (Le.elim (fun _=>?_) (fun _=>?_)) | refine Le.bind ?_ (fun _=>?_))
set_option linter.unusedSimpArgs false

abbrev Way:=Int×Int×Int×Int×Unit
abbrev Piece:=Int×Int×Int×(List Way)×Unit
abbrev End:=Int×Int×Int×Bool×Unit
abbrev Rules:=ByteArray×Int×Int×(List Piece)×(List Int)×Bool×Bool×(List End)×Int×Int×Int×Unit
abbrev Rules.name (r:Rules):ByteArray:=r.1
abbrev Rules.width (r:Rules):Int:=r.2.1
abbrev Rules.height (r:Rules):Int:=r.2.2.1
abbrev Rules.pieces (r:Rules):List Piece:=r.2.2.2.1
abbrev Rules.start (r:Rules):List Int:=r.2.2.2.2.1
abbrev Rules.falls (r:Rules):Bool:=r.2.2.2.2.2.1
abbrev Rules.keeps (r:Rules):Bool:=r.2.2.2.2.2.2.1
abbrev Rules.ends (r:Rules):List End:=r.2.2.2.2.2.2.2.1
abbrev Rules.blocked (r:Rules):Int:=r.2.2.2.2.2.2.2.2.1
abbrev Rules.quiet (r:Rules):Int:=r.2.2.2.2.2.2.2.2.2.1
abbrev Rules.repeats (r:Rules):Int:=r.2.2.2.2.2.2.2.2.2.2.1
abbrev tyWay:Ty := .st (.int .i64) (.st (.int .i64) (.st (.int .i64) (.st (.int .i64) .nil)))
abbrev tyPiece:Ty := .st (.int .u8) (.st (.int .i64) (.st (.int .i64) (.st (.sl tyWay) .nil)))
abbrev tyEnd:Ty := .st (.int .i64) (.st (.int .i64) (.st (.int .i64) (.st .bool .nil)))
abbrev qb7:Ty := .st .str (.st (.int .i64) (.st (.int .i64) (.st (.sl tyPiece) (.st (.sl (.int .i64)) (.st .bool (.st .bool (.st (.sl tyEnd) (.st (.int .i64) (.st (.int .i64) (.st (.int .i64) .nil))))))))))

def nz (x:Int):Option Int:=if x=0 then none else some x
def qeq (f:Nat→Int) (n:Nat):Int:=scan (fun i=>nz (f i)) 0 0 n
theorem qgH {f:Nat→Int} {n:Nat} (h:qeq f n=0):∀i,i<n→f i=0:=by
  have key:∀(k i:Nat),scan (fun i=>nz (f i)) 0 i k=0→∀j,i≤j→j<i+k→f j=0:=by
    intro k
    induction k with
    | zero=>intro i _ j h1 h2;omega
    | succ k ih =>
      intro i hs j h1 h2;unfold scan at hs;by_cases c:f i=0
      · simp only[nz,if_pos c] at hs;rcases Nat.eq_or_lt_of_le h1 with e | e
        · rw[←e];exact c
        · exact ih (i+1) hs j e (by omega)
      · simp only[nz,if_neg c] at hs;exact absurd hs c
  exact fun i hi=>key n 0 h i (Nat.zero_le _) (by omega)
theorem loopNZ {γ:Type} (n:Nat) (f:((Int×Unit)×Unit)→Option (((Int×Unit)×Unit) ⊕ (γ ⊕ Int))) (err:Nat→Int) (u:γ) (z:Option Int)
    (h1:∀i,i<n→f (((i:Int),()),())=if err i=0 then some (.inl ((((i+1:Nat):Int),()),())) else some (.inr (.inr (err i)))) (h2:f (((n:Int),()),())=some (.inr (.inl u))) :
    Option.bind (iterW f ((0,()),())) (Sum.elim (fun _=>z) some)=if qeq err n=0 then z else some (qeq err n):=by
  have key:∀k i,i+k=n→Option.bind (iterW f (((i:Int),()),())) (Sum.elim (fun _=>z) some)=if scan (fun i=>nz (err i)) 0 i k=0 then z else some (scan (fun i=>nz (err i)) 0 i k):=by
    intro k
    induction k with
    | zero =>
      intro i hi
      have:i=n:=by omega
      subst this;rw[qn h2];rfl
    | succ k ih =>
      intro i hi;have hs:=h1 i (by omega);unfold scan;by_cases c:err i=0
      · rw[if_pos c] at hs;rw[qx hs,ih (i+1) (by omega)]
        have:nz (err i)=none:=by simp only[nz,if_pos c]
        rw[this]
      · rw[if_neg c] at hs;rw[qn hs]
        have:nz (err i)=some (err i):=by simp only[nz,if_neg c]
        simp only[this,if_neg c];rfl
  exact key n 0 (by omega)
def ch (s:ByteArray) (i:Nat):Nat:=((s[i]?).getD 0).toNat
theorem strAt_eq (s:ByteArray) (i:Nat) (h:i<s.size):∃c:UInt8,strAt s (i:Int)=some c∧c.toNat=ch s i:=by
  refine⟨(s[i]?).getD 0,?_,rfl⟩
  have h0:decide ((0:Int)≤(i:Int))=true:=by simp
  have:s[i]?=some s[i]:=getElem?_pos s i h;unfold strAt;rw[h0,cond_true,Int.toNat_natCast,this];rfl
theorem ch_lt (s:ByteArray) (i:Nat):ch s i<256:=UInt8.toNat_lt _
def qll (s:ByteArray) (i:Nat):Bool:=!(decide (65≤ch s i∧ch s i≤90)||decide (i≠0∧48≤ch s i∧ch s i≤57))
def qq7 (s:ByteArray):Bool:=!((List.range s.size).any (qll s))&&decide (1≤s.size∧s.size≤8)
theorem empty_iff (s:ByteArray):(s.toList==(ByteArray.mk #[]).toList)=decide (s.size=0):=by
  rw[ByteArray.toList_eq,ByteArray.toList_eq];obtain⟨⟨l⟩⟩:=s;rw[Bool.eq_iff_iff,beq_iff_eq,decide_eq_true_eq];exact List.length_eq_zero_iff.symm
theorem name_spec (s:ByteArray) (hs:s.size≤9223372036854775807):qi1 s=some (qq7 s):=by
  unfold qi1 qq7
  have hL:=qcO (List.range s.size) (qll s) (qe3 s) (.inr false) (.inl ((),())) (fun i hi=>by
    have hi':i<s.size:=by simpa using hi
    obtain⟨c,h1,h2⟩:=strAt_eq s i hi';have hlt:=ch_lt s i;unfold qe3
    have h3:(i:Int)<(s.size:Int):=by omega
    have hg:∀b,gopt b 0 (some c)=some (bif b then c else 0):=fun b=>by cases b<;>rfl
    simp only[h3,decide_true,cond_true,h1,Option.bind_some,hg,List.getElem_range,qk (n:=(i:Int)+1) (by omega) (by omega)]
    have hb:qll s i = !(decide (65≤c.toNat∧c.toNat≤90)||decide (i≠0∧48≤c.toNat∧c.toNat≤57)):=by unfold qll;rw[h2]
    rw[hb];generalize hn:c.toNat=n at *
    have e0:((i:Int)==0)=decide (i=0):=by rw[Bool.eq_iff_iff];simp
    rw[e0];by_cases c1:65≤n
    · have a1:decide ((n:Int)≥65)=true:=by simp only[decide_eq_true_eq];omega
      simp only[a1,cond_true,Bool.true_and,hn];by_cases c2:n≤90
      · have a2:decide ((n:Int)≤90)=true:=by simp only[decide_eq_true_eq];omega
        simp[a2,c1,c2]
      · have a2:decide ((n:Int)≤90)=false:=by simp only[decide_eq_false_iff_not];omega
        have a3:decide ((n:Int)<48)=false:=by simp only[decide_eq_false_iff_not];omega
        have a4:decide ((n:Int)>57)=true:=by simp only[decide_eq_true_eq];omega
        have a5:¬n≤57:=by omega
        by_cases c3:i=0
        · simp[a2,c1,c2,c3]
        · simp[a2,a3,a4,a5,c1,c2,c3,hn]
    · have a1:decide ((n:Int)≥65)=false:=by simp only[decide_eq_false_iff_not];omega
      by_cases c3:i=0
      · simp[a1,c1,c3]
      · by_cases c4:48≤n
        · have a3:decide ((n:Int)<48)=false:=by simp only[decide_eq_false_iff_not];omega
          by_cases c5:n≤57
          · have a4:decide ((n:Int)>57)=false:=by simp only[decide_eq_false_iff_not];omega
            simp[a1,a3,a4,c1,c3,c4,c5,hn]
          · have a4:decide ((n:Int)>57)=true:=by simp only[decide_eq_true_eq];omega
            simp[a1,a3,a4,c1,c3,c4,c5,hn]
        · have a3:decide ((n:Int)<48)=true:=by simp only[decide_eq_true_eq];omega
          simp[a1,a3,c1,c3,c4,hn]) (by unfold qe3;simp)
  rw[hL,empty_iff]
  cases (List.range s.size).any (qll s) with
  | true=>rfl
  | false =>
    simp only[cond_false,Option.bind_some,Sum.elim_inl,Bool.not_false,Bool.true_and,Option.some.injEq];rw[Bool.eq_iff_iff];simp only[Bool.and_eq_true,Bool.not_eq_true',decide_eq_false_iff_not,decide_eq_true_eq];omega
def qmL (w:Way):Bool:=((((!(qf w.1 (-7:Int) (7:Int)))||(!(qf w.2.1 (-7:Int) (7:Int))))||((w.1==(0:Int))&&(w.2.1==(0:Int))))||(!(qf w.2.2.1 (1:Int) (7:Int))))||(!(qf w.2.2.2.1 (0:Int) (2:Int)))
def pErr (l:List Piece) (i:Nat):Int:=match l[i]? with
  | none=>0
  | some p=>bif decide (p.1<65)||decide (p.1>90) then 6 else bif (l.take i).any (fun q=>q.1==p.1) then 7
    else bif (!(qf p.2.1 0 64))||(!(qf p.2.2.1 0 ((l.length:Nat):Int))) then 4 else bif decide (((p.2.2.2.1.length:Nat):Int)>16) then 2 else bif p.2.2.2.1.any qmL then 4 else 0
theorem take_len {α:Type} (l:List α) {i:Nat} (h:i≤l.length):((l.take i).drop 0).length=i:=by simp;omega
theorem qqk (r:Rules):qfQ r=some (if r.pieces.length=0 then 8 else if 6<r.pieces.length then 2 else qeq (pErr r.pieces) r.pieces.length):=by
  unfold qfQ;by_cases c0:r.pieces.length=0
  · have:(((r.pieces.length:Nat):Int)==0)=true:=beq_t (by omega);rw[this,if_pos c0];rfl
  · have:(((r.pieces.length:Nat):Int)==0)=false:=beq_f (by omega);rw[this,if_neg c0,cond_false];by_cases c1:6<r.pieces.length
    · have:decide (((r.pieces.length:Nat):Int)>6)=true:=by simp only[decide_eq_true_eq];omega
      rw[this,if_pos c1];rfl
    · have:decide (((r.pieces.length:Nat):Int)>6)=false:=by simp only[decide_eq_false_iff_not];omega
      rw[this,if_neg c1,cond_false];rw[loopNZ r.pieces.length (qdp r) (pErr r.pieces) ((),()) (some 0) (fun i hi=>?_) (by unfold qdp;simp)]
      · split
        · rename_i h;rw[h]
        · rfl
      · unfold qdp
        have h1:(i:Int)<(r.pieces.length:Int):=by omega
        have hg:r.pieces[i]?=some r.pieces[i]:=List.getElem?_eq_getElem hi
        have hb:qM 0 (i:Int) r.pieces.length=true:=by unfold qM;simp only[Bool.and_eq_true,decide_eq_true_eq];omega
        simp only[h1,decide_true,cond_true,at?_eq r.pieces (i:Int) (by omega) h1,Option.bind_some,Int.toNat_natCast,hb,qi,qk (n:=(i:Int)+1) (by omega) (by omega)];unfold pErr;rw[hg];generalize hp:r.pieces[i]=p;simp only
        cases hA:(decide (p.1<65)||decide (p.1>90)) with
        | true=>simp
        | false =>
          have hL2:=qcO ((r.pieces.take i).drop 0) (fun q=>q.1==p.1) (qdo r (((i:Int),()),()) p) (.inr (.inr (.inr (.inr (7:Int))))) (.inl ((),())) (fun j hj=>by
            have hj':j<i:=by rw[take_len _ (by omega)] at hj;exact hj
            unfold qdo
            have h2:(j:Int)<((((r.pieces.take i).drop 0).length:Nat):Int):=by omega
            have h3:(j:Int)≥0:=by omega
            simp only[Int.toNat_natCast,h2,decide_true,cond_true,at?_eq ((r.pieces.take i).drop 0) (j:Int) (by omega) h2,Option.bind_some,h3,qk (n:=(j:Int)+1) (by omega) (by omega)]
            rfl) (by unfold qdo;simp)
          rw[hL2];simp only[List.drop_zero,cond_false,Option.bind_some]
          cases hB:(r.pieces.take i).any (fun q=>q.1==p.1) with
          | true=>simp
          | false =>
            simp only[cond_false,Sum.elim_inl]
            cases hC:((!(qf p.2.1 0 64))||(!(qf p.2.2.1 0 ((r.pieces.length:Nat):Int)))) with
            | true=>simp
            | false =>
              simp only[cond_false];by_cases cD:((p.2.2.2.1.length:Nat):Int)>16
              · simp[cD]
              · have hL4:=qcO p.2.2.2.1 qmL (qds p) (.inr (.inr (.inr (.inr (4:Int))))) (.inl ((),())) (fun j hj=>by
                  unfold qds
                  have h2:(j:Int)<((p.2.2.2.1.length:Nat):Int):=by omega
                  simp only[h2,decide_true,cond_true,at?_eq p.2.2.2.1 (j:Int) (by omega) h2,Option.bind_some,Int.toNat_natCast,qk (n:=(j:Int)+1) (by omega) (by omega)]
                  rfl) (by unfold qds;simp)
                simp only[cD,decide_false,cond_false,hL4,Option.bind_some]
                cases p.2.2.2.1.any qmL<;>simp
def sErr (r:Rules) (i:Nat):Int:=bif qf (r.start.getD i 0) 0 (2*((r.pieces.length:Nat):Int)) then 0 else 4
def eErr (r:Rules) (i:Nat):Int:=match r.ends[i]? with
  | none=>0
  | some x=>bif !(qf x.1 0 2) then 1 else
    bif (!(bif x.1==1 then x.2.2.1==0 else qf x.2.2.1 1 64))||(!(bif x.1==0 then x.2.1==0 else qf x.2.1 0 (((r.pieces.length:Nat):Int)-1))) then 4 else 0
def qqz (r:Rules):Int:=bif (((!(qf r.blocked (0:Int) (2:Int)))||(!(qf r.quiet (0:Int) (200:Int))))||((r.repeats !=(0:Int))&&(!(qf r.repeats (2:Int) (5:Int))))) then 4 else 0
def qjO (r:Rules):Int:=if 6<r.ends.length then 2 else qeq (eErr r) r.ends.length
def qaT (r:Rules):Int :=
  if qq7 r.name=false then 6 else
  if ¬((1≤r.width∧r.width≤8)∧1≤r.height∧r.height≤8) then 4 else
  if r.pieces.length=0 then 8 else if 6<r.pieces.length then 2 else
  if qeq (pErr r.pieces) r.pieces.length≠0 then qeq (pErr r.pieces) r.pieces.length else
  if ((r.start.length:Nat):Int)≠r.width*r.height then 3 else
  if qeq (sErr r) r.start.length≠0 then qeq (sErr r) r.start.length else
  if qjO r≠0 then qjO r else qqz r
theorem within_iff {n a b:Int}:qf n a b=true↔a≤n∧n≤b:=by unfold qf;simp
theorem qlH (r:Rules) (hl:r.pieces.length≤1000):qbV r=some (qjO r):=by
  unfold qbV qjO;by_cases c:6<r.ends.length
  · have:decide (((r.ends.length:Nat):Int)>6)=true:=by simp only[decide_eq_true_eq];omega
    rw[this,if_pos c];rfl
  · have:decide (((r.ends.length:Nat):Int)>6)=false:=by simp only[decide_eq_false_iff_not];omega
    rw[this,if_neg c,cond_false];rw[loopNZ r.ends.length (qbT r) (eErr r) ((),()) (some 0) (fun i hi=>?_) (by unfold qbT;simp)]
    · split
      · rename_i h;rw[h]
      · rfl
    · unfold qbT eErr
      have h1:(i:Int)<(r.ends.length:Int):=by omega
      have hg:r.ends[i]?=some r.ends[i]:=List.getElem?_eq_getElem hi;rw[hg];simp only[h1,decide_true,cond_true,at?_eq r.ends (i:Int) (by omega) h1,Option.bind_some,Int.toNat_natCast,qk (n:=(i:Int)+1) (by omega) (by omega),qk (n:=((r.pieces.length:Nat):Int)-1) (by omega) (by omega)];generalize r.ends[i]=x;by_cases k0:x.1=0
      · have:qf x.1 0 2=true:=within_iff.2 (by omega);have k1:(x.1==1)=false:=beq_f (by omega);simp only[this,beq_t k0,k1,cond_true,cond_false,Option.bind_some,Sum.elim_inl,Bool.not_true]
        cases qf x.2.2.1 1 64<;>cases (x.2.1==0)<;>simp
      · by_cases k1:x.1=1
        · have:qf x.1 0 2=true:=within_iff.2 (by omega);simp only[this,beq_f k0,beq_t k1,cond_true,cond_false,Option.bind_some,Sum.elim_inl,Bool.not_true]
          cases (x.2.2.1==0)<;>cases qf x.2.1 0 (((r.pieces.length:Nat):Int)-1)<;>simp
        · by_cases k2:x.1=2
          · have:qf x.1 0 2=true:=within_iff.2 (by omega);simp only[this,beq_f k0,beq_f k1,beq_t k2,cond_true,cond_false,Option.bind_some,Sum.elim_inl,Bool.not_true]
            cases qf x.2.2.1 1 64<;>cases qf x.2.1 0 (((r.pieces.length:Nat):Int)-1)<;>simp
          · have:qf x.1 0 2=false:=by
              rw[Bool.eq_false_iff];intro h;have:=within_iff.1 h;omega
            simp only[this,beq_f k0,beq_f k1,beq_f k2,cond_true,cond_false,Option.bind_some,Sum.elim_inr,Bool.not_false];rfl
theorem qmQ (r:Rules) (hr:Rng qb7 r):qfm r=some (qaT r):=by
  have hname:r.name.size≤9223372036854775807:=Nat.le_trans hr.1 (by decide);have hstart:r.start.length≤9223372036854775807:=Nat.le_trans hr.2.2.2.2.1.1 (by decide);have hP:r.2.2.2.1.length=r.pieces.length:=rfl;have hW:r.2.1*r.2.2.1=r.width*r.height:=rfl;have hE:r.2.2.2.2.2.2.2.1.length=r.ends.length:=rfl;unfold qfm qaT;rw[name_spec r.name hname,qqk r];simp only[Option.bind_some]
  cases qq7 r.name with
  | false=>rfl
  | true =>
    simp only[Bool.not_true,cond_false,Bool.true_eq_false,if_false];by_cases cw:(1≤r.width∧r.width≤8)∧1≤r.height∧r.height≤8
    · have e1:((!(qf r.2.1 1 8))||(!(qf r.2.2.1 1 8)))=false:=by
        rw[within_iff.2 cw.1,within_iff.2 cw.2];rfl
      have e2:¬ ¬((1≤r.width∧r.width≤8)∧1≤r.height∧r.height≤8):=fun h=>h cw;simp only[e1,if_neg e2,cond_false];by_cases c0:r.pieces.length=0
      · simp only[if_pos c0];rfl
      · by_cases c6:6<r.pieces.length
        · simp only[if_neg c0,if_pos c6];rfl
        · simp only[if_neg c0,if_neg c6];by_cases cp:qeq (pErr r.pieces) r.pieces.length=0
          · have hwh:w64 (r.2.1*r.2.2.1)=r.width*r.height:=by
              have h1:r.width*r.height≤8*8:=Int.mul_le_mul cw.1.2 cw.2.2 (by omega) (by omega);have h2:0≤r.width*r.height:=Int.mul_nonneg (by omega) (by omega);exact qk (by omega) (by omega)
            rw[cp,if_neg (fun h=>h rfl),hwh];simp only[bne_self_eq_false,cond_false];by_cases cs:((r.start.length:Nat):Int)=r.width*r.height
            · rw[bne_f cs,if_neg (fun h=>h cs),cond_false];rw[loopNZ r.start.length (qdZ r) (sErr r) ((),()) _ (fun i hi=>?_) (by unfold qdZ;simp)]
              · rw[qlH r (by omega)];by_cases cse:qeq (sErr r) r.start.length=0
                · rw[if_pos cse,if_neg (fun h=>h cse)];simp only[Option.bind_some];by_cases ce:qjO r=0
                  · rw[ce,if_neg (fun h=>h rfl)];simp only[bne_self_eq_false,cond_false];unfold qqz;exact qcq _ _ _
                  · rw[if_pos ce,bne_t ce];rfl
                · rw[if_neg cse,if_pos cse]
              · unfold qdZ sErr
                have h1:(i:Int)<(r.start.length:Int):=by omega
                have h3:(i:Int)≥0:=by omega
                have hgd:r.start.getD i 0=r.start[i]:=by simp[List.getD_eq_getElem?_getD,List.getElem?_eq_getElem hi]
                simp only[h1,decide_true,cond_true,at?_eq r.start (i:Int) (by omega) h1,Option.bind_some,Int.toNat_natCast,h3,qk (n:=(i:Int)+1) (by omega) (by omega),qk (n:=2*((r.pieces.length:Nat):Int)) (by omega) (by omega),hgd]
                cases qf r.start[i] 0 (2*((r.pieces.length:Nat):Int))<;>simp
            · rw[bne_t cs,if_pos cs];rfl
          · rw[bne_t cp,if_pos cp];rfl
    · have e1:((!(qf r.2.1 1 8))||(!(qf r.2.2.1 1 8)))=true:=by
        rw[Bool.or_eq_true,Bool.not_eq_true',Bool.not_eq_true'];by_cases k:qf r.2.1 1 8=true
        · right;rw[Bool.eq_false_iff];intro k2;exact cw ⟨within_iff.1 k,within_iff.1 k2⟩
        · left;exact Bool.eq_false_iff.2 k
      rw[e1,if_pos cw];rfl

abbrev Place:=(List Int)×((List Int)×(List Int)×Unit)×Int×Int×Unit
abbrev Place.cells (p:Place):List Int:=p.1
abbrev Place.h0 (p:Place):List Int:=p.2.1.1
abbrev Place.h1 (p:Place):List Int:=p.2.1.2.1
abbrev Place.turn (p:Place):Int:=p.2.2.1
abbrev Place.quiet (p:Place):Int:=p.2.2.2.1
theorem agree_self {α:Type} (x:Option α):agree x x=x:=by simp[agree]
theorem qeL (s:List Int) (h:s.length≤1000000):qX s=some s:=by
  unfold qX;have:room (([]:List Int).length+s.length) 8=true:=qav (by simp;omega);rw[this]
  cases s with
  | nil=>simp[qi,agree_self]
  | cons a l=>simp[qi]
theorem concat2 (a b:List Int) (ha:a.length≤1000) (hb:b.length≤1000):qbM [a,b]=some (a++b):=by
  have w1:w64 (0+((a.length:Nat):Int))=(a.length:Int):=by rw[Int.zero_add];exact qk (by omega) (by omega)
  have w2:w64 ((a.length:Int)+((b.length:Nat):Int))=((a.length+b.length:Nat):Int):=by rw[qk (by omega) (by omega)];omega
  have w3:w64 ((0:Int)+1)=1:=by decide
  have w4:w64 ((1:Int)+1)=2:=by decide
  have g0:at? [a,b] 0=some a:=rfl;have g1:at? [a,b] 1=some b:=rfl;have l1:iterW (qao [a,b]) (((0:Int),(0:Int),()),())=some (((((a.length+b.length:Nat):Int)),()),()):=by
    have s0:qao [a,b] (((0:Int),(0:Int),()),())=some (.inl ((((a.length:Nat):Int),(1:Int),()),())):=by
      unfold qao;simp only[g0,w1,w3,Option.bind_some];rw[show decide (((a.length:Nat):Int)<0)=false by simp];rfl
    have s1:qao [a,b] ((((a.length:Nat):Int),(1:Int),()),())=some (.inl ((((a.length+b.length:Nat):Int),(2:Int),()),())):=by
      unfold qao;simp only[g1,w2,w4,Option.bind_some];rw[show decide (((a.length+b.length:Nat):Int)<0)=false by simp;omega];rfl
    have s2:qao [a,b] ((((a.length+b.length:Nat):Int),(2:Int),()),())=some (.inr ((((a.length+b.length:Nat):Int),()),())):=rfl;rw[qx s0,qx s1,qn s2]
  have l2:iterW (qap [a,b]) ((([]:List Int),(0:Int),()),())=some ((a++b,()),()):=by
    have s0:qap [a,b] ((([]:List Int),(0:Int),()),())=some (.inl ((a,(1:Int),()),())):=by
      unfold qap;simp only[g0,w3,Option.bind_some];rw[qav (by simp;omega)];rfl
    have s1:qap [a,b] ((a,(1:Int),()),())=some (.inl ((a++b,(2:Int),()),())):=by
      unfold qap;simp only[g1,w4,Option.bind_some];rw[qav (by omega)];rfl
    have s2:qap [a,b] ((a++b,(2:Int),()),())=some (.inr ((a++b,()),())):=rfl;rw[qx s0,qx s1,qn s2]
  unfold qbM;simp only[l1,Option.bind_some];rw[show decide (((a.length+b.length:Nat):Int)<0)=false by simp;omega]
  have w5:w64 (((a.length+b.length:Nat):Int)-0)=((a.length+b.length:Nat):Int):=by rw[Int.sub_zero];exact qk (by omega) (by omega)
  simp only[w5,cond_false];by_cases c:a.length+b.length=0
  · rw[c];simp only[Int.natCast_zero,show decide ((0:Int)>0)=false by decide,cond_false,Option.bind_some];rw[l2];rfl
  · have c1:decide (((a.length+b.length:Nat):Int)>0)=true:=by simp;omega
    have c2:decide (0<((a.length+b.length:Nat):Int))=true:=by simp;omega
    have c3:room ((((a.length+b.length:Nat):Int)).toNat) 8=true:=qav (by omega)
    have c4:∀l:List Int,qM 0 0 l.length=true:=fun l=>by simp[qM]
    simp only[c1,c2,c3,c4,cond_true,Bool.and_self,qi,Option.bind_some,List.take_zero];rw[l2];rfl

def outC (r:Rules) (d:Int):Bool:=decide (d<0)||decide (d>2*((r.pieces.length:Nat):Int))
def outH (d:Int):Bool:=decide (d<0)||decide (d>1000)
def outT (p:Place):Bool:=(((p.turn !=0)&&(p.turn !=1))||decide (p.quiet<0))||decide (p.quiet>200)
def qfF (r:Rules) (p:Place):Bool:=p.cells.any (outC r)||((p.h0++p.h1).any outH||outT p)
def qij (r:Rules) (p:Place):Bool:=((((p.cells.length:Nat):Int)!=r.width*r.height)||(((p.h0.length:Nat):Int)!=((r.pieces.length:Nat):Int)))||(((p.h1.length:Nat):Int)!=((r.pieces.length:Nat):Int))
def qP (r:Rules) (p:Place):Int:=if qaT r≠0 then qaT r else bif qij r p then 3 else bif qfF r p then 4 else 0

structure VR0 (r:Rules):Prop where
  w1:1≤r.width
  w8:r.width≤8
  h1:1≤r.height
  h8:r.height≤8
  t1:1≤r.pieces.length
  t6:r.pieces.length≤6
  hand:∀q∈r.pieces,0≤q.2.1∧q.2.1≤64
  prom:∀q∈r.pieces,0≤q.2.2.1∧q.2.2.1≤((r.pieces.length:Nat):Int)
  ways:∀q∈r.pieces,q.2.2.2.1.length≤16
  way:∀q∈r.pieces,∀w∈q.2.2.2.1,(-7≤w.1∧w.1≤7)∧(-7≤w.2.1∧w.2.1≤7)∧¬(w.1=0∧w.2.1=0)∧(1≤w.2.2.1∧w.2.2.1≤7)∧(0≤w.2.2.2.1∧w.2.2.2.1≤2)
  start:((r.start.length:Nat):Int)=r.width*r.height
  startC:∀c∈r.start,0≤c∧c≤2*((r.pieces.length:Nat):Int)
  ends6:r.ends.length≤6
  ends:∀x∈r.ends,(0≤x.1∧x.1≤2)∧(if x.1=1 then x.2.2.1=0 else 1≤x.2.2.1∧x.2.2.1≤64)∧(if x.1=0 then x.2.1=0 else 0≤x.2.1∧x.2.1≤((r.pieces.length:Nat):Int)-1)
  blocked:0≤r.blocked∧r.blocked≤2
  quiet:0≤r.quiet∧r.quiet≤200
  repeats:r.repeats=0∨(2≤r.repeats∧r.repeats≤5)
structure Valid (r:Rules) (p:Place):Prop where
  r0:VR0 r
  cells:((p.cells.length:Nat):Int)=r.width*r.height
  l0:p.h0.length=r.pieces.length
  l1:p.h1.length=r.pieces.length
  cell:∀c∈p.cells,0≤c∧c≤2*((r.pieces.length:Nat):Int)
  hand0:∀c∈p.h0,0≤c∧c≤1000
  hand1:∀c∈p.h1,0≤c∧c≤1000
  turn:p.turn=0∨p.turn=1
  quiet:0≤p.quiet∧p.quiet≤200

theorem qp9 {α:Type} {l:List α} {x:α} (h:x∈l):∃i,i<l.length∧l[i]?=some x:=by
  obtain⟨i,hi,e⟩:=List.mem_iff_getElem.1 h;exact⟨i,hi,by rw[List.getElem?_eq_getElem hi,e]⟩
theorem qbH {r:Rules} (h:qaT r=0):VR0 r:=by
  unfold qaT at h;split at h
  · cases h
  split at h
  · cases h
  rename_i _ h2;have h2:=Decidable.not_not.1 h2;split at h
  · cases h
  rename_i h3;split at h
  · cases h
  rename_i h4;split at h
  · rename_i h5;exact absurd h h5
  rename_i h5;have h5:=qgH (Decidable.not_not.1 h5);split at h
  · cases h
  rename_i h6;have h6:=Decidable.not_not.1 h6;split at h
  · rename_i h7;exact absurd h h7
  rename_i h7;have h7:=qgH (Decidable.not_not.1 h7);split at h
  · rename_i h8;exact absurd h h8
  rename_i h8;have h8:=Decidable.not_not.1 h8;unfold qjO at h8;split at h8
  · cases h8
  rename_i h9;have h8:=qgH h8;have hp:∀q∈r.pieces,(0≤q.2.1∧q.2.1≤64)∧(0≤q.2.2.1∧q.2.2.1≤((r.pieces.length:Nat):Int))∧q.2.2.2.1.length≤16∧q.2.2.2.1.any qmL=false:=fun q hq=>by
    obtain⟨i,hi,e⟩:=qp9 hq;have:=h5 i hi;unfold pErr at this;rw[e] at this;simp only at this;cases c1:(decide (q.1<65)||decide (q.1>90))
    · cases c2:(r.pieces.take i).any (fun q'=>q'.1==q.1)
      · cases c3:((!(qf q.2.1 0 64))||(!(qf q.2.2.1 0 ((r.pieces.length:Nat):Int))))
        · cases c4:decide (((q.2.2.2.1.length:Nat):Int)>16)
          · cases c5:q.2.2.2.1.any qmL
            · simp only[Bool.or_eq_false_iff,Bool.not_eq_false'] at c3;simp only[decide_eq_false_iff_not] at c4;exact⟨within_iff.1 c3.1,within_iff.1 c3.2,by omega,rfl⟩
            · simp[c1,c2,c3,c4,c5] at this
          · simp[c1,c2,c3,c4] at this
        · simp[c1,c2,c3] at this
      · simp[c1,c2] at this
    · simp[c1] at this
  refine⟨h2.1.1,h2.1.2,h2.2.1,h2.2.2,by omega,by omega,fun q hq=>(hp q hq).1,fun q hq=>(hp q hq).2.1,fun q hq=>(hp q hq).2.2.1,fun q hq w hw=>?_,h6,fun c hc=>?_,by omega,fun x hx=>?_,?_,?_,?_⟩
  · have:=(hp q hq).2.2.2;rw[List.any_eq_false] at this;have:=this w hw;unfold qmL at this;simp only[Bool.not_eq_true,Bool.or_eq_false_iff,Bool.not_eq_false',within_iff,Bool.and_eq_false_iff,beq_eq_false_iff_ne] at this;refine⟨this.1.1.1.1,this.1.1.1.2,fun h=>?_,this.1.2,this.2⟩;rcases this.1.1.2 with h' | h'
    · exact h' h.1
    · exact h' h.2
  · obtain⟨i,hi,e⟩:=qp9 hc;have:=h7 i hi;unfold sErr at this;rw[List.getD_eq_getElem?_getD,e] at this;cases c1:qf c 0 (2*((r.pieces.length:Nat):Int))
    · simp[c1] at this
    · exact within_iff.1 c1
  · obtain⟨i,hi,e⟩:=qp9 hx;have:=h8 i hi;unfold eErr at this;rw[e] at this;simp only at this;cases c1:qf x.1 0 2
    · simp[c1] at this
    · cases c2:(!(bif x.1==1 then x.2.2.1==0 else qf x.2.2.1 1 64))||(!(bif x.1==0 then x.2.1==0 else qf x.2.1 0 (((r.pieces.length:Nat):Int)-1)))
      · simp only[Bool.or_eq_false_iff,Bool.not_eq_false'] at c2;refine⟨within_iff.1 c1,?_,?_⟩
        · have:=c2.1;by_cases e1:x.1=1
          · rw[if_pos e1];simpa[e1] using this
          · rw[if_neg e1];rw[beq_f e1,cond_false] at this;exact within_iff.1 this
        · have:=c2.2;by_cases e1:x.1=0
          · rw[if_pos e1];simpa[e1] using this
          · rw[if_neg e1];rw[beq_f e1,cond_false] at this;exact within_iff.1 this
      · simp[c1,c2] at this
  all_goals
    unfold qqz at h;cases c1:(((!(qf r.blocked (0:Int) (2:Int)))||(!(qf r.quiet (0:Int) (200:Int))))||((r.repeats !=(0:Int))&&(!(qf r.repeats (2:Int) (5:Int)))))
    · simp only[Bool.or_eq_false_iff,Bool.not_eq_false',within_iff,Bool.and_eq_false_iff,bne_eq_false_iff_eq] at c1
      first
      | exact c1.1.1
      | exact c1.1.2
      | exact c1.2
    · simp[c1] at h
theorem VR0.area {r:Rules} (h:VR0 r):1≤r.width*r.height∧r.width*r.height≤64:=by
  have h1:r.width*r.height≤8*8:=Int.mul_le_mul h.w8 h.h8 (by have:=h.h1;omega) (by omega);have h2:1*1≤r.width*r.height:=Int.mul_le_mul h.w1 h.h1 (by omega) (by have:=h.w1;omega);omega
theorem qsj (r:Rules) (p:Place) (hr:VR0 r) (hn:p.1.length≤9223372036854775807):qhk r p=some (bif qij r p then 3 else bif qfF r p then 4 else 0):=by
  have ha:=hr.area;have ht:=hr.t6;unfold qhk qij;rw[show r.2.1*r.2.2.1=r.width*r.height from rfl,qk (n:=r.width*r.height) (by omega) (by omega)]
  cases hb:((((((p.1.length:Nat):Int)!=r.width*r.height)||(((p.2.1.1.length:Nat):Int)!=((r.2.2.2.1.length:Nat):Int)))||(((p.2.1.2.1.length:Nat):Int)!=((r.2.2.2.1.length:Nat):Int)))) with
  | true=>rfl
  | false =>
    simp only[Bool.or_eq_false_iff,bne_eq_false_iff_eq] at hb;obtain⟨⟨b1,b2⟩,b3⟩:=hb;have ht':r.2.2.2.1.length≤6:=ht;rw[cond_false,cond_false,concat2 _ _ (by omega) (by omega),Option.bind_some];unfold qfF
    have hl2:(p.2.1.1++p.2.1.2.1).length≤2000:=by simp;omega
    show _=some (bif (p.1.any (outC r)||((p.2.1.1++p.2.1.2.1).any outH||outT p)) then(4:Int) else 0);generalize p.2.1.1++p.2.1.2.1=l at hl2;have i1:iterW (qcW p r l) (((0:Int),()),())=some (bif p.1.any (outC r) then .inr ((true,()),()) else .inl ((),())):=by
      refine qcO p.1 (outC r) (qcW p r l) (.inr ((true,()),())) (.inl ((),())) (fun i hi=>?_) ?_
      · unfold qcW;simp only[show decide ((i:Int)<((p.1.length:Nat):Int))=true by simp;omega,cond_true];rw[at?_eq _ _ (by omega) (by omega)];simp only[Option.bind_some,Int.toNat_natCast,List.getElem?_eq_getElem hi];rw[qk (n:=(i:Int)+1) (by omega) (by omega),show decide ((i:Int)≥0)=true by simp];rw[qk (n:=(2:Int)*((r.2.2.2.1.length:Nat):Int)) (by omega) (by omega)];unfold outC;generalize (decide (p.1[i]<(0:Int))||decide (p.1[i]>((2:Int)*((r.2.2.2.1.length:Nat):Int))))=q
        cases q<;>rfl
      · unfold qcW;simp
    have i2:iterW (qc3 l p) (((0:Int),()),())=some (bif l.any outH then .inr ((true,()),()) else .inl ((),())):=by
      refine qcO l outH (qc3 l p) (.inr ((true,()),())) (.inl ((),())) (fun i hi=>?_) ?_
      · unfold qc3;simp only[show decide ((i:Int)<((l.length:Nat):Int))=true by simp;omega,cond_true,Int.toNat_natCast,show inb (i:Int) l.length=true from inb_iff.2 ⟨by omega,by omega⟩,qi,show decide ((i:Int)≥0)=true by simp];rw[qk (n:=(i:Int)+1) (by omega) (by omega)]
        have e:getD' l i (0:Int)=l[i]:=by simp[getD',hi]
        have e':outH l[i]=(decide (getD' l i (0:Int)<(0:Int))||decide (getD' l i (0:Int)>(1000:Int))):=by rw[e];rfl
        rw[e'];generalize (decide (getD' l i (0:Int)<(0:Int))||decide (getD' l i (0:Int)>(1000:Int)))=q
        cases q<;>simp
      · unfold qc3;simp
    have e4:iterW (qjm p r l) (((0:Int),()),())=_:=i1;have e6:iterW (qjd l p) (((0:Int),()),())=_:=i2;simp only[i1,i2,e4,e6,agree_self,Option.bind_some];unfold outT;cases p.1.any (outC r)
    · cases l.any outH
      · simp only[cond_false,Sum.elim_inl,Option.bind_some,Bool.false_or];exact(qcq _ _ _)
      · rfl
    · rfl
theorem qfy (r:Rules) (p:Place) (hr:Rng qb7 r) (hn:p.1.length≤9223372036854775807):qcg r p=some (qP r p):=by
  unfold qcg qP;rw[qmQ r hr,Option.bind_some];by_cases c:qaT r=0
  · rw[bne_f c,cond_false,if_neg (by simpa using c),qsj r p (qbH c) hn];rfl
  · rw[bne_t c,cond_true,if_pos c]
theorem qhs {r:Rules} {p:Place} (h:qP r p=0):Valid r p:=by
  unfold qP at h;split at h
  · rename_i c;exact absurd h c
  rename_i c;have hv:=qbH (Decidable.not_not.1 c);cases c1:qij r p
  · rw[c1,cond_false] at h;cases c2:qfF r p
    · unfold qij at c1;unfold qfF outT at c2;simp only[Bool.or_eq_false_iff,bne_eq_false_iff_eq,List.any_eq_false,Bool.and_eq_false_iff,decide_eq_false_iff_not,List.mem_append,outC,outH,decide_eq_true_eq,Bool.not_eq_true] at c1 c2;obtain⟨⟨a1,a2⟩,a3⟩:=c1;obtain⟨b1,b2,⟨b3,b4⟩,b5⟩:=c2;exact⟨hv,a1,by omega,by omega,fun c hc=>by have:=b1 c hc;omega,fun c hc=>by have:=b2 c (.inl hc);omega,fun c hc=>by have:=b2 c (.inr hc);omega,b3,by omega⟩
    · rw[c2] at h;cases h
  · rw[c1] at h;cases h

abbrev RWay:=Int×Int×Int×Int×Unit
def cellI (p:Place) (s:Int):Int:=p.cells.getD s.toNat 0
def onB (r:Rules) (x y:Int):Bool:=decide (0≤x∧x<r.width∧0≤y∧y<r.height)
def sq (r:Rules) (x y:Int):Int:=y*r.width+x
def enemy (p:Place) (c:Int):Bool:=decide (c>0)&&((c-1).tmod 2 !=p.turn)
def mineB (p:Place) (c:Int):Bool:=decide (c>0)&&((c-1).tmod 2==p.turn)
def takes (p:Place) (w:RWay) (c:Int):Bool:=((c==0)&&(w.2.2.2.1 !=2))||(enemy p c&&(w.2.2.2.1 !=0))
def dyOf (p:Place) (w:RWay):Int:=if p.turn=1 then-w.2.1 else w.2.1
def wayL (r:Rules) (p:Place) (w:RWay):Nat→Int→Int→List Int
  | 0,_,_=>[]
  | n+1,x,y=>bif onB r (x+w.1) (y+dyOf p w) then(bif takes p w (cellI p (sq r (x+w.1) (y+dyOf p w))) then [sq r (x+w.1) (y+dyOf p w)] else [])++(bif cellI p (sq r (x+w.1) (y+dyOf p w))==0 then wayL r p w n (x+w.1) (y+dyOf p w) else []) else []
def wayS (r:Rules) (p:Place) (s:Int) (w:RWay):List Int:=wayL r p w w.2.2.1.toNat (s.tmod r.width) (s.tdiv r.width)

def WayOk (w:RWay):Prop:=(-7≤w.1∧w.1≤7)∧(-7≤w.2.1∧w.2.1≤7)∧¬(w.1=0∧w.2.1=0)∧(1≤w.2.2.1∧w.2.2.1≤7)∧(0≤w.2.2.2.1∧w.2.2.2.1≤2)
theorem Valid.wayOk {r:Rules} {p:Place} (h:Valid r p) {q:Piece} (hq:q∈r.pieces) {w:RWay} (hw:w∈q.2.2.2.1):WayOk w:=h.r0.way q hq w hw
theorem dyOf_rng {p:Place} {w:RWay} (h:WayOk w) : -7≤dyOf p w∧dyOf p w≤7:=by
  unfold dyOf;obtain⟨_,h1,_⟩:=h;split<;>omega
theorem onB_iff {r:Rules} {x y:Int}:onB r x y=true↔0≤x∧x<r.width∧0≤y∧y<r.height:=by simp[onB]
theorem qnT {y W H:Int} (hW:0≤W) (h0:0≤y) (h1:y<H):0≤y*W∧y*W≤W*H-W:=by
  refine⟨Int.mul_nonneg h0 hW,?_⟩;have:=Int.mul_le_mul_of_nonneg_right (show y≤H-1 by omega) hW;rw[Int.sub_mul,Int.one_mul,Int.mul_comm H W] at this;exact this
theorem qrm {r:Rules} (hr:VR0 r) {x y:Int} (h:onB r x y=true):0≤sq r x y∧sq r x y<r.width*r.height:=by
  obtain⟨h1,h2,h3,h4⟩:=onB_iff.1 h;have:=qnT (show 0≤r.width by have:=hr.w1;omega) h3 h4;unfold sq;omega
theorem qh9 {p:Place} {s:Int} (h0:0≤s) (h1:s<((p.cells.length:Nat):Int)):at? p.1 s=some (cellI p s):=by
  rw[at?_eq p.1 s h0 h1];unfold cellI;have h1':s<((p.1.length:Nat):Int):=h1;rw[List.getD_eq_getElem?_getD,List.getElem?_eq_getElem (by show s.toNat<p.1.length;omega)];rfl
theorem qqY {r:Rules} {p:Place} (h:Valid r p) (s:Int):0≤cellI p s∧cellI p s≤2*((r.pieces.length:Nat):Int):=by
  unfold cellI;rw[List.getD_eq_getElem?_getD]
  cases e:p.cells[s.toNat]? with
  | none=>simp;omega
  | some c=>exact h.cell c (List.mem_of_getElem? e)
theorem qjY {r:Rules} {p:Place} (h:Valid r p) (s:Int):0≤cellI p s∧cellI p s≤12:=by
  have:=qqY h s;have:=h.r0.t6;omega
theorem qra (r:Rules) (p:Place) (w:RWay):∀(n:Nat) (x y:Int),(wayL r p w n x y).length≤n
  | 0,x,y=>by simp[wayL]
  | n+1,x,y=>by
    unfold wayL;have:=qra r p w n (x+w.1) (y+dyOf p w);cases onB r (x+w.1) (y+dyOf p w)
    · simp
    · cases takes p w (cellI p (sq r (x+w.1) (y+dyOf p w)))<;>cases (cellI p (sq r (x+w.1) (y+dyOf p w))==0)<;>simp<;>omega
theorem qrs {r:Rules} {p:Place} {w:RWay} {t:Int}:∀ {n:Nat} {x y:Int},t∈wayL r p w n x y→∃j:Int,1≤j∧onB r (x+j*w.1) (y+j*dyOf p w)=true∧t=sq r (x+j*w.1) (y+j*dyOf p w)
  | 0,x,y,h=>by simp[wayL] at h
  | n+1,x,y,h=>by
    unfold wayL at h
    cases hb:onB r (x+w.1) (y+dyOf p w) with
    | false=>simp[hb] at h
    | true =>
      rw[hb,cond_true] at h;rcases List.mem_append.1 h with h | h
      · refine⟨1,by omega,by simpa using hb,?_⟩
        cases ht:takes p w (cellI p (sq r (x+w.1) (y+dyOf p w)))<;>simp[ht] at h
        simpa using h
      · cases hc:(cellI p (sq r (x+w.1) (y+dyOf p w))==0)<;>simp[hc] at h
        obtain⟨j,h1,h2,h3⟩:=qrs h
        have e1:x+w.1+j*w.1=x+(j+1)*w.1:=by rw[Int.add_mul];omega
        have e2:y+dyOf p w+j*dyOf p w=y+(j+1)*dyOf p w:=by rw[Int.add_mul];omega
        rw[e1,e2] at h2 h3;exact⟨j+1,by omega,h2,h3⟩
theorem qmn {r:Rules} {p:Place} (h:VR0 r) {w:RWay} {n:Nat} {x y t:Int} (ht:t∈wayL r p w n x y):0≤t∧t<r.width*r.height:=by
  obtain⟨j,h1,h2,h3⟩:=qrs ht;rw[h3];exact qrm h h2
theorem qob {r:Rules} (hr:VR0 r) {s:Int} (h0:0≤s) (h1:s<r.width*r.height):(0≤s.tmod r.width∧s.tmod r.width<r.width)∧0≤s.tdiv r.width∧s.tdiv r.width<r.height:=by
  have hw:=hr.w1;rw[Int.tmod_eq_emod_of_nonneg h0,Int.tdiv_eq_ediv_of_nonneg h0];refine⟨⟨Int.emod_nonneg _ (by omega),Int.emod_lt_of_pos _ (by omega)⟩,Int.ediv_nonneg h0 (by omega),Int.ediv_lt_of_lt_mul (by omega) (by rw[Int.mul_comm];exact h1)⟩
theorem qrR {r:Rules} {p:Place} (h:Valid r p) {w:RWay} (hw:WayOk w) (s:Int) :
    ((((w.2.2.2.1==(0:Int))&&(cellI p s==(0:Int)))||((w.2.2.2.1==(1:Int))&&((cellI p s==(0:Int))||((decide (cellI p s>(0:Int)))&&(((w64 (cellI p s-(1:Int))).tmod (2:Int))!=p.2.2.1)))))||((w.2.2.2.1==(2:Int))&&((decide (cellI p s>(0:Int)))&&(((w64 (cellI p s-(1:Int))).tmod (2:Int))!=p.2.2.1))))=takes p w (cellI p s):=by
  have hc:=qjY h s;rw[qk (n:=cellI p s-1) (by omega) (by omega)];obtain⟨_,_,_,_,h5⟩:=hw
  have h6:w.2.2.2.1=0∨w.2.2.2.1=1∨w.2.2.2.1=2:=by omega
  unfold takes enemy;rw[show p.turn=p.2.2.1 from rfl];generalize hA:(cellI p s==0)=A;have hA':A=true→decide (cellI p s>0)=false:=fun h=>by
    subst hA;rw[beq_iff_eq] at h;simp[h]
  generalize decide (cellI p s>0)=B at hA';generalize ((cellI p s-1).tmod 2 !=p.2.2.1)=C
  rcases h6 with h6 | h6 | h6<;>rw[h6]<;>cases A<;>cases B<;>cases C<;>simp_all
theorem qry {r:Rules} {p:Place} (h:Valid r p) {w:RWay} (hw:WayOk w):∀(n:Nat) (out:List Int) (x y k:Int),0≤k→k+n=w.2.2.1→out.length≤k.toNat→(0≤x∧x<r.width)→(0≤y∧y<r.height) →
    iterW (qdj w r ((dyOf p w,()),()) p) ((out,x,y,k,()),())=some ((out++wayL r p w n x y,()),())
  | 0,out,x,y,k,h0,hk,ho,hx,hy=>by
    refine qn ?_;unfold qdj
    have:decide (k<w.2.2.1)=false:=by simp;omega
    simp only[this,cond_false,wayL,List.append_nil]
  | n+1,out,x,y,k,h0,hk,ho,hx,hy=>by
    have hr:=h.r0;have hd:=dyOf_rng (p:=p) hw;obtain⟨hdx,_,_,hm,_⟩:=hw;have:=hr.w8;have:=hr.h8;have:=hr.w1;have:=hr.h1;have ha:=hr.area
    have hlt:decide (k<w.2.2.1)=true:=by simp;omega
    have wx:w64 (x+w.1)=x+w.1:=qk (by omega) (by omega);have wy:w64 (y+dyOf p w)=y+dyOf p w:=qk (by omega) (by omega);have wk:w64 (k+1)=k+1:=qk (by omega) (by omega);have hoff:((((decide (x+w.1<(0:Int)))||(decide (x+w.1≥r.2.1)))||(decide (y+dyOf p w<(0:Int))))||(decide (y+dyOf p w≥r.2.2.1))) = !onB r (x+w.1) (y+dyOf p w):=by
      rw[Bool.eq_iff_iff];simp only[Bool.or_eq_true,decide_eq_true_eq,Bool.not_eq_true',onB,decide_eq_false_iff_not];show((x+w.1<0∨x+w.1≥r.width)∨y+dyOf p w<0)∨y+dyOf p w≥r.height↔_;omega
    unfold wayL
    cases hb:onB r (x+w.1) (y+dyOf p w) with
    | false =>
      refine qn ?_;unfold qdj;simp only[hlt,cond_true,wx,wy,hoff,hb,Bool.not_false,cond_false,List.append_nil]
    | true =>
      have hs:=qrm hr hb;obtain⟨b1,b2,b3,b4⟩:=onB_iff.1 hb;have hmul:=qnT (show 0≤r.width by omega) b3 b4;have w1:w64 ((y+dyOf p w)*r.2.1)=(y+dyOf p w)*r.2.1:=qk (by show _≤(y+dyOf p w)*r.width;omega) (by show(y+dyOf p w)*r.width≤_;omega);have w2:w64 ((y+dyOf p w)*r.2.1+(x+w.1))=sq r (x+w.1) (y+dyOf p w):=qk (by show _≤sq r (x+w.1) (y+dyOf p w);omega) (by show sq r (x+w.1) (y+dyOf p w)≤_;omega);have hat:=qh9 (p:=p) hs.1 (by rw[h.cells];exact hs.2);have hlen:=h.cells
      have hstep:qdj w r ((dyOf p w,()),()) p ((out,x,y,k,()),())=(bif cellI p (sq r (x+w.1) (y+dyOf p w))!=0 then some (.inr ((out++(bif takes p w (cellI p (sq r (x+w.1) (y+dyOf p w))) then [sq r (x+w.1) (y+dyOf p w)] else []),()),())) else some (.inl ((out++(bif takes p w (cellI p (sq r (x+w.1) (y+dyOf p w))) then [sq r (x+w.1) (y+dyOf p w)] else []),x+w.1,y+dyOf p w,k+1,()),()))):=by
        unfold qdj
        simp only[hlt,cond_true,wx,wy,hoff,hb,Bool.not_true,cond_false,w1,w2,wk,hat,Option.bind_some,qrR h ⟨hdx,‹_›,‹_›,hm,‹_›⟩,show ∀b,imp b true=true from fun b=>by cases b<;>rfl,qi]
        have hroom:room (out.length+[sq r (x+w.1) (y+dyOf p w)].length) 8=true:=qav (by simp;omega);cases takes p w (cellI p (sq r (x+w.1) (y+dyOf p w)))
        · simp
        · simp only[cond_true,hroom,qi,Option.bind_some]
      cases hc:(cellI p (sq r (x+w.1) (y+dyOf p w))==0) with
      | true =>
        have hne:(cellI p (sq r (x+w.1) (y+dyOf p w))!=0)=false:=by simp only[bne,hc];rfl
        rw[hne,cond_false] at hstep
        rw[qx hstep,qry h ⟨hdx,‹_›,‹_›,hm,‹_›⟩ n _ (x+w.1) (y+dyOf p w) (k+1) (by omega) (by omega) (by
          have:(bif takes p w (cellI p (sq r (x+w.1) (y+dyOf p w))) then [sq r (x+w.1) (y+dyOf p w)] else []).length≤1:=by cases takes p w (cellI p (sq r (x+w.1) (y+dyOf p w)))<;>simp
          rw[List.length_append];omega) ⟨b1,b2⟩ ⟨b3,b4⟩]
        simp[List.append_assoc]
      | false =>
        have hne:(cellI p (sq r (x+w.1) (y+dyOf p w))!=0)=true:=by simp only[bne,hc];rfl
        rw[hne,cond_true] at hstep;rw[qn hstep];simp
theorem way_spec {r:Rules} {p:Place} (h:Valid r p) {w:RWay} (hw:WayOk w) {s:Int} (h0:0≤s) (h1:s<r.width*r.height):qkZ r p s w=some (wayS r p s w):=by
  have hr:=h.r0;have hd:=qob hr h0 h1;have:=hr.w8;have:=hr.h8;have:=hr.w1;have:=hr.h1;obtain⟨hdx,hdy,hnz,hm,htk⟩:=id hw;unfold qkZ wayS;have hq:(r.2.1 !=0)=true:=bne_t (by show ¬r.width=0;omega);have wdy:(bif (p.2.2.1==(1:Int)) then some (((w64 (0-w.2.1)),()),()) else some ((w.2.1,()),()))=some ((dyOf p w,()),()):=by
    unfold dyOf;by_cases e:p.turn=1
    · rw[if_pos e,beq_t e,cond_true,qk (by omega) (by omega)];simp
    · rw[if_neg e,beq_f e,cond_false]
  have wq:w64 (s.tdiv r.2.1)=s.tdiv r.2.1:=qk (by show _≤s.tdiv r.width;omega) (by show s.tdiv r.width≤_;omega);rw[wdy,Option.bind_some,hq,qi,qi,wq,qry h hw w.2.2.1.toNat [] _ _ 0 (by omega) (by omega) (by simp) hd.1 hd.2];simp

theorem qlF (x y:Mv):mvLt x y=true↔x.1<y.1∨x.1=y.1∧(x.2.1<y.2.1∨x.2.1=y.2.1∧x.2.2.1<y.2.2.1):=by simp[mvLt]
theorem lt_f (x y:Mv):mvLt x y=false↔¬(x.1<y.1∨x.1=y.1∧(x.2.1<y.2.1∨x.2.1=y.2.1∧x.2.2.1<y.2.2.1)):=by rw[←qlF,Bool.not_eq_true]
theorem mv_eq {x y:Mv} (h1:x.1=y.1) (h2:x.2.1=y.2.1) (h3:x.2.2.1=y.2.2.1):x=y:=by
  obtain⟨a,b,c,⟨⟩⟩:=x;obtain⟨a',b',c',⟨⟩⟩:=y;simp only at h1 h2 h3;subst h1 h2 h3;rfl
theorem mv_beq (x y:Mv):((x.1==y.1)&&((x.2.1==y.2.1)&&((x.2.2.1==y.2.2.1)&&true)))=decide (x=y):=by
  rw[Bool.eq_iff_iff];simp only[Bool.and_eq_true,beq_iff_eq,decide_eq_true_eq,and_true];constructor
  · rintro ⟨h1,h2,h3⟩;exact mv_eq h1 h2 h3
  · rintro rfl;exact⟨rfl,rfl,rfl⟩

def dd1 (a:Mv):List Mv→List Mv
  | []=>[]
  | x::xs=>if x=a then dd1 a xs else x::dd1 x xs
def dd:List Mv→List Mv
  | []=>[]
  | x::xs=>x::dd1 x xs
theorem qnD (y:Mv):∀(l:List Mv) (a:Mv),dd1 a (l++[y])=dd1 a l++(if (a::l).getLast (by simp)=y then [] else [y])
  | [],a=>by simp only[List.nil_append,dd1,List.getLast_singleton];by_cases h:y=a<;>simp[h,eq_comm]
  | x::xs,a=>by
    simp only[List.cons_append,dd1];by_cases h:x=a
    · subst h;rw[if_pos rfl,if_pos rfl,qnD y xs x];congr 2
    · rw[if_neg h,if_neg h,qnD y xs x,List.cons_append];congr 2
theorem dd_snoc {l:List Mv} (hl:l≠[]) (y:Mv):dd (l++[y])=dd l++(if l.getLast hl=y then [] else [y]):=by
  cases l with
  | nil=>exact absurd rfl hl
  | cons x xs=>simp only[List.cons_append,dd,qnD]
theorem qnx (z:Mv):∀(l:List Mv) (a:Mv),z∈a::dd1 a l↔z∈a::l
  | [],a=>by simp[dd1]
  | x::xs,a=>by
    simp only[dd1];by_cases h:x=a
    · subst h;rw[if_pos rfl,qnx z xs x];simp
    · rw[if_neg h,List.mem_cons,qnx z xs x,←List.mem_cons]
theorem dd_mem (z:Mv) (l:List Mv):z∈dd l↔z∈l:=by
  cases l with
  | nil=>simp[dd]
  | cons x xs=>exact qnx z xs x
theorem dd1_lt:∀(l:List Mv) (a:Mv),(a::l).Pairwise (fun x y=>(!mvLt y x)=true)→(a::dd1 a l).Pairwise (fun x y=>mvLt x y=true)
  | [],a,h=>by simp[dd1]
  | x::xs,a,h=>by
    simp only[dd1];rw[List.pairwise_cons] at h;by_cases e:x=a
    · subst e;rw[if_pos rfl];exact dd1_lt xs x h.2
    · rw[if_neg e,List.pairwise_cons];refine⟨fun z hz=>?_,dd1_lt xs x h.2⟩;have hz':=(qnx z xs x).1 hz;have h1:=h.1 x (by simp);have hax:mvLt a x=true:=by
        rw[Bool.not_eq_true',lt_f] at h1;rw[qlF];by_cases c1:a.1=x.1
        · by_cases c2:a.2.1=x.2.1
          · by_cases c3:a.2.2.1=x.2.2.1
            · exact absurd (mv_eq c1 c2 c3).symm e
            · omega
          · omega
        · omega
      rcases List.mem_cons.1 hz' with rfl | hz2
      · exact hax
      · have h2:=(List.pairwise_cons.1 h.2).1 z hz2;rw[Bool.not_eq_true',lt_f] at h2;rw[qlF] at hax ⊢;omega
theorem dd_lt {l:List Mv} (h:l.Pairwise (fun x y=>(!mvLt y x)=true)):(dd l).Pairwise (fun x y=>mvLt x y=true):=by
  cases l with
  | nil=>simp[dd]
  | cons x xs=>exact dd1_lt xs x h
theorem sort_pw (l:List Mv):(qb6 l).Pairwise (fun x y=>(!mvLt y x)=true):=by
  unfold qb6;apply List.pairwise_mergeSort
  · intro a b c h1 h2;rw[Bool.not_eq_true',lt_f] at *;omega
  · intro a b;rw[Bool.or_eq_true,Bool.not_eq_true',Bool.not_eq_true',lt_f,lt_f];omega
theorem sort_mem (z:Mv) (l:List Mv):z∈qb6 l↔z∈l:=(List.mergeSort_perm l _).mem_iff
theorem sort_len (l:List Mv):(qb6 l).length=l.length:=List.length_mergeSort l
theorem lt_irrefl (x:Mv):mvLt x x=false:=by rw[lt_f];omega
theorem qpy:∀ {l m:List Mv},l.Pairwise (fun x y=>mvLt x y=true)→m.Pairwise (fun x y=>mvLt x y=true)→(∀z,z∈l↔z∈m)→l=m
  | [],[],_,_,_=>rfl
  | [],y::m,_,_,h=>by have:=(h y).2 (by simp);simp at this
  | x::l,[],_,_,h=>by have:=(h x).1 (by simp);simp at this
  | x::l,y::m,hl,hm,h=>by
    rw[List.pairwise_cons] at hl hm;have e:x=y:=by
      rcases List.mem_cons.1 ((h x).1 (by simp)) with e | e
      · exact e
      · rcases List.mem_cons.1 ((h y).2 (by simp)) with e2 | e2
        · exact e2.symm
        · have a:=hm.1 x e;have b:=hl.1 y e2;rw[qlF] at a b;omega
    subst e;congr 1;refine qpy hl.2 hm.2 fun z=>⟨fun hz=>?_,fun hz=>?_⟩
    · rcases List.mem_cons.1 ((h z).1 (by simp[hz])) with e | e
      · subst e;have:=hl.1 z hz;rw[lt_irrefl] at this;cases this
      · exact e
    · rcases List.mem_cons.1 ((h z).2 (by simp[hz])) with e | e
      · subst e;have:=hm.1 z hz;rw[lt_irrefl] at this;cases this
      · exact e

abbrev d0:Mv:=((0:Int),((0:Int),((0:Int),())))
theorem qqW {xs:List Mv} {j:Nat} (h:j<xs.length):xs.take (j+1)=xs.take j++[getD' xs j d0]:=by
  rw[List.take_succ_eq_append_getElem h];simp[getD',h]
theorem dd_take {xs:List Mv} {j:Nat} (h:j<xs.length) (hj:1≤j):dd (xs.take (j+1))=dd (xs.take j)++(if getD' xs (j-1) d0=getD' xs j d0 then [] else [getD' xs j d0]):=by
  have hne:xs.take j≠[]:=by
    intro e;have:=congrArg List.length e;rw[List.length_take] at this;simp only[List.length_nil] at this;omega
  rw[qqW h,dd_snoc hne];have:(xs.take j).getLast hne=getD' xs (j-1) d0:=by
    rw[List.getLast_eq_getElem];simp only[List.getElem_take,List.length_take,getD'];rw[List.getD_eq_getElem?_getD,List.getElem?_eq_getElem (by omega)];simp only[Option.getD_some];congr 1;omega
  rw[this]
theorem compact5 (xs:List Mv) (k0:Nat) (hk0:1≤k0) (hk1:k0<xs.length) (hx:xs.length≤1000000) (hd:dd (xs.take (k0+1))=xs.take k0) :
    ∃r,iterW (qgz (((k0:Int),()),(xs,()))) (((k0:Int),(1:Int),()),(xs,()))=some r∧(∃k:Nat,r.1.1=(k:Int)∧k≤xs.length∧r.2.1.length=xs.length∧r.2.1.take k=dd xs):=by
  refine qm1 (fun x=>∃(k k2:Nat),x.1.1=(k:Int)∧x.1.2.1=(k2:Int)∧1≤k2∧k0+k2≤xs.length∧k0≤k∧k+1≤k0+k2∧x.2.1.length=xs.length∧(∀j,k0+k2≤j+1→getD' x.2.1 j d0=getD' xs j d0)∧x.2.1.take k=dd (xs.take (k0+k2))) (fun x=>xs.length-x.1.2.1.toNat) _ ?_ _ ⟨k0,1,rfl,rfl,by omega,by omega,by omega,by omega,rfl,fun _ _=>rfl,by rw[hd]⟩
  rintro ⟨⟨k,k2,⟨⟩⟩,ys,⟨⟩⟩ ⟨K,K2,e1,e2,h1,h2,h3,h4,h5,h6,h7⟩
  simp only at e1 e2 h5 h6 h7;subst e1 e2;unfold qgz;simp only[Int.toNat_natCast];by_cases hlt:K2<xs.length-k0
  · left
    have c1:decide ((K2:Int)<((xs.length-k0:Nat):Int))=true:=by simp;omega
    have c2:inb (K2:Int) (xs.length-k0)=true:=inb_iff.2 ⟨by omega,by omega⟩
    have w1:w64 ((K2:Int)-1)=((K2-1:Nat):Int):=by rw[qk (by omega) (by omega)];omega
    have c3:inb ((K2-1:Nat):Int) (xs.length-k0)=true:=inb_iff.2 ⟨by omega,by omega⟩
    have w2:w64 ((K2:Int)+1)=((K2+1:Nat):Int):=by rw[qk (by omega) (by omega)];omega
    have w3:w64 ((K:Int)+1)=((K+1:Nat):Int):=by rw[qk (by omega) (by omega)];omega
    have c4:inb (K:Int) ys.length=true:=inb_iff.2 ⟨by omega,by omega⟩;have g1:getD' ys (k0+K2) d0=getD' xs (k0+K2) d0:=h6 _ (by omega);have g2:getD' ys (k0+(K2-1)) d0=getD' xs (k0+(K2-1)) d0:=h6 _ (by omega);have hdd:=dd_take (xs:=xs) (j:=k0+K2) (by omega) (by omega);simp only[c1,cond_true,c2,qi,w1,Int.toNat_natCast,c3,w2,w3,c4,mv_beq,g1,g2];by_cases he:getD' xs (k0+K2) d0=getD' xs (k0+(K2-1)) d0
    · refine⟨(((K:Int),((K2+1:Nat):Int),()),(ys,())),by simp[he],⟨K,K2+1,rfl,rfl,by omega,by omega,by omega,by omega,h5,fun j hj=>h6 j (by omega),?_⟩,by simp;omega⟩;rw[show k0+(K2+1)=k0+K2+1 by omega,hdd,if_pos (by rw[he];congr 1;omega),List.append_nil];exact h7
    · refine⟨((((K+1:Nat):Int),((K2+1:Nat):Int),()),(ys.set K (getD' xs (k0+K2) d0),())),by simp[he],⟨K+1,K2+1,rfl,rfl,by omega,by omega,by omega,by omega,by simp[h5],fun j hj=>?_,?_⟩,by simp;omega⟩
      · rw[←h6 j (by omega)];simp only[getD'];simp only[List.getD_eq_getElem?_getD];rw[List.getElem?_set_ne (by omega)]
      · rw[show k0+(K2+1)=k0+K2+1 by omega,hdd,if_neg (by intro e;apply he;rw[←e];congr 1;omega),←h7];rw[List.take_succ_eq_append_getElem (by simp;omega)];simp[List.take_set_of_le]
  · right
    have c1:decide ((K2:Int)<((xs.length-k0:Nat):Int))=false:=by simp;omega
    refine⟨(((K:Int),()),(ys,())),by simp only[c1,cond_false],K,rfl,by omega,h5,?_⟩;rw[h7,show k0+K2=xs.length by omega,List.take_length]
theorem compact4 (xs:List Mv) (hx:xs.length≤1000000) (h2:2≤xs.length) :
    (Option.bind (α:=((Unit)×((List Mv)×Unit)) ⊕ (((List Mv)×Unit)×(Unit))) (iterW qeP (((1:Int),()),(xs,()))) (Sum.elim (fun x23=>some ((x23.2.1,()),())) some))=some ((dd xs,()),()):=by
  obtain⟨r,hr,hq⟩:=qm1 (f:=qeP) (fun x=>∃k:Nat,x=(((k:Int),()),(xs,()))∧1≤k∧k≤xs.length∧dd (xs.take k)=xs.take k) (fun x=>xs.length-x.1.1.toNat) (fun r=>r = .inl ((),(xs,()))∧dd xs=xs∨r = .inr ((dd xs,()),())) (by
    rintro x ⟨k,rfl,h1,h3,h4⟩
    unfold qeP;simp only[Int.toNat_natCast];by_cases hlt:k<xs.length
    · have c1:decide ((k:Int)<((xs.length:Nat):Int))=true:=by simp;omega
      have c2:inb (k:Int) xs.length=true:=inb_iff.2 ⟨by omega,by omega⟩
      have w1:w64 ((k:Int)-1)=((k-1:Nat):Int):=by rw[qk (by omega) (by omega)];omega
      have c3:inb ((k-1:Nat):Int) xs.length=true:=inb_iff.2 ⟨by omega,by omega⟩
      have w2:w64 ((k:Int)+1)=((k+1:Nat):Int):=by rw[qk (by omega) (by omega)];omega
      have c4:qM (k:Int) ((xs.length:Nat):Int) xs.length=true:=by simp[qM];omega
      have hdd:=dd_take hlt h1;simp only[c1,cond_true,c2,qi,w1,Int.toNat_natCast,c3,c4,mv_beq];by_cases he:getD' xs k d0=getD' xs (k-1) d0
      · right;rw[if_pos he.symm,List.append_nil,h4] at hdd;obtain⟨r,hr,K,e1,e2,e3,e4⟩:=compact5 xs k h1 hlt hx hdd;obtain⟨⟨k',⟨⟩⟩,ys,⟨⟩⟩:=r;simp only at e1 e3 e4;subst e1;refine⟨.inr ((dd xs,()),()),?_,.inr rfl⟩;rw[hr]
        have c5:qM (K:Int) ((ys.length:Nat):Int) ys.length=true:=by simp[qM];omega
        have c6:∀l:List Mv,K≤l.length→qM 0 (K:Int) l.length=true:=fun l hl=>by simp[qM];omega
        simp only[he,decide_true,cond_true,Option.bind_some,c5,qi,Int.toNat_natCast];rw[c6 _ (by simp;omega),qi,Option.bind_some,Sum.elim_inr,List.take_append_of_le_length (by simp;omega),List.take_take,Nat.min_self,e4]
      · left;refine⟨((((k+1:Nat):Int),()),(xs,())),?_,⟨k+1,rfl,by omega,by omega,?_⟩,by simp;omega⟩
        · simp only[he,decide_false,cond_false,Option.bind_some,Sum.elim_inl,w2]
        · rw[hdd,if_neg (fun e=>he e.symm),h4,←qqW hlt]
    · right
      have c1:decide ((k:Int)<((xs.length:Nat):Int))=false:=by simp;omega
      refine⟨.inl ((),(xs,())),by simp only[c1,cond_false],.inl ⟨rfl,?_⟩⟩
      have:k=xs.length:=by omega
      rw[this,List.take_length] at h4
      exact h4) (((1:Int),()),(xs,())) ⟨1,rfl,by omega,by omega,by
        cases xs with
        | nil=>rfl
        | cons x l=>rfl⟩
  rw[hr];rcases hq with ⟨rfl,e⟩ | rfl
  · rw[e];rfl
  · rfl

def qcI (p:Place):List Int:=getD' [p.2.1.1,p.2.1.2.1] (p.2.2.1).toNat []
theorem qje {r:Rules} {p:Place} (h:Valid r p):qcI p=if p.turn=0 then p.h0 else p.h1:=by
  unfold qcI;rcases h.turn with e | e
  · rw[if_pos e,show p.2.2.1=0 from e];rfl
  · rw[if_neg (by omega),show p.2.2.1=1 from e];rfl
theorem qk1 {r:Rules} {p:Place} (h:Valid r p):(qcI p).length=r.pieces.length:=by
  rw[qje h];split
  · exact h.l0
  · exact h.l1
theorem qqV {r:Rules} {p:Place} (h:Valid r p):∀c∈qcI p,0≤c∧c≤1000:=by
  rw[qje h];split
  · exact h.hand0
  · exact h.hand1
def handI (p:Place) (k:Int):Int:=(qcI p).getD k.toNat 0
theorem at_hand {p:Place} {k:Int} (h0:0≤k) (h1:k<(((qcI p).length:Nat):Int)):at? (getD' [p.2.1.1,p.2.1.2.1] (p.2.2.1).toNat []) k=some (handI p k):=by
  show at? (qcI p) k=_;rw[at?_eq _ k h0 h1];unfold handI;rw[List.getD_eq_getElem?_getD,List.getElem?_eq_getElem (by omega)];rfl
def colF (p:Place) (W x0:Int):Nat→Bool
  | 0=>true
  | y+1=>colF p W x0 y&&(cellI p (x0+(y:Int)*W)!=0)
def qgZ (r:Rules) (p:Place) (s:Int):Bool:=colF p r.width (s.tmod r.width) (s.tdiv r.width).toNat
theorem div_eq {W s:Int} (hW:1≤W) (h0:0≤s):s=s.tmod W+((s.tdiv W).toNat:Int)*W:=by
  have h1:=Int.tmod_add_tdiv_mul s W
  have h2:0≤s.tdiv W:=by rw[Int.tdiv_eq_ediv_of_nonneg h0];exact Int.ediv_nonneg h0 (by omega)
  rw[Int.toNat_of_nonneg h2];exact h1.symm
theorem qlx {r:Rules} {p:Place} (h:Valid r p) {x0:Int} (hx:0≤x0∧x0<r.width):∀(y:Nat),(y:Int)≤r.height →
    (Option.bind (α:=((Unit)×(Unit)) ⊕ Bool) (iterW (qct p r) ((x0+(y:Int)*r.width-r.width,()),())) (Sum.elim (fun x3=>some true) some))=some (colF p r.width x0 y)
  | 0,hy=>by
    rw[qn (r := .inl ((),())) (by
      unfold qct
      have:decide (x0+((0:Nat):Int)*r.width-r.width≥0)=false:=by simp;omega
      simp only[this,cond_false])]
    rfl
  | y+1,hy=>by
    have hr:=h.r0;have:=hr.w8;have:=hr.h8;have:=hr.w1;have:=hr.h1;have ha:=hr.area;have hb:onB r x0 (y:Int)=true:=onB_iff.2 ⟨hx.1,hx.2,by omega,by omega⟩;have hs:=qrm hr hb;have hm:=qnT (show 0≤r.width by omega) (show(0:Int)≤(y:Int) by omega) (show(y:Int)<r.height by omega);have e:x0+((y+1:Nat):Int)*r.width-r.width=x0+(y:Int)*r.width:=by
      rw[show((y+1:Nat):Int)=(y:Int)+1 by omega,Int.add_mul];omega
    rw[e];have hat:=qh9 (p:=p) (s:=x0+(y:Int)*r.width) (by omega) (by rw[h.cells];omega)
    have hge:decide (x0+(y:Int)*r.width≥0)=true:=by simp;omega
    cases hc:(cellI p (x0+(y:Int)*r.width)==0) with
    | true =>
      rw[qn (r := .inr false) (by
        unfold qct
        simp only[hge,cond_true,hat,Option.bind_some,hc])]
      simp[colF,bne,hc]
    | false =>
      rw[qx (y:=((x0+(y:Int)*r.width-r.width,()),())) (by
        unfold qct;simp only[hge,cond_true,hat,Option.bind_some,hc,cond_false]
        rw[qk (n:=x0+(y:Int)*r.width-r.2.1) (by show _≤x0+(y:Int)*r.width-r.width;omega) (by show x0+(y:Int)*r.width-r.width≤_;omega)]),qlx h hx y (by omega)]
      simp[colF,bne,hc]
theorem qqg {r:Rules} {p:Place} (h:Valid r p) {s:Int} (h0:0≤s) (h1:s<r.width*r.height):qfI r p s=some (qgZ r p s):=by
  have hr:=h.r0;have:=hr.w8;have:=hr.h8;have:=hr.w1;have:=hr.h1;have ha:=hr.area;have hd:=qob hr h0 h1;have e:=div_eq hr.w1 h0;unfold qfI qgZ;rw[qk (n:=s-r.2.1) (by show _≤s-r.width;omega) (by show s-r.width≤_;omega)];have:=qlx h hd.1 (s.tdiv r.width).toNat (by omega);rw[←e] at this;exact this
def putOk (r:Rules) (p:Place) (s:Int):Bool:=(cellI p s==0)&&(!r.falls||qgZ r p s)
def qgb (r:Rules) (p:Place) (s:Nat):List Mv:=bif putOk r p (s:Int) then(List.range (qcI p).length).flatMap (fun k:Nat=>bif decide (handI p (k:Int)>0) then [((-1:Int),((s:Int),((k:Int),())))] else []) else []
theorem fm_len1 {A:Type} (n:Nat) (F:Nat→List A) (h:∀k,(F k).length≤1):((List.range n).flatMap F).length≤n:=by
  have:=qca F 1 (List.range n) (fun k _=>h k);simpa using this
theorem qjS {r:Rules} {p:Place} (h:Valid r p) (s:Nat):(qgb r p s).length≤6:=by
  unfold qgb;cases putOk r p (s:Int)
  · simp
  · rw[cond_true];refine Nat.le_trans (fm_len1 _ _ fun k=>?_) (by rw[qk1 h];exact h.r0.t6)
    cases decide (handI p (k:Int)>0)<;>simp
theorem qch {r:Rules} {p:Place} (h:Valid r p):p.1.length≤64:=by
  have:=h.cells;have:=h.r0.area;have h1:((p.1.length:Nat):Int)=r.width*r.height:=h.cells;omega
theorem puts_spec {r:Rules} {p:Place} (h:Valid r p):qiL r p=some ((List.range p.1.length).flatMap (qgb r p)):=by
  have hr:=h.r0;have:=hr.w8;have:=hr.h8;have:=hr.w1;have:=hr.h1;have ha:=hr.area;have hlen:((p.1.length:Nat):Int)=r.width*r.height:=h.cells;have h64:=qch h
  have hh:(qcI p).length≤6:=by rw[qk1 h];exact hr.t6
  unfold qiL;rw[qjc (A:=Mv) p.1.length 6 (qeV p r) (qgb r p) (fun a=>((a,()),())) [] (fun i _=>qjS h i) (fun i hi a hal=>?_) (fun a=>?_)]
  · simp
  · unfold qeV
    have c1:decide ((i:Int)<((p.1.length:Nat):Int))=true:=by simp;omega
    have hat:=qh9 (p:=p) (s:=(i:Int)) (by omega) (by show(i:Int)<((p.1.length:Nat):Int);omega);simp only[c1,cond_true,hat,Option.bind_some];have hf:=qqg h (s:=(i:Int)) (by omega) (by omega);have hfil:(i:Int)<r.width→qgZ r p (i:Int)=true:=fun hlt=>by
      unfold qgZ;rw[Int.tdiv_eq_ediv_of_nonneg (by omega),Int.ediv_eq_zero_of_lt (by omega) hlt];rfl
    rw[hf]
    have hg:∀b c:Bool,gopt b false (some c)=some (b&&c):=fun b c=>by cases b<;>rfl
    rw[hg,Option.bind_some];have hcond:((cellI p (i:Int)!=(0:Int))||((r.2.2.2.2.2.1&&(decide ((i:Int)≥r.2.1)))&&(!(((r.2.2.2.2.2.1&&(decide ((i:Int)≥r.2.1)))&&(!(cellI p (i:Int)!=(0:Int))))&&qgZ r p (i:Int))))) = !putOk r p (i:Int):=by
      unfold putOk;rw[show r.2.2.2.2.2.1=r.falls from rfl];by_cases hlt:(i:Int)<r.width
      · rw[hfil hlt,show decide ((i:Int)≥r.2.1)=false by simp;exact hlt];simp only[bne]
        cases (cellI p (i:Int)==0)<;>cases r.falls<;>rfl
      · rw[show decide ((i:Int)≥r.2.1)=true by simp;show r.width≤(i:Int);omega];simp only[bne]
        cases (cellI p (i:Int)==0)<;>cases r.falls<;>cases qgZ r p (i:Int)<;>rfl
    rw[hcond,qk (n:=(i:Int)+1) (by omega) (by omega)];unfold qgb
    cases hp:putOk r p (i:Int) with
    | false=>simp
    | true =>
      have hin:inb p.2.2.1 2=true:=inb_iff.2 (by have:=h.turn;show 0≤p.turn∧p.turn<((2:Nat):Int);omega);simp only[Bool.not_true,cond_false,cond_true,hin,qi]
      rw[qjc (A:=Mv) (qcI p).length 1 (qeJ p ((a,(i:Int),()),())) (fun k=>bif decide (handI p (k:Int)>0) then [((-1:Int),((i:Int),((k:Int),())))] else []) (fun a=>((a,()),())) a (fun k _=>by cases decide (handI p (k:Int)>0)<;>simp) (fun k hk a2 ha2=>?_) (fun a2=>?_)]
      · rfl
      · unfold qeJ;have c2:decide ((k:Int)<(((getD' [p.2.1.1,p.2.1.2.1] (p.2.2.1).toNat []).length:Nat):Int))=true:=by
          have:k<(getD' [p.2.1.1,p.2.1.2.1] (p.2.2.1).toNat []).length:=hk;simp;exact this
        have hat2:=at_hand (p:=p) (k:=(k:Int)) (by omega) (by omega);simp only[c2,cond_true,hat2,Option.bind_some];rw[qk (n:=(k:Int)+1) (by omega) (by omega)];cases decide (handI p (k:Int)>0)
        · simp
        · have hroom:room (a2.length+[((-1:Int),((i:Int),((k:Int),())))].length) 24=true:=qav (by
            simp only[List.length_singleton,List.length_nil] at *;have:i*6≤64*6:=Nat.mul_le_mul_right _ (by omega)
            omega)
          simp only[cond_true,hroom,qi,Option.bind_some]
      · unfold qeJ;have c2:decide ((((qcI p).length:Nat):Int)<(((getD' [p.2.1.1,p.2.1.2.1] (p.2.2.1).toNat []).length:Nat):Int))=false:=by
          show decide ((((qcI p).length:Nat):Int)<(((qcI p).length:Nat):Int))=false;simp
        simp only[c2,cond_false]
  · unfold qeV;simp

def lastB (r:Rules) (pl t:Int):Bool:=bif pl==0 then t.tdiv r.width==r.height-1 else t.tdiv r.width==0
theorem qlQ {r:Rules} (hr:VR0 r) (pl:Int) {t:Int} (h0:0≤t) (h1:t<r.width*r.height):qd4 r pl t=some (lastB r pl t):=by
  have:=hr.w8;have:=hr.h8;have:=hr.w1;have:=hr.h1;have hd:=qob hr h0 h1;have hq:(r.2.1 !=0)=true:=bne_t (by show ¬r.width=0;omega);have w1:w64 (t.tdiv r.2.1)=t.tdiv r.width:=qk (by show _≤t.tdiv r.width;omega) (by show t.tdiv r.width≤_;omega);have w2:w64 (r.2.2.1-1)=r.height-1:=qk (by show _≤r.height-1;omega) (by show r.height-1≤_;omega);unfold qd4 lastB;rw[hq,qi,qi,w1,w2];exact qcq _ _ _
def qcp (r:Rules) (k:Int):Piece:=r.pieces.getD k.toNat (0,0,0,[],())
theorem qnV {r:Rules} {k:Int} (h0:0≤k) (h1:k<((r.pieces.length:Nat):Int)):at? r.2.2.2.1 k=some (qcp r k)∧qcp r k∈r.pieces:=by
  have h1':k<((r.2.2.2.1.length:Nat):Int):=h1;rw[at?_eq r.2.2.2.1 k h0 h1];unfold qcp;rw[List.getD_eq_getElem?_getD,List.getElem?_eq_getElem (by show k.toNat<r.2.2.2.1.length;omega)];exact⟨rfl,List.getElem_mem _⟩
def qb9 (c:Int):Int:=(c-1).tdiv 2
theorem qi2 {r:Rules} {p:Place} (h:Valid r p) {s:Int} (hm:cellI p s>0):w64 ((w64 (cellI p s-1)).tdiv 2)=qb9 (cellI p s)∧0≤qb9 (cellI p s)∧qb9 (cellI p s)<((r.pieces.length:Nat):Int):=by
  have hc:=qqY h s;have ht:=h.r0.t6;rw[qk (n:=cellI p s-1) (by omega) (by omega)];unfold qb9;rw[Int.tdiv_eq_ediv_of_nonneg (by omega)];refine⟨qk (by omega) (by omega),by omega,by omega⟩
def becomes (r:Rules) (p:Place) (k t:Int):Int:=bif decide ((qcp r k).2.2.1>0)&&lastB r p.turn t then(qcp r k).2.2.1-1 else k
def goAt (r:Rules) (p:Place) (s:Nat):List Mv:=bif mineB p (cellI p (s:Int)) then(qcp r (qb9 (cellI p (s:Int)))).2.2.2.1.flatMap (fun w=>(wayS r p (s:Int) w).map fun t=>((s:Int),(t,(becomes r p (qb9 (cellI p (s:Int))) t,())))) else []
theorem qiH {A C:Type} (l:List C) (F:C→List A) (d:C):(List.range l.length).flatMap (fun i=>F (l.getD i d))=l.flatMap F:=by
  induction l with
  | nil=>rfl
  | cons x l ih =>
    rw[List.length_cons,List.range_succ_eq_map,List.flatMap_cons,List.flatMap_cons,List.flatMap_map]
    have e:(fun a=>F ((x::l).getD a.succ d))=fun i=>F (l.getD i d):=by funext i;simp
    rw[e,ih];rfl
theorem map_range {A C:Type} (l:List C) (F:C→A) (d:C):(List.range l.length).flatMap (fun i=>[F (l.getD i d)])=l.map F:=by
  rw[qiH l (fun x=>[F x]) d]
  induction l with
  | nil=>rfl
  | cons x l ih=>rw[List.flatMap_cons,List.map_cons,ih];rfl
theorem qqv {r:Rules} {p:Place} {s:Int} {w:RWay} (hw:WayOk w):(wayS r p s w).length≤7:=by
  obtain⟨_,_,_,h4,_⟩:=hw;exact Nat.le_trans (qra _ _ _ _ _ _) (by omega)
theorem qri {r:Rules} {p:Place} (h:Valid r p) (s:Nat):(goAt r p s).length≤112:=by
  unfold goAt
  cases hm:mineB p (cellI p (s:Int)) with
  | false=>simp
  | true =>
    have hc:cellI p (s:Int)>0:=by unfold mineB at hm;simp at hm;exact hm.1
    have hk:=qi2 h hc;have hmem:=(qnV (r:=r) hk.2.1 hk.2.2).2;rw[cond_true];refine Nat.le_trans (qca _ 7 _ fun w hw=>?_) ?_
    · rw[List.length_map];exact qqv (h.wayOk hmem hw)
    · have:=h.r0.ways _ hmem;omega
def qdq (r:Rules) (p:Place):List Mv:=(List.range p.1.length).flatMap (qgb r p)++(List.range p.1.length).flatMap (goAt r p)
theorem list_raw {r:Rules} {p:Place} (h:Valid r p):iterW (qdw p r) (((List.range p.1.length).flatMap (qgb r p),(0:Int),()),())=some ((qdq r p,()),()):=by
  have hr:=h.r0;have:=hr.w8;have:=hr.h8;have:=hr.w1;have:=hr.h1;have ha:=hr.area;have hlen:((p.1.length:Nat):Int)=r.width*r.height:=h.cells;have h64:=qch h;have hpl:((List.range p.1.length).flatMap (qgb r p)).length≤64*6:=by
    refine Nat.le_trans (qca _ 6 _ fun i _=>qjS h i) ?_;rw[List.length_range];exact Nat.mul_le_mul_right _ h64
  unfold qdq;generalize (List.range p.1.length).flatMap (qgb r p)=pl at hpl;refine qjc (A:=Mv) p.1.length 112 (qdw p r) (goAt r p) (fun a=>((a,()),())) pl (fun i _=>qri h i) (fun i hi a hal=>?_) (fun a=>?_)
  · have hal2:a.length≤64*6+64*112:=by
      have:i*112≤64*112:=Nat.mul_le_mul_right _ (by omega);omega
    unfold qdw
    have c1:decide ((i:Int)<((p.1.length:Nat):Int))=true:=by simp;omega
    have hat:=qh9 (p:=p) (s:=(i:Int)) (by omega) (by show(i:Int)<((p.1.length:Nat):Int);omega);have hc:=qjY h (i:Int)
    have hi2:(i:Int)<r.width*r.height:=by omega
    simp only[c1,cond_true,hat,Option.bind_some,show ∀b,imp b true=true from fun b=>by cases b<;>rfl,qi]
    have hcond:((cellI p (i:Int)==(0:Int))||(((w64 (cellI p (i:Int)-(1:Int))).tmod (2:Int))!=p.2.2.1)) = !mineB p (cellI p (i:Int)):=by
      rw[qk (n:=cellI p (i:Int)-1) (by omega) (by omega)];unfold mineB;rw[show p.turn=p.2.2.1 from rfl];by_cases hz:cellI p (i:Int)=0
      · simp[hz]
      · rw[beq_f hz,show decide (cellI p (i:Int)>0)=true by simp;omega];simp[bne]
    rw[hcond,qk (n:=(i:Int)+1) (by omega) (by omega)];unfold goAt
    cases hm:mineB p (cellI p (i:Int)) with
    | false=>simp
    | true =>
      have hcp:cellI p (i:Int)>0:=by unfold mineB at hm;simp at hm;exact hm.1
      have hk:=qi2 h hcp;obtain⟨hpa,hmem⟩:=qnV (r:=r) hk.2.1 hk.2.2;simp only[Bool.not_true,cond_false,hk.1,hpa,Option.bind_some,cond_true];generalize hK:qb9 (cellI p (i:Int))=K at *;have hways:=h.r0.ways _ hmem;have hWl:(qcp r K).2.2.2.1.length≤16:=hways;rw[qjc (A:=Mv) (qcp r K).2.2.2.1.length 7 (qeI (qcp r K) r p ((a,(i:Int),()),()) (cellI p (i:Int))) (fun j=>(wayS r p (i:Int) ((qcp r K).2.2.2.1.getD j (0,0,0,0,()))).map fun t=>((i:Int),(t,(becomes r p K t,())))) (fun a=>((a,()),())) a (fun j hj=>?_) (fun j hj a2 ha2=>?_) (fun a2=>?_)]
      · rw[qiH (qcp r K).2.2.2.1 (fun w=>(wayS r p (i:Int) w).map fun t=>((i:Int),(t,(becomes r p K t,())))) (0,0,0,0,())];rfl
      · rw[List.length_map,List.getD_eq_getElem?_getD,List.getElem?_eq_getElem hj];exact qqv (h.wayOk hmem (List.getElem_mem hj))
      · have ha22:a2.length≤64*6+64*112+112:=by
          have:j*7≤16*7:=Nat.mul_le_mul_right _ (by omega);omega
        unfold qeI
        have c2:decide ((j:Int)<(((qcp r K).2.2.2.1.length:Nat):Int))=true:=by simp;omega
        have hatw:at? (qcp r K).2.2.2.1 (j:Int)=some ((qcp r K).2.2.2.1.getD j (0,0,0,0,())):=by
          rw[at?_eq _ _ (by omega) (by omega),List.getD_eq_getElem?_getD,List.getElem?_eq_getElem hj];rfl
        have hwm:(qcp r K).2.2.2.1.getD j (0,0,0,0,())∈(qcp r K).2.2.2.1:=by
          rw[List.getD_eq_getElem?_getD,List.getElem?_eq_getElem hj];exact List.getElem_mem hj
        have hwo:=h.wayOk hmem hwm;simp only[c2,cond_true,hatw,Option.bind_some];generalize (qcp r K).2.2.2.1.getD j (0,0,0,0,())=w at *;rw[way_spec h hwo (by omega) hi2,Option.bind_some];have hwl:=qqv (r:=r) (p:=p) (s:=(i:Int)) hwo;have hwr:∀t∈wayS r p (i:Int) w,0≤t∧t<r.width*r.height:=fun t ht=>qmn hr ht;generalize wayS r p (i:Int) w=T at *;rw[qjc (A:=Mv) T.length 1 (qe2 T r (cellI p (i:Int)) p ((a,(i:Int),()),())) (fun t=>[((i:Int),(T.getD t 0,(becomes r p K (T.getD t 0),())))]) (fun a=>((a,()),())) a2 (fun _ _=>by simp) (fun t ht a3 ha3=>?_) (fun a3=>?_)]
        · rw[map_range T (fun t=>((i:Int),(t,(becomes r p K t,())))) 0];simp only[Option.bind_some];rw[qk (n:=(j:Int)+1) (by omega) (by omega)]
        · unfold qe2
          have c3:decide ((t:Int)<((T.length:Nat):Int))=true:=by simp;omega
          have c4:inb (t:Int) T.length=true:=inb_iff.2 ⟨by omega,by omega⟩;have hg:getD' T t (0:Int)=T.getD t 0:=rfl;have htr:=hwr (T.getD t 0) (by rw[List.getD_eq_getElem?_getD,List.getElem?_eq_getElem ht];exact List.getElem_mem ht);simp only[c3,cond_true,c4,qi,hk.1,hpa,Option.bind_some,Int.toNat_natCast,hg];generalize T.getD t 0=tt at *;rw[qlQ hr p.2.2.1 htr.1 htr.2];have hpr:=h.r0.prom _ hmem;have ht6:=h.r0.t6
          have hgo:∀b c:Bool,gopt b false (some c)=some (b&&c):=fun b c=>by cases b<;>rfl
          rw[hgo,Option.bind_some,qk (n:=(qcp r K).2.2.1-1) (by omega) (by omega),qk (n:=(t:Int)+1) (by omega) (by omega)];unfold becomes;rw[show p.turn=p.2.2.1 from rfl];have hroom:room (a3.length+1) 24=true:=qav (by omega)
          cases decide ((qcp r K).2.2.1>0)<;>cases lastB r p.2.2.1 tt<;>simp[hroom,qi]
        · unfold qe2;simp
      · unfold qeI;simp
  · unfold qdw;simp
theorem raw_len {r:Rules} {p:Place} (h:Valid r p):(qdq r p).length≤10000:=by
  have h64:=qch h;unfold qdq;rw[List.length_append];have h1:((List.range p.1.length).flatMap (qgb r p)).length≤64*6:=by
    refine Nat.le_trans (qca _ 6 _ fun i _=>qjS h i) ?_;rw[List.length_range];exact Nat.mul_le_mul_right _ h64
  have h2:((List.range p.1.length).flatMap (goAt r p)).length≤64*112:=by
    refine Nat.le_trans (qca _ 112 _ fun i _=>qri h i) ?_;rw[List.length_range];exact Nat.mul_le_mul_right _ h64
  omega
theorem list_dd {r:Rules} {p:Place} (h:Valid r p):qam r p=some (dd (qb6 (qdq r p))):=by
  unfold qam;rw[puts_spec h,Option.bind_some,list_raw h,Option.bind_some];have hl:=raw_len h;have hb:Nat.blt (qdq r p).length 4611686018427387904=true:=by
    rw[Nat.blt_eq];omega
  simp only[hb,qi];have hs:=sort_len (qdq r p);generalize qb6 (qdq r p)=xs at hs;by_cases h2:xs.length<2
  · have c:decide (((xs.length:Nat):Int)<2)=true:=by simp;omega
    rw[c,cond_true];have:dd xs=xs:=by
      match xs,h2 with
      | [],_=>rfl
      | [x],_=>rfl
    rw[this];rfl
  · have c:decide (((xs.length:Nat):Int)<2)=false:=by simp;omega
    rw[c,cond_false,compact4 xs (by omega) (by omega)];rfl

def mvOk (r:Rules) (p:Place) (m:Mv):Bool:=decide ((-1≤m.1∧m.1<((p.1.length:Nat):Int))∧(0≤m.2.1∧m.2.1<((p.1.length:Nat):Int))∧(0≤m.2.2.1∧m.2.2.1<((r.pieces.length:Nat):Int)))
def goOk (r:Rules) (p:Place) (m:Mv):Bool:=mineB p (cellI p m.1)&&((becomes r p (qb9 (cellI p m.1)) m.2.1==m.2.2.1)&&(qcp r (qb9 (cellI p m.1))).2.2.2.1.any (fun w=>decide (m.2.1∈wayS r p m.1 w)))
def qN (r:Rules) (p:Place) (m:Mv):Bool:=mvOk r p m&&(bif m.1 == -1 then decide (handI p m.2.2.1>0)&&putOk r p m.2.1 else goOk r p m)
def at3 (r:Rules) (p:Place) (i j k:Nat):List Mv:=bif qN r p ((i:Int)-1,((j:Int),((k:Int),()))) then [((i:Int)-1,((j:Int),((k:Int),())))] else []
def at2 (r:Rules) (p:Place) (i j:Nat):List Mv:=(List.range r.2.2.2.1.length).flatMap (at3 r p i j)
def at1 (r:Rules) (p:Place) (i:Nat):List Mv:=(List.range p.1.length).flatMap (at2 r p i)
def qc (r:Rules) (p:Place):List Mv:=(List.range (p.1.length+1)).flatMap (at1 r p)
theorem at3_len (r:Rules) (p:Place) (i j k:Nat):(at3 r p i j k).length≤1:=by unfold at3;cases qN r p ((i:Int)-1,((j:Int),((k:Int),())))<;>simp
theorem at2_len {r:Rules} {p:Place} (h:Valid r p) (i j:Nat):(at2 r p i j).length≤6:=Nat.le_trans (fm_len1 _ _ (at3_len r p i j)) h.r0.t6
theorem at1_len {r:Rules} {p:Place} (h:Valid r p) (i:Nat):(at1 r p i).length≤384:=by
  refine Nat.le_trans (qca _ 6 _ fun j _=>at2_len h i j) ?_;have:=qch h;rw[List.length_range];omega
theorem qnU (n:Nat) (F:Nat→List Mv) (h1:∀i,i<n→(F i).Pairwise (fun x y=>mvLt x y=true)) (h2:∀i j,i<j→∀x∈F i,∀y∈F j,mvLt x y=true):((List.range n).flatMap F).Pairwise (fun x y=>mvLt x y=true):=by
  rw[List.pairwise_flatMap];exact⟨fun i hi=>h1 i (List.mem_range.1 hi),List.pairwise_lt_range.imp fun hij=>h2 _ _ hij⟩
theorem qqi {r:Rules} {p:Place} {i j k:Nat} {x:Mv} (h:x∈at3 r p i j k):x=((i:Int)-1,((j:Int),((k:Int),())))∧qN r p x=true:=by
  unfold at3 at h
  cases hb:qN r p ((i:Int)-1,((j:Int),((k:Int),()))) with
  | false=>simp[hb] at h
  | true =>
    rw[hb,cond_true,List.mem_singleton] at h;rw[h];exact⟨rfl,hb⟩
theorem qqI {r:Rules} {p:Place} {i j:Nat} {x:Mv} (h:x∈at2 r p i j):x.1=(i:Int)-1∧x.2.1=(j:Int)∧qN r p x=true:=by
  obtain⟨k,_,hk⟩:=List.mem_flatMap.1 h;obtain⟨e,h2⟩:=qqi hk;refine⟨by rw[e],by rw[e],h2⟩
theorem qp8 {r:Rules} {p:Place} {i:Nat} {x:Mv} (h:x∈at1 r p i):x.1=(i:Int)-1∧qN r p x=true:=by
  obtain⟨j,_,hj⟩:=List.mem_flatMap.1 h;obtain⟨h1,_,h3⟩:=qqI hj;exact⟨h1,h3⟩
theorem qin {r:Rules} {p:Place} (x:Mv):x∈qc r p↔qN r p x=true:=by
  constructor
  · intro h;obtain⟨i,_,hi⟩:=List.mem_flatMap.1 h;exact(qp8 hi).2
  · intro h
    have hok:mvOk r p x=true:=by unfold qN at h;simp only[Bool.and_eq_true] at h;exact h.1
    unfold mvOk at hok;rw[decide_eq_true_eq] at hok;obtain⟨⟨a1,a2⟩,⟨b1,b2⟩,c1,c2⟩:=hok;have c2':x.2.2.1<((r.2.2.2.1.length:Nat):Int):=c2;have e:(((((x.1+1).toNat:Nat):Int)-1,(((x.2.1.toNat:Nat):Int),(((x.2.2.1.toNat:Nat):Int),()))):Mv)=x:=mv_eq (by show(((x.1+1).toNat:Nat):Int)-1=x.1;omega) (by show((x.2.1.toNat:Nat):Int)=x.2.1;omega) (by show((x.2.2.1.toNat:Nat):Int)=x.2.2.1;omega);refine List.mem_flatMap.2 ⟨(x.1+1).toNat,List.mem_range.2 (by omega),List.mem_flatMap.2 ⟨x.2.1.toNat,List.mem_range.2 (by omega),List.mem_flatMap.2 ⟨x.2.2.1.toNat,List.mem_range.2 (by omega),?_⟩⟩⟩;unfold at3;rw[e,h,cond_true,List.mem_singleton]
theorem qrL (r:Rules) (p:Place):(qc r p).Pairwise (fun x y=>mvLt x y=true):=by
  refine qnU _ _ (fun i _=>qnU _ _ (fun j _=>qnU _ _ (fun k _=>?_) fun k k' hk x hx y hy=>?_) fun j j' hj x hx y hy=>?_) fun i i' hi x hx y hy=>?_
  · unfold at3
    cases qN r p ((i:Int)-1,((j:Int),((k:Int),())))<;>simp
  · obtain⟨ex,_⟩:=qqi hx;obtain⟨ey,_⟩:=qqi hy
    have e1:x.1=(i:Int)-1:=by rw[ex]
    have e2:x.2.1=(j:Int):=by rw[ex]
    have e3:x.2.2.1=(k:Int):=by rw[ex]
    have f1:y.1=(i:Int)-1:=by rw[ey]
    have f2:y.2.1=(j:Int):=by rw[ey]
    have f3:y.2.2.1=(k':Int):=by rw[ey]
    rw[qlF];omega
  · obtain⟨e1,e2,_⟩:=qqI hx;obtain⟨f1,f2,_⟩:=qqI hy;rw[qlF];omega
  · obtain⟨e1,_⟩:=qp8 hx;obtain⟨f1,_⟩:=qp8 hy;rw[qlF];omega
theorem raw_mem {r:Rules} {p:Place} (h:Valid r p) (x:Mv):x∈qdq r p↔qN r p x=true:=by
  have hr:=h.r0;have hlen:((p.1.length:Nat):Int)=r.width*r.height:=h.cells;have hh:=qk1 h;unfold qdq;rw[List.mem_append];constructor
  · rintro (hx | hx)
    · obtain⟨s,hs,hx⟩:=List.mem_flatMap.1 hx;rw[List.mem_range] at hs;unfold qgb at hx
      cases hp:putOk r p (s:Int) with
      | false=>simp[hp] at hx
      | true =>
        rw[hp,cond_true] at hx;obtain⟨k,hk,hx⟩:=List.mem_flatMap.1 hx;rw[List.mem_range] at hk
        cases hd:decide (handI p (k:Int)>0) with
        | false=>simp[hd] at hx
        | true =>
          rw[hd,cond_true,List.mem_singleton] at hx;have hok:mvOk r p x=true:=by
            unfold mvOk;rw[decide_eq_true_eq,hx];simp only;omega
          unfold qN;rw[hok,Bool.true_and,hx];simp only[beq_t rfl,cond_true,hd,hp,Bool.and_self]
    · obtain⟨s,hs,hx⟩:=List.mem_flatMap.1 hx;rw[List.mem_range] at hs;unfold goAt at hx
      cases hm:mineB p (cellI p (s:Int)) with
      | false=>simp[hm] at hx
      | true =>
        have hcp:cellI p (s:Int)>0:=by unfold mineB at hm;simp at hm;exact hm.1
        have hk:=qi2 h hcp;obtain⟨hpa,hmem⟩:=qnV (r:=r) hk.2.1 hk.2.2;rw[hm,cond_true] at hx;obtain⟨w,hw,hx⟩:=List.mem_flatMap.1 hx;obtain⟨t,ht,hx⟩:=List.mem_map.1 hx;have htr:0≤t∧t<r.width*r.height:=qmn hr ht;have hpr:=hr.prom _ hmem;have hbr:0≤becomes r p (qb9 (cellI p (s:Int))) t∧becomes r p (qb9 (cellI p (s:Int))) t<((r.pieces.length:Nat):Int):=by
          unfold becomes
          cases hb:(decide ((qcp r (qb9 (cellI p (s:Int)))).2.2.1>0)&&lastB r p.turn t) with
          | false=>exact hk.2
          | true =>
            simp only[Bool.and_eq_true,decide_eq_true_eq] at hb;rw[cond_true];omega
        have hok:mvOk r p x=true:=by
          unfold mvOk;rw[decide_eq_true_eq,←hx];simp only;omega
        unfold qN goOk;rw[hok,Bool.true_and,←hx];simp only;rw[beq_f (by omega),cond_false,hm,Bool.true_and,beq_t rfl,Bool.true_and,List.any_eq_true];exact⟨w,hw,by simpa using ht⟩
  · intro hx;unfold qN at hx;rw[Bool.and_eq_true] at hx;obtain⟨hok,hx⟩:=hx;unfold mvOk at hok;rw[decide_eq_true_eq] at hok;obtain⟨⟨a1,a2⟩,⟨b1,b2⟩,c1,c2⟩:=hok;by_cases hm:x.1 = -1
    · rw[beq_t hm,cond_true,Bool.and_eq_true] at hx;left
      have e1:((x.2.1.toNat:Nat):Int)=x.2.1:=by omega
      have e2:((x.2.2.1.toNat:Nat):Int)=x.2.2.1:=by omega
      refine List.mem_flatMap.2 ⟨x.2.1.toNat,List.mem_range.2 (by omega),?_⟩;unfold qgb;rw[e1,hx.2,cond_true];refine List.mem_flatMap.2 ⟨x.2.2.1.toNat,List.mem_range.2 (by omega),?_⟩;rw[e2,hx.1,cond_true,List.mem_singleton];exact mv_eq hm rfl rfl
    · rw[beq_f hm,cond_false] at hx;unfold goOk at hx;simp only[Bool.and_eq_true,beq_iff_eq,List.any_eq_true,decide_eq_true_eq] at hx;obtain⟨h1,h2,w,hw,ht⟩:=hx;right
      have e1:((x.1.toNat:Nat):Int)=x.1:=by omega
      refine List.mem_flatMap.2 ⟨x.1.toNat,List.mem_range.2 (by omega),?_⟩;unfold goAt;rw[e1,h1,cond_true];refine List.mem_flatMap.2 ⟨w,hw,List.mem_map.2 ⟨x.2.1,ht,?_⟩⟩;exact mv_eq rfl rfl h2
theorem qdG {r:Rules} {p:Place} (h:Valid r p):qam r p=some (qc r p):=by
  rw[list_dd h];congr 1;refine qpy (dd_lt (sort_pw _)) (qrL r p) fun z=>?_;rw[dd_mem,sort_mem,raw_mem h,qin]

def own (r:Rules) (p:Place) (pl x y:Int):Bool:=onB r x y&&(decide (cellI p (sq r x y)>0)&&((cellI p (sq r x y)-1).tmod 2==pl))
def runB (r:Rules) (p:Place) (pl:Int) (n:Nat) (x y dx dy:Int):Bool:=(List.range n).all fun i=>own r p pl (x+(i:Int)*dx) (y+(i:Int)*dy)
theorem runB_cons (r:Rules) (p:Place) (pl:Int) (n:Nat) (x y dx dy:Int):runB r p pl (n+1) x y dx dy=(own r p pl x y&&runB r p pl n (x+dx) (y+dy) dx dy):=by
  unfold runB;rw[List.range_succ_eq_map,List.all_cons,List.all_map];have e:((fun i:Nat=>own r p pl (x+(i:Int)*dx) (y+(i:Int)*dy))∘Nat.succ)=fun i:Nat=>own r p pl (x+dx+(i:Int)*dx) (y+dy+(i:Int)*dy):=by
    funext i;simp only[Function.comp]
    have e1:x+((i.succ:Nat):Int)*dx=x+dx+(i:Int)*dx:=by rw[show((i.succ:Nat):Int)=(i:Int)+1 by omega,Int.add_mul];omega
    have e2:y+((i.succ:Nat):Int)*dy=y+dy+(i:Int)*dy:=by rw[show((i.succ:Nat):Int)=(i:Int)+1 by omega,Int.add_mul];omega
    rw[e1,e2]
  rw[e];simp
theorem own_on {r:Rules} {p:Place} {pl x y:Int} (h:own r p pl x y=true):onB r x y=true:=by unfold own at h;rw[Bool.and_eq_true] at h;exact h.1
abbrev dX (d:Nat):Int:=getD' [(1:Int),(0:Int),(1:Int),(1:Int)] d 0
abbrev dY (d:Nat):Int:=getD' [(0:Int),(1:Int),(1:Int),(-1:Int)] d 0
def lineB (r:Rules) (p:Place) (pl c:Int):Bool:=(List.range p.1.length).any fun s=>(List.range 4).any fun d=>runB r p pl c.toNat ((s:Int).tmod r.width) ((s:Int).tdiv r.width) (dX d) (dY d)
theorem dX_rng (d:Nat) : -1≤dX d∧dX d≤1:=by
  match d with
  | 0=>decide
  | 1=>decide
  | 2=>decide
  | 3=>decide
  | n+4=>simp[dX,getD']
theorem dY_rng (d:Nat) : -1≤dY d∧dY d≤1:=by
  match d with
  | 0=>decide
  | 1=>decide
  | 2=>decide
  | 3=>decide
  | n+4=>simp[dY,getD']
theorem line3 {r:Rules} {p:Place} (h:Valid r p) {pl c:Int} (d:Nat) (hc:c≤64):∀(m:Nat) (x y n:Int),0≤n→n+m=c→(-1≤x∧x≤8)→(-1≤y∧y≤8) →
    ∃n',iterW (qd6 c r p pl (((d:Int),()),())) ((x,y,n,()),())=some ((n',()),())∧(n'==c)=runB r p pl m x y (dX d) (dY d)
  | 0,x,y,n,h0,hn,hx,hy=>by
    refine⟨n,qn ?_,?_⟩
    · unfold qd6
      have:decide (n<c)=false:=by simp;omega
      simp only[this,cond_false,Option.bind_some]
    · rw[beq_t (by omega)];rfl
  | m+1,x,y,n,h0,hn,hx,hy=>by
    have hr:=h.r0;have:=hr.w8;have:=hr.h8;have:=hr.w1;have:=hr.h1;have ha:=hr.area
    have hlt:decide (n<c)=true:=by simp;omega
    have hoff:((((decide (x<(0:Int)))||(decide (x≥r.2.1)))||(decide (y<(0:Int))))||(decide (y≥r.2.2.1))) = !onB r x y:=by
      rw[Bool.eq_iff_iff];simp only[Bool.or_eq_true,decide_eq_true_eq,Bool.not_eq_true',onB,decide_eq_false_iff_not];show((x<0∨x≥r.width)∨y<0)∨y≥r.height↔_;omega
    have hown:(bif (decide (n<c)) then(bif ((((decide (x<(0:Int)))||(decide (x≥r.2.1)))||(decide (y<(0:Int))))||(decide (y≥r.2.2.1))) then some ((false,()),())
        else Option.bind (at? p.1 (w64 ((w64 (y*r.2.1))+x))) fun d4 =>
        req (imp (decide (d4>(0:Int))) true) (some ((((decide (d4>(0:Int)))&&(((w64 (d4-(1:Int))).tmod (2:Int))==pl)),()),())))
        else some ((false,()),()))=some ((own r p pl x y,()),()):=by
      rw[hlt,cond_true,hoff];unfold own
      cases hb:onB r x y with
      | false=>rfl
      | true =>
        have hs:=qrm hr hb;obtain⟨b1,b2,b3,b4⟩:=onB_iff.1 hb;have hmul:=qnT (show 0≤r.width by omega) b3 b4;have w1:w64 (y*r.2.1)=y*r.2.1:=qk (by show _≤y*r.width;omega) (by show y*r.width≤_;omega);have w2:w64 (y*r.2.1+x)=sq r x y:=qk (by show _≤sq r x y;omega) (by show sq r x y≤_;omega);have hcs:=qjY h (sq r x y);rw[w1,w2,qh9 (p:=p) hs.1 (by rw[h.cells];exact hs.2)]
        simp only[Bool.not_true,cond_false,Option.bind_some,show ∀b,imp b true=true from fun b=>by cases b<;>rfl,qi,Bool.true_and]
        rw[qk (n:=cellI p (sq r x y)-1) (by omega) (by omega)]
    rw[runB_cons]
    cases ho:own r p pl x y with
    | false =>
      refine⟨n,qn ?_,?_⟩
      · unfold qd6;rw[hown,ho];rfl
      · rw[beq_f (by omega)];rfl
    | true =>
      obtain⟨b1,b2,b3,b4⟩:=onB_iff.1 (own_on ho);have r1:=dX_rng d;have r2:=dY_rng d;obtain⟨n',e1,e2⟩:=line3 h (pl:=pl) d hc m (x+dX d) (y+dY d) (n+1) (by omega) (by omega) (by omega) (by omega);refine⟨n',?_,by rw[e2];simp⟩
      rw[qx (y:=((x+dX d,y+dY d,n+1,()),())) (by
        unfold qd6;rw[hown,ho];simp only[Option.bind_some,cond_true,Int.toNat_natCast]
        rw[qk (n:=x+dX d) (by omega) (by omega),qk (n:=y+dY d) (by omega) (by omega),qk (n:=n+1) (by omega) (by omega)])]
      exact e1
theorem line_spec {r:Rules} {p:Place} (h:Valid r p) (pl:Int) {c:Int} (hc1:1≤c) (hc:c≤64):qk0 r p pl c=some (lineB r p pl c):=by
  have hr:=h.r0;have:=hr.w8;have:=hr.h8;have:=hr.w1;have:=hr.h1;have ha:=hr.area;have hlen:((p.1.length:Nat):Int)=r.width*r.height:=h.cells;have hq:(r.2.1 !=0)=true:=bne_t (by show ¬r.width=0;omega);unfold qk0
  have hL:=qcO (List.range p.1.length) (fun s=>(List.range 4).any fun d=>runB r p pl c.toNat ((s:Int).tmod r.width) ((s:Int).tdiv r.width) (dX d) (dY d)) (qf3 p r c pl) (.inr true) (.inl ((),())) (fun s hs=>by
    have hs':s<p.1.length:=by simpa using hs
    have hdv:=qob hr (show(0:Int)≤(s:Int) by omega) (show(s:Int)<r.width*r.height by omega)
    have hL2:=qcO (List.range 4) (fun d=>runB r p pl c.toNat ((s:Int).tmod r.width) ((s:Int).tdiv r.width) (dX d) (dY d)) (qfR r c p pl (((s:Int),()),())) (.inr (.inr (.inr (.inr true)))) (.inl ((),())) (fun d hd=>by
      have hd':d<4:=by simpa using hd
      have w1:w64 ((s:Int).tdiv r.2.1)=(s:Int).tdiv r.width:=qk (by show _≤(s:Int).tdiv r.width;omega) (by show(s:Int).tdiv r.width≤_;omega);obtain⟨n',e1,e2⟩:=line3 h (pl:=pl) (c:=c) d hc c.toNat ((s:Int).tmod r.width) ((s:Int).tdiv r.width) 0 (by omega) (by omega) (by omega) (by omega);unfold qfR;simp only[show decide ((d:Int)<4)=true by simp;omega,cond_true,show inb (d:Int) 4=true from inb_iff.2 ⟨by omega,by omega⟩,qi,hq,w1];rw[show((s:Int).tmod r.2.1)=(s:Int).tmod r.width from rfl,e1,Option.bind_some];simp only[List.getElem_range];rw[←e2,qk (n:=(d:Int)+1) (by omega) (by omega)]
      cases (n'==c)<;>rfl) (by
      unfold qfR
      rfl)
    unfold qf3;simp only[show decide ((s:Int)<((p.1.length:Nat):Int))=true by simp;omega,cond_true,List.getElem_range];rw[hL2,qk (n:=(s:Int)+1) (by omega) (by omega)]
    cases (List.range 4).any (fun d=>runB r p pl c.toNat ((s:Int).tmod r.width) ((s:Int).tdiv r.width) (dX d) (dY d))<;>rfl) (by
    unfold qf3
    simp)
  rw[hL];unfold lineB
  cases (List.range p.1.length).any (fun s=>(List.range 4).any fun d=>runB r p pl c.toNat ((s:Int).tmod r.width) ((s:Int).tdiv r.width) (dX d) (dY d))<;>rfl

def reachB (r:Rules) (p:Place) (x:End) (mover:Int):Bool:=(List.range p.1.length).any fun s=>(cellI p (s:Int)==2*x.2.1+mover+1)&&lastB r mover (s:Int)
def fewOf (p:Place) (x:End) (mover:Int):Int:=((p.1.countP (fun c=>c==2*x.2.1+1-mover+1):Nat):Int)
def metB (r:Rules) (p:Place) (x:End) (mover:Int):Bool:=bif x.1==0 then lineB r p mover x.2.2.1 else bif x.1==1 then reachB r p x mover else decide (fewOf p x mover<x.2.2.1)
structure EndOk (r:Rules) (x:End):Prop where
  kind:0≤x.1∧x.1≤2
  cnt:x.1=0→1≤x.2.2.1∧x.2.2.1≤64
  pc:0≤x.2.1∧x.2.1≤6
theorem Valid.endOk {r:Rules} {p:Place} (h:Valid r p) {x:End} (hx:x∈r.ends):EndOk r x:=by
  obtain⟨h1,h2,h3⟩:=h.r0.ends x hx;have ht:=h.r0.t6;refine⟨h1,fun e=>?_,?_⟩
  · rw[if_neg (by omega)] at h2;exact h2
  · split at h3<;>omega
theorem cell_get (p:Place) (i:Nat) (hi:i<p.1.length):cellI p (i:Int)=p.1[i]:=by
  unfold cellI;rw[List.getD_eq_getElem?_getD,Int.toNat_natCast];simp[hi]
theorem qsg {r:Rules} {p:Place} (h:Valid r p) {x:End} (hx:EndOk r x) {mover:Int} (hm:mover=0∨mover=1):qiu r p x mover=some (metB r p x mover):=by
  have hr:=h.r0;have ha:=hr.area;have h64:=qch h;have hlen:((p.1.length:Nat):Int)=r.width*r.height:=h.cells;have hp:=hx.pc;unfold qiu metB;by_cases k0:x.1=0
  · rw[beq_t k0,cond_true,cond_true,line_spec h mover (hx.cnt k0).1 (hx.cnt k0).2];rfl
  · rw[beq_f k0,cond_false,cond_false];by_cases k1:x.1=1
    · rw[beq_t k1,cond_true,cond_true]
      have hL:=qcO (List.range p.1.length) (fun s=>(cellI p (s:Int)==2*x.2.1+mover+1)&&lastB r mover (s:Int)) (qeA p x mover r) (.inr (.inr true)) (.inl ((),())) (fun s hs=>by
        have hs':s<p.1.length:=by simpa using hs
        unfold qeA;simp only[show decide ((s:Int)<((p.1.length:Nat):Int))=true by simp;omega,cond_true,List.getElem_range];rw[qh9 (p:=p) (s:=(s:Int)) (by omega) (by show(s:Int)<((p.1.length:Nat):Int);omega),Option.bind_some,qlQ hr mover (by omega) (by omega)];rw[qk (n:=2*x.2.1) (by omega) (by omega),qk (n:=2*x.2.1+mover) (by omega) (by omega),qk (n:=2*x.2.1+mover+1) (by omega) (by omega),qk (n:=(s:Int)+1) (by omega) (by omega)]
        cases (cellI p (s:Int)==2*x.2.1+mover+1)<;>cases lastB r mover (s:Int)<;>rfl) (by
        unfold qeA
        simp)
      rw[hL];unfold reachB
      cases (List.range p.1.length).any (fun s=>(cellI p (s:Int)==2*x.2.1+mover+1)&&lastB r mover (s:Int))<;>rfl
    · rw[beq_f k1,cond_false,cond_false,Option.bind_some,Sum.elim_inl]
      have hL:=qm5 p.1 (fun c=>c==2*x.2.1+1-mover+1) (qeX p x mover) (fun c=>((c,()),())) (fun i hi c c0 ci=>by
        unfold qeX;simp only[show decide ((i:Int)<((p.1.length:Nat):Int))=true by simp;omega,cond_true];rw[qh9 (p:=p) (s:=(i:Int)) (by omega) (by show(i:Int)<((p.1.length:Nat):Int);omega),Option.bind_some,cell_get p i hi];rw[qk (n:=2*x.2.1) (by omega) (by omega),qk (n:=2*x.2.1+1) (by omega) (by omega),qk (n:=2*x.2.1+1-mover) (by omega) (by omega),qk (n:=2*x.2.1+1-mover+1) (by omega) (by omega),qk (n:=(i:Int)+1) (by omega) (by omega),qk (n:=c+1) (by omega) (by omega)];cases (p.1[i]==2*x.2.1+1-mover+1)<;>rfl) (fun c=>by
        unfold qeX
        simp)
      rw[hL];rfl
def endE (r:Rules) (p:Place) (i:Nat):Option (((Unit)×(Unit)) ⊕ Int):=match r.2.2.2.2.2.2.2.1[i]? with
  | some x=>bif metB r p x (1-p.turn) then some (.inr (bif x.2.2.2.1 then 1+p.turn else 1+(1-p.turn))) else none
  | none=>none
def qk8 (r:Rules) (p:Place):Int:=bif r.blocked==0 then 1+(1-p.turn) else bif r.blocked==1 then 1+p.turn else 3
def qm (r:Rules) (p:Place):Int:=match scan (endE r p) (.inl ((),())) 0 r.2.2.2.2.2.2.2.1.length with
  | .inl _=>bif (r.quiet !=0)&&decide (p.quiet≥r.quiet) then 3 else bif decide ((((qc r p).length:Nat):Int)>0) then 0 else qk8 r p
  | .inr v=>v
theorem turn_w {r:Rules} {p:Place} (h:Valid r p):w64 ((1:Int)-p.2.2.1)=1-p.turn∧w64 ((1:Int)+p.2.2.1)=1+p.turn∧w64 (1+(1-p.turn))=1+(1-p.turn)∧w64 (1+p.turn)=1+p.turn:=by
  have ht:=h.turn;refine⟨qk (by show _≤1-p.turn;omega) (by show 1-p.turn≤_;omega),qk (by show _≤1+p.turn;omega) (by show 1+p.turn≤_;omega),qk (by omega) (by omega),qk (by omega) (by omega)⟩
theorem qb5 {r:Rules} {p:Place} (h:Valid r p):qaj r p=some (qm r p):=by
  have ht:=h.turn;obtain⟨t1,t2,t3,t4⟩:=turn_w h;have h6:r.2.2.2.2.2.2.2.1.length≤6:=h.r0.ends6;unfold qaj qm
  have hL:=qm3 r.2.2.2.2.2.2.2.1.length (qdW r p) (endE r p) (.inl ((),())) (fun i hi=>by
    unfold qdW endE;rw[List.getElem?_eq_getElem hi];simp only[show decide ((i:Int)<((r.2.2.2.2.2.2.2.1.length:Nat):Int))=true by simp;omega,cond_true];rw[at?_eq r.2.2.2.2.2.2.2.1 (i:Int) (by omega) (by omega),Option.bind_some,t1];simp only[Int.toNat_natCast];rw[qsg h (h.endOk (List.getElem_mem hi)) (by omega),Option.bind_some];cases metB r p r.2.2.2.2.2.2.2.1[i] (1-p.turn)
    · simp only[cond_false];rw[qk (n:=(i:Int)+1) (by omega) (by omega)];rfl
    · simp only[cond_true,show decide ((i:Int)≥0)=true by simp,Option.bind_some];unfold qcZ;rw[t3,show p.2.2.1=p.turn from rfl,t4]
      cases (r.2.2.2.2.2.2.2.1[i]).2.2.2.1<;>rfl) (by
    unfold qdW
    simp)
  rw[hL,Option.bind_some]
  cases scan (endE r p) (.inl ((),())) 0 r.2.2.2.2.2.2.2.1.length with
  | inr v=>rfl
  | inl u =>
    simp only[Sum.elim_inl];rw[show((r.2.2.2.2.2.2.2.2.2.1 !=(0:Int))&&(decide (p.2.2.2.1≥r.2.2.2.2.2.2.2.2.2.1)))=((r.quiet !=0)&&decide (p.quiet≥r.quiet)) from rfl];cases ((r.quiet !=0)&&decide (p.quiet≥r.quiet))
    · rw[cond_false,cond_false,qdG h,Option.bind_some];cases decide ((((qc r p).length:Nat):Int)>0)
      · rw[cond_false,cond_false,t1];unfold qk8 qcZ;rw[t3,show p.2.2.1=p.turn from rfl,t4,show r.2.2.2.2.2.2.2.2.1=r.blocked from rfl]
        cases (r.blocked==0)<;>cases (r.blocked==1)<;>rfl
      · rfl
    · rfl
end Go.Proofs.YtkkoolcdonhoaaaGreatDoor
