/- The law ClaimFalls in plain Lean: it is true. Conditions: numbers in range. -/
import Derived.Test.YtaaigenpmaiodaaClaimB
namespace Go.Proofs.Ytaaigenpmaiodaa
open Go.Den
set_option linter.unusedVariables false
set_option linter.unusedSimpArgs false
set_option maxRecDepth 100000

def setI {A : Type} (f : Nat → A) (K : Int) (v : A) : A × A × A × A × A × A × Unit := ((bif (K == (0 : Int)) then v else f 0), (bif (K == (1 : Int)) then v else f 1), (bif (K == (2 : Int)) then v else f 2), (bif (K == (3 : Int)) then v else f 3), (bif (K == (4 : Int)) then v else f 4), (bif (K == (5 : Int)) then v else f 5), ())
def getI {A : Type} (f : Nat → A) (d : A) (K : Int) : A := getD' [f 0, f 1, f 2, f 3, f 4, f 5] K.toNat d
theorem setI_nat {A : Type} (f : Nat → A) (v : A) (k : Nat) (h : k < 6) : setI f (k : Int) v = tup (fun j => if j = k then v else f j) := tup_set f v k h
theorem getI_nat {A : Type} (f : Nat → A) (d : A) (k : Nat) (h : k < 6) : getI f d (k : Int) = f k := tup_get f d k h
theorem inb6 {k : Nat} (h : k < 6) : inb (k : Int) 6 = true := inb_iff.2 (by omega)

def ownC (p : Place) (pl : Int) (i j : Nat) : Int := (((p.1.take i).countP (fun c => ownB pl c && (kc c == j)) : Nat) : Int)
def haveI' (p : Place) (pl : Int) (n i j : Nat) : Int := ownC p pl p.1.length j + (if j < i then hk p pl j else 0)
def haveF (r : Rules) (p : Place) (pl : Int) (j : Nat) : Int := haveI' p pl r.pieces.length r.pieces.length j
theorem ownC_rng (p : Place) (pl : Int) (i j : Nat) : 0 ≤ ownC p pl i j ∧ ownC p pl i j ≤ i := by
  have : (p.1.take i).countP (fun c => ownB pl c && (kc c == j)) ≤ i := by rw [List.countP_eq_length_filter]; exact take_le _ _ _
  unfold ownC
  omega
theorem have_rng {r : Rules} {p : Place} (hv : Valid r p) {pl : Int} (hpl : pl = 0 ∨ pl = 1) (n i j : Nat) : 0 ≤ haveI' p pl n i j ∧ haveI' p pl n i j ≤ 1064 := by
  have h1 := ownC_rng p pl p.1.length j
  have h2 := cells_len hv
  have h3 := hk_rng hv hpl j
  unfold haveI'
  split <;> omega

theorem A1_eq (p : Place) (pl i : Int) (f : Nat → Int) : law3Able_L1 p pl ((i, ()), (tup f, ())) = bif decide (i < ((p.1.length : Nat) : Int)) then Option.bind (at? p.1 i) (fun d => req (imp (decide (d > 0)) true) (Option.bind (bif ownB pl d then req (inb (w64 ((w64 (d - 1)).tdiv 2)) 6) (req (inb (w64 ((w64 (d - 1)).tdiv 2)) 6) (some ((), (setI f (w64 ((w64 (d - 1)).tdiv 2)) (w64 (getI f 0 (w64 ((w64 (d - 1)).tdiv 2)) + 1)), ())))) else some ((), (tup f, ()))) fun x3 : Unit × ((Int × Int × Int × Int × Int × Int × Unit) × Unit) => some (Sum.inl ((w64 (i + 1), ()), (x3.2.1, ()))))) else some (Sum.inr ((), (tup f, ()))) := rfl
theorem A1_spec {r : Rules} {p : Place} (hv : Valid r p) (pl : Int) : iterW (law3Able_L1 p pl) (((0 : Int), ()), (tup (fun _ => (0 : Int)), ())) = some ((), (tup (ownC p pl p.1.length), ())) := by
  have hc64 := cells_len hv
  have ht6 := hv.r0.t6
  have := iterW_states (f := law3Able_L1 p pl) p.1.length (fun i => (((i : Int), ()), (tup (ownC p pl i), ()))) ((), (tup (ownC p pl p.1.length), ())) (fun i hi => by
    have hm : p.1[i] ∈ p.1 := List.getElem_mem _
    have h12 := cell12 hv hm
    rw [A1_eq, ltd p.1 i hi, cond_true, at?_eq _ _ (by omega) (by omega)]
    simp only [Option.bind_some, Int.toNat_natCast, himp, req_true]
    rw [w64_id (n := (i : Int) + 1) (by omega) (by omega)]
    cases hq : ownB pl p.1[i] with
    | true =>
      have hp0 := mine_pos hq
      have hk6 : kc p.1[i] < 6 := by unfold kc; omega
      have hcr := ownC_rng p pl i (kc p.1[i])
      rw [kc_eq hp0 h12.2.2, inb6 hk6, req_true, req_true, cond_true, getI_nat _ _ _ hk6, setI_nat _ _ _ hk6, w64_id (n := ownC p pl i (kc p.1[i]) + 1) (by omega) (by omega), Option.bind_some]
      have : (fun j => if j = kc p.1[i] then ownC p pl i (kc p.1[i]) + 1 else ownC p pl i j) = ownC p pl (i + 1) := by
        funext j
        unfold ownC
        rw [List.take_succ_eq_append_getElem hi, List.countP_append, List.countP_singleton, hq, Bool.true_and]
        by_cases e : j = kc p.1[i]
        · subst e
          simp
        · rw [if_neg e, beq_f (fun h => e h.symm)]
          simp
      rw [this]
      rfl
    | false =>
      rw [cond_false, Option.bind_some]
      have : ownC p pl (i + 1) = ownC p pl i := by
        funext j
        unfold ownC
        rw [List.take_succ_eq_append_getElem hi, List.countP_append, List.countP_singleton, hq, Bool.false_and]
        simp
      rw [this]
      rfl) (by rw [A1_eq, nltd, cond_false])
  have e0 : ownC p pl 0 = fun _ => (0 : Int) := by
    funext j
    unfold ownC
    simp
  rw [← e0]
  exact this
theorem A2_eq (p : Place) (pl i : Int) (f : Nat → Int) : law3Able_L2 p pl ((i, ()), (tup f, ())) = bif decide (i < (((handP p pl).length : Nat) : Int)) then Option.bind (at? (handP p pl) i) (fun d => req (inb i 6) (req (inb i 6) (some (Sum.inl ((w64 (i + 1), ()), (setI f i (w64 (getI f 0 i + d)), ())))))) else some (Sum.inr ((), (tup f, ()))) := rfl
theorem A2_spec {r : Rules} {p : Place} (hv : Valid r p) {pl : Int} (hpl : pl = 0 ∨ pl = 1) : iterW (law3Able_L2 p pl) (((0 : Int), ()), (tup (ownC p pl p.1.length), ())) = some ((), (tup (haveF r p pl), ())) := by
  have hc64 := cells_len hv
  have ht6 := hv.r0.t6
  have hH := handP_len hv hpl
  have := iterW_states (f := law3Able_L2 p pl) r.pieces.length (fun i => (((i : Int), ()), (tup (haveI' p pl r.pieces.length i), ()))) ((), (tup (haveF r p pl), ())) (fun i hi => by
    have hhr := have_rng hv hpl r.pieces.length i i
    have hk1 := hk_rng hv hpl i
    rw [A2_eq, ltd (handP p pl) i (by omega), cond_true, at?_eq _ _ (by omega) (by omega)]
    simp only [Option.bind_some, Int.toNat_natCast]
    rw [show (handP p pl)[i]'(by omega) = hk p pl i from (gd_eq _ i (by omega) 0).symm, w64_id (n := (i : Int) + 1) (by omega) (by omega), inb6 (by omega), req_true, req_true, getI_nat _ _ _ (by omega), setI_nat _ _ _ (by omega), w64_id (n := haveI' p pl r.pieces.length i i + hk p pl i) (by omega) (by omega)]
    have : (fun j => if j = i then haveI' p pl r.pieces.length i i + hk p pl i else haveI' p pl r.pieces.length i j) = haveI' p pl r.pieces.length (i + 1) := by
      funext j
      unfold haveI'
      by_cases e : j = i
      · subst e
        rw [if_pos rfl, if_neg (by omega), if_pos (by omega)]
        omega
      · rw [if_neg e]
        by_cases e2 : j < i
        · rw [if_pos e2, if_pos (by omega)]
        · rw [if_neg e2, if_neg (by omega)]
    rw [this]
    rfl) (by
    rw [A2_eq, show ((r.pieces.length : Nat) : Int) = (((handP p pl).length : Nat) : Int) by rw [hH], nltd, cond_false]
    rfl)
  have e0 : haveI' p pl r.pieces.length 0 = ownC p pl p.1.length := by
    funext j
    unfold haveI'
    rw [if_neg (by omega), Int.add_zero]
  rw [← e0]
  exact this
theorem A4_eq (q : Piece) (b0 : Bool) (a0 k : Int) (H : Nat → Int) (b : Bool) (j : Int) : law3Able_L4 q ((b0, a0, k, ()), ()) ((), (tup H, ())) ((b, j, ()), ()) = bif decide (j < ((q.2.2.2.1.length : Nat) : Int)) then Option.bind (at? q.2.2.2.1 j) (fun w => req (imp (!b) (inb k 6)) (some (Sum.inl ((b || (decide (getI H 0 k > 0) && decide (w.2.2.2.1 > 0)), w64 (j + 1), ()), ())))) else some (Sum.inr ((b, ()), ())) := rfl
def takesT (r : Rules) (H : Nat → Int) (k : Nat) : Bool := (pieceN r k).2.2.2.1.any fun w => decide (H k > 0) && decide (w.2.2.2.1 > 0)
theorem A4_spec (q : Piece) (hq : q.2.2.2.1.length ≤ 16) (b0 : Bool) (a0 : Int) (k : Nat) (hk' : k < 6) (H : Nat → Int) (b : Bool) : iterW (law3Able_L4 q ((b0, a0, (k : Int), ()), ()) ((), (tup H, ()))) ((b, (0 : Int), ()), ()) = some ((b || q.2.2.2.1.any (fun w => decide (H k > 0) && decide (w.2.2.2.1 > 0)), ()), ()) := by
  have := iterW_states (f := law3Able_L4 q ((b0, a0, (k : Int), ()), ()) ((), (tup H, ()))) q.2.2.2.1.length (fun j => ((b || (q.2.2.2.1.take j).any (fun w => decide (H k > 0) && decide (w.2.2.2.1 > 0)), (j : Int), ()), ())) ((b || q.2.2.2.1.any (fun w => decide (H k > 0) && decide (w.2.2.2.1 > 0)), ()), ()) (fun j hj => by
    rw [A4_eq, ltd _ j hj, cond_true, at?_eq _ _ (by omega) (by omega), Option.bind_some, inb6 hk', himp, req_true, getI_nat _ _ _ hk', w64_id (n := (j : Int) + 1) (by omega) (by omega), List.take_succ_eq_append_getElem hj, List.any_append, ← Bool.or_assoc]
    simp) (by rw [A4_eq, nltd, cond_false, List.take_length])
  have e : (b || (q.2.2.2.1.take 0).any (fun w => decide (H k > 0) && decide (w.2.2.2.1 > 0))) = b := by simp
  simp only [e] at this
  exact this
theorem A3_eq (r : Rules) (H : Nat → Int) (b : Bool) (a k : Int) : law3Able_L3 r ((), (tup H, ())) ((b, a, k, ()), ()) = bif decide (k < ((r.2.2.2.1.length : Nat) : Int)) then Option.bind (Option.bind (at? r.2.2.2.1 k) fun d => req (inb k 6) (Option.bind (iterW (law3Able_L4 d ((b, a, k, ()), ()) ((), (tup H, ()))) ((b, (0 : Int), ()), ())) fun x12 => some ((x12.1.1, w64 (a + getI H 0 k), ()), ()))) (fun x13 : (Bool × Int × Unit) × Unit => some (Sum.inl ((x13.1.1, x13.1.2.1, w64 (k + 1), ()), ()))) else some (Sum.inr ((b, a, ()), ())) := rfl
theorem A3_spec {r : Rules} (hv : VR0 r) (H : Nat → Int) (hH : ∀ j, 0 ≤ H j ∧ H j ≤ 1064) : iterW (law3Able_L3 r ((), (tup H, ()))) ((false, (0 : Int), (0 : Int), ()), ()) = some (((List.range r.pieces.length).any (takesT r H), sumN H r.pieces.length, ()), ()) := by
  have ht6 := hv.t6
  have hn : r.2.2.2.1.length = r.pieces.length := rfl
  exact iterW_states (f := law3Able_L3 r ((), (tup H, ()))) r.pieces.length (fun k => (((List.range k).any (takesT r H), sumN H k, (k : Int), ()), ())) (((List.range r.pieces.length).any (takesT r H), sumN H r.pieces.length, ()), ()) (fun k hk => by
    have hs := sumN_rng H 1064 k (fun j _ => hH j)
    have hh := hH k
    rw [A3_eq, decide_eq_true (by omega), cond_true, piece_at r hk, Option.bind_some, inb6 (by omega), req_true, A4_spec _ (hv.ways _ (piece_mem r hk)) _ _ k (by omega), Option.bind_some, getI_nat _ _ _ (by omega), w64_id (n := (k : Int) + 1) (by omega) (by omega), w64_id (n := sumN H k + H k) (by omega) (by omega), Option.bind_some, List.range_succ, List.any_append]
    simp only [List.any_cons, List.any_nil, Bool.or_false]
    rfl) (by rw [A3_eq, decide_eq_false (by omega), cond_false])
theorem A7_eq (r : Rules) (i : Int) (f : Nat → Bool) : law3Able_L7 r ((i, ()), (tup f, ())) = bif decide (i < ((r.2.2.2.1.length : Nat) : Int)) then Option.bind (at? r.2.2.2.1 i) (fun d => req (inb i 6) (req (imp (decide (d.2.2.1 > 0) && (!(getI f false i))) (inb (w64 (d.2.2.1 - 1)) 6)) (req (inb i 6) (some (Sum.inl ((w64 (i + 1), ()), (setI f i (getI f false i || (decide (d.2.2.1 > 0) && getI f false (w64 (d.2.2.1 - 1)))), ()))))))) else some (Sum.inr ((), (tup f, ()))) := rfl
theorem A7_spec {r : Rules} (hv : VR0 r) (f : Nat → Bool) : iterW (law3Able_L7 r) (((0 : Int), ()), (tup f, ())) = some ((), (tup (passL (prN r) (List.range r.pieces.length) f), ())) := by
  have ht6 := hv.t6
  have hn : r.2.2.2.1.length = r.pieces.length := rfl
  exact iterW_states (f := law3Able_L7 r) r.pieces.length (fun i => (((i : Int), ()), (tup (passL (prN r) (List.range i) f), ()))) ((), (tup (passL (prN r) (List.range r.pieces.length) f), ())) (fun i hi => by
    have hp := hv.prom _ (piece_mem r hi)
    have e1 : passL (prN r) (List.range (i + 1)) f = passG (prN r) (passL (prN r) (List.range i) f) i := by
      unfold passL
      rw [List.range_succ, List.foldl_append]
      rfl
    rw [A7_eq, decide_eq_true (by omega), cond_true, piece_at r hi, Option.bind_some, inb6 (by omega), req_true, getI_nat _ _ _ (by omega), w64_id (n := (i : Int) + 1) (by omega) (by omega), e1]
    generalize passL (prN r) (List.range i) f = F
    by_cases c : (pieceN r i).2.2.1 > 0
    · have e2 : w64 ((pieceN r i).2.2.1 - 1) = ((prN r i - 1 : Nat) : Int) := by
        unfold prN
        rw [w64_id (by omega) (by omega)]
        omega
      have h6 : prN r i - 1 < 6 := by unfold prN; omega
      rw [e2, inb6 h6, himp, req_true, req_true, getI_nat _ _ _ h6, setI_nat _ _ _ (by omega)]
      unfold passG
      rw [decide_eq_true c, decide_eq_true (show 0 < prN r i by unfold prN; omega)]
      rfl
    · rw [decide_eq_false c, setI_nat _ _ _ (by omega)]
      unfold passG
      rw [decide_eq_false (show ¬ 0 < prN r i by unfold prN; omega)]
      rfl) (by rw [A7_eq, decide_eq_false (by omega), cond_false])
theorem A6_eq (r : Rules) (t : Int) (f : Nat → Bool) : law3Able_L6 r ((t, ()), (tup f, ())) = bif decide (t < ((r.2.2.2.1.length : Nat) : Int)) then Option.bind (Option.bind (iterW (law3Able_L7 r) (((0 : Int), ()), (tup f, ()))) fun x20 => some ((), (x20.2.1, ()))) (fun x21 : Unit × ((Bool × Bool × Bool × Bool × Bool × Bool × Unit) × Unit) => some (Sum.inl ((w64 (t + 1), ()), (x21.2.1, ())))) else some (Sum.inr ((), (tup f, ()))) := rfl
theorem A6_spec {r : Rules} (hv : VR0 r) (g : Nat) : iterW (law3Able_L6 r) (((0 : Int), ()), (tup (closN (prN r) r.pieces.length g 0), ())) = some ((), (tup (closN (prN r) r.pieces.length g r.pieces.length), ())) := by
  have ht6 := hv.t6
  have hn : r.2.2.2.1.length = r.pieces.length := rfl
  exact iterW_states (f := law3Able_L6 r) r.pieces.length (fun t => (((t : Int), ()), (tup (closN (prN r) r.pieces.length g t), ()))) ((), (tup (closN (prN r) r.pieces.length g r.pieces.length), ())) (fun t ht => by
    rw [A6_eq, decide_eq_true (by omega), cond_true, A7_spec hv, Option.bind_some, Option.bind_some, w64_id (n := (t : Int) + 1) (by omega) (by omega)]
    rfl) (by rw [A6_eq, decide_eq_false (by omega), cond_false])
theorem A8_eq (r : Rules) (F : Nat → Bool) (H : Nat → Int) (a k : Int) : law3Able_L8 r ((), (tup F, ())) ((), (tup H, ())) ((a, k, ()), ()) = bif decide (k < ((r.2.2.2.1.length : Nat) : Int)) then req (inb k 6) (Option.bind (bif getI F false k then req (inb k 6) (some ((w64 (a + getI H 0 k), ()), ())) else some ((a, ()), ())) fun x24 : (Int × Unit) × Unit => some (Sum.inl ((x24.1.1, w64 (k + 1), ()), ()))) else some (Sum.inr ((a, ()), ())) := rfl
def someF (F : Nat → Bool) (H : Nat → Int) (j : Nat) : Int := if F j = true then H j else 0
theorem A8_spec {r : Rules} (hv : VR0 r) (F : Nat → Bool) (H : Nat → Int) (hH : ∀ j, 0 ≤ H j ∧ H j ≤ 1064) : iterW (law3Able_L8 r ((), (tup F, ())) ((), (tup H, ()))) (((0 : Int), (0 : Int), ()), ()) = some ((sumN (someF F H) r.pieces.length, ()), ()) := by
  have ht6 := hv.t6
  have hn : r.2.2.2.1.length = r.pieces.length := rfl
  have hS : ∀ j, 0 ≤ someF F H j ∧ someF F H j ≤ 1064 := fun j => by
    have := hH j
    unfold someF
    split <;> omega
  exact iterW_states (f := law3Able_L8 r ((), (tup F, ())) ((), (tup H, ()))) r.pieces.length (fun k => ((sumN (someF F H) k, (k : Int), ()), ())) ((sumN (someF F H) r.pieces.length, ()), ()) (fun k hk => by
    have hs := sumN_rng (someF F H) 1064 k (fun j _ => hS j)
    have hh := hH k
    have e : sumN (someF F H) (k + 1) = sumN (someF F H) k + someF F H k := rfl
    rw [A8_eq, decide_eq_true (by omega), cond_true, inb6 (by omega), req_true, req_true, getI_nat _ _ _ (by omega), getI_nat _ _ _ (by omega), w64_id (n := (k : Int) + 1) (by omega) (by omega), w64_id (n := sumN (someF F H) k + H k) (by omega) (by omega), e]
    unfold someF
    cases F k with
    | true => rfl
    | false =>
      simp) (by rw [A8_eq, decide_eq_false (by omega), cond_false])
def outX (r : Rules) (H : Nat → Int) (T : Bool) (all : Int) (x : End) : Bool := ((x.2.2.2.1 || ((x.1 == 0) && (decide (all ≥ x.2.2.1) || (r.keeps && T)))) || ((x.1 == 1) && (decide (sumN (someF (closN (prN r) r.pieces.length x.2.1.toNat r.pieces.length) H) r.pieces.length > 0) || (r.keeps && T)))) || (x.1 == 2)
theorem A5_eq (r : Rules) (H : Nat → Int) (T : Bool) (all : Int) (b : Bool) (i : Int) : law3Able_L5 r ((), (tup H, ())) ((T, all, ()), ()) ((b, i, ()), ()) = bif decide (i < ((r.2.2.2.2.2.2.2.1.length : Nat) : Int)) then Option.bind (Option.bind (at? r.2.2.2.2.2.2.2.1 i) fun x => req (inb x.2.1 6) (Option.bind (iterW (law3Able_L6 r) (((0 : Int), ()), (setI (fun _ => false) x.2.1 true, ()))) fun x22 => Option.bind (iterW (law3Able_L8 r x22 ((), (tup H, ()))) (((0 : Int), (0 : Int), ()), ())) fun x25 => some ((((((b || x.2.2.2.1) || ((x.1 == (0 : Int)) && ((decide (all ≥ x.2.2.1)) || (r.2.2.2.2.2.2.1 && T)))) || ((x.1 == (1 : Int)) && ((decide (x25.1.1 > (0 : Int))) || (r.2.2.2.2.2.2.1 && T)))) || (x.1 == (2 : Int))), ()), ()))) (fun x26 : (Bool × Unit) × Unit => some (Sum.inl ((x26.1.1, w64 (i + 1), ()), ()))) else some (Sum.inr ((b, ()), ())) := rfl
theorem ends_piece {r : Rules} (hv : VR0 r) {x : End} (hx : x ∈ r.ends) : 0 ≤ x.2.1 ∧ x.2.1.toNat < r.pieces.length := by
  have hE := (hv.ends x hx).2.2
  have ht1 := hv.t1
  split at hE <;> omega
theorem A5_spec {r : Rules} (hv : VR0 r) (H : Nat → Int) (hH : ∀ j, 0 ≤ H j ∧ H j ≤ 1064) (T : Bool) (all : Int) (b : Bool) : iterW (law3Able_L5 r ((), (tup H, ())) ((T, all, ()), ())) ((b, (0 : Int), ()), ()) = some ((b || r.ends.any (outX r H T all), ()), ()) := by
  have ht6 := hv.t6
  have he6 := hv.ends6
  have := iterW_states (f := law3Able_L5 r ((), (tup H, ())) ((T, all, ()), ())) r.ends.length (fun i => ((b || (r.ends.take i).any (outX r H T all), (i : Int), ()), ())) ((b || r.ends.any (outX r H T all), ()), ()) (fun i hi => by
    have hx : r.ends[i] ∈ r.ends := List.getElem_mem _
    have hg := ends_piece hv hx
    have hg' : r.ends[i].2.1 = ((r.ends[i].2.1.toNat : Nat) : Int) := by omega
    have ha : at? r.2.2.2.2.2.2.2.1 (i : Int) = some r.ends[i] := by
      rw [at?_eq _ _ (by omega) (by show (i : Int) < ((r.ends.length : Nat) : Int); omega)]
      rfl
    rw [A5_eq, show decide ((i : Int) < ((r.2.2.2.2.2.2.2.1.length : Nat) : Int)) = true from ltd r.ends i hi, cond_true, ha, Option.bind_some, w64_id (n := (i : Int) + 1) (by omega) (by omega), List.take_succ_eq_append_getElem hi, List.any_append]
    generalize r.ends[i] = x at hg hg' ⊢
    have e0 : setI (fun _ => false) x.2.1 true = tup (closN (prN r) r.pieces.length x.2.1.toNat 0) := by
      rw [hg', setI_nat _ _ _ (by omega)]
      refine congrArg tup (funext fun j => ?_)
      show (if j = x.2.1.toNat then true else false) = (j == x.2.1.toNat)
      by_cases e : j = x.2.1.toNat
      · rw [beq_t e, if_pos e]
      · rw [beq_f e, if_neg e]
    rw [e0, A6_spec hv, Option.bind_some, A8_spec hv _ _ hH, Option.bind_some, show inb x.2.1 6 = true by rw [hg']; exact inb6 (by omega), req_true]
    simp only [Option.bind_some]
    unfold outX
    simp only [List.any_cons, List.any_nil, Bool.or_false, Bool.or_assoc]
    rfl) (by
    rw [A5_eq, show decide (((r.ends.length : Nat) : Int) < ((r.2.2.2.2.2.2.2.1.length : Nat) : Int)) = false from nltd r.ends, cond_false, List.take_length])
  have e : (b || (r.ends.take 0).any (outX r H T all)) = b := by simp
  simp only [e] at this
  exact this
theorem refAble_eq (r : Rules) (p : Place) (pl : Int) : law3Able r p pl = Option.bind (iterW (law3Able_L1 p pl) (((0 : Int), ()), (tup (fun _ => (0 : Int)), ()))) (fun x4 => req (inb pl 2) (Option.bind (iterW (law3Able_L2 p pl) (((0 : Int), ()), (x4.2.1, ()))) fun x7 => Option.bind (iterW (law3Able_L3 r x7) ((false, (0 : Int), (0 : Int), ()), ())) fun x14 => Option.bind (iterW (law3Able_L5 r x7 x14) (((r.2.2.2.2.2.2.2.2.1 != (2 : Int)), (0 : Int), ()), ())) fun x27 => some x27.1.1)) := rfl
def refR (r : Rules) (p : Place) (pl : Int) : Bool := (r.blocked != 2) || r.ends.any (outX r (haveF r p pl) ((List.range r.pieces.length).any (takesT r (haveF r p pl))) (sumN (haveF r p pl) r.pieces.length))
theorem refAble_spec {r : Rules} {p : Place} (hv : Valid r p) {pl : Int} (hpl : pl = 0 ∨ pl = 1) : law3Able r p pl = some (refR r p pl) := by
  have hH : ∀ j, 0 ≤ haveF r p pl j ∧ haveF r p pl j ≤ 1064 := fun j => have_rng hv hpl _ _ j
  rw [refAble_eq, A1_spec hv, Option.bind_some, show inb pl 2 = true from inb_iff.2 (by omega), req_true, A2_spec hv hpl, Option.bind_some, A3_spec hv.r0 _ hH, Option.bind_some, A5_spec hv.r0 _ hH, Option.bind_some]
  rfl
/-! both are the same -/
theorem have_iff (r : Rules) {p : Place} (hv : Valid r p) {pl : Int} (hpl : pl = 0 ∨ pl = 1) {k : Nat} (hk' : k < r.pieces.length) : 0 < haveF r p pl k ↔ ((∃ c ∈ p.1, ownB pl c = true ∧ kc c = k) ∨ (k < r.pieces.length ∧ hk p pl k > 0)) := by
  have h1 := hk_rng hv hpl k
  have h2 := ownC_rng p pl p.1.length k
  have h3 : 0 < ownC p pl p.1.length k ↔ ∃ c ∈ p.1, ownB pl c = true ∧ kc c = k := by
    unfold ownC
    rw [List.take_length]
    rw [show (0 : Int) < ((p.1.countP (fun c => ownB pl c && (kc c == k)) : Nat) : Int) ↔ 0 < p.1.countP (fun c => ownB pl c && (kc c == k)) by omega, List.countP_pos_iff]
    simp only [Bool.and_eq_true, beq_iff_eq]
  rw [← h3]
  unfold haveF haveI'
  rw [if_pos hk']
  omega
theorem any_types (r : Rules) {p : Place} (hv : Valid r p) {pl : Int} (hpl : pl = 0 ∨ pl = 1) (q : Nat → Bool) : (typesN p pl r.pieces.length).any q = true ↔ ∃ k, k < r.pieces.length ∧ q k = true ∧ 0 < haveF r p pl k := by
  constructor
  · intro h
    obtain ⟨k, hk1, hq⟩ := List.any_eq_true.1 h
    have hlt := types_lt hv hk1
    refine ⟨k, hlt, hq, ?_⟩
    rw [have_iff r hv hpl hlt]
    have := (types_iff (p := p) (pl := pl) (n := r.pieces.length) (fun j => j == k)).1 (List.any_eq_true.2 ⟨k, hk1, by simp⟩)
    obtain ⟨j, hj, hh⟩ := this
    have hj : j = k := by simpa using hj
    rw [← hj]
    exact hh
  · rintro ⟨k, hlt, hq, hh⟩
    exact (types_iff q).2 ⟨k, hq, (have_iff r hv hpl hlt).1 hh⟩
theorem all_eq {r : Rules} {p : Place} (hv : Valid r p) {pl : Int} : sumN (haveF r p pl) r.pieces.length = nN p pl r.pieces.length := by
  unfold nN
  rw [← sumN_class (ownB pl) kc r.pieces.length p.1 (fun c hc hq => by
    have h3 := cell12 hv hc
    have h4 := mine_pos hq
    unfold kc
    omega), ← sumN_add]
  refine sumN_congr _ fun i hi => ?_
  unfold haveF haveI' ownC
  rw [if_pos hi, List.take_length]
theorem x_eq {r : Rules} {p : Place} (hv : Valid r p) {pl : Int} (hpl : pl = 0 ∨ pl = 1) {x : End} (hx : x ∈ r.ends) : ableX r p pl x = outX r (haveF r p pl) ((List.range r.pieces.length).any (takesT r (haveF r p pl))) (sumN (haveF r p pl) r.pieces.length) x := by
  have hE := (hv.r0.ends x hx).1
  have hH : ∀ j, 0 ≤ haveF r p pl j ∧ haveF r p pl j ≤ 1064 := fun j => have_rng hv hpl _ _ j
  have e1 : (List.range r.pieces.length).any (takesT r (haveF r p pl)) = (typesN p pl r.pieces.length).any (takesK r) := by
    rw [Bool.eq_iff_iff, any_types r hv hpl, List.any_eq_true]
    constructor
    · rintro ⟨k, hk1, ht⟩
      have hlt := List.mem_range.1 hk1
      unfold takesT at ht
      obtain ⟨w, hw, hq⟩ := List.any_eq_true.1 ht
      rw [Bool.and_eq_true, decide_eq_true_eq, decide_eq_true_eq] at hq
      exact ⟨k, hlt, List.any_eq_true.2 ⟨w, hw, bne_t (by omega)⟩, hq.1⟩
    · rintro ⟨k, hlt, ht, hh⟩
      unfold takesK at ht
      obtain ⟨w, hw, hq⟩ := List.any_eq_true.1 ht
      have hwr := (hv.r0.way _ (piece_mem r hlt) w hw).2.2.2.2
      have hq : ¬ w.2.2.2.1 = 0 := by simpa using hq
      exact ⟨k, List.mem_range.2 hlt, List.any_eq_true.2 ⟨w, hw, by rw [decide_eq_true hh, decide_eq_true (by omega)]; rfl⟩⟩
  have e2 : decide (sumN (someF (closN (prN r) r.pieces.length x.2.1.toNat r.pieces.length) (haveF r p pl)) r.pieces.length > 0) = (typesN p pl r.pieces.length).any (bec (prN r) x.2.1.toNat (r.pieces.length + 1)) := by
    rw [Bool.eq_iff_iff, any_types r hv hpl, decide_eq_true_eq]
    show 0 < _ ↔ _
    rw [sumN_pos _ _ (fun i _ => by have := hH i; unfold someF; split <;> omega)]
    constructor
    · rintro ⟨k, hlt, h⟩
      unfold someF at h
      split at h
      · rename_i hc
        rw [clos_eq _ _ _ (pr_le hv.r0) k hlt] at hc
        exact ⟨k, hlt, hc, h⟩
      · omega
    · rintro ⟨k, hlt, hb, hh⟩
      refine ⟨k, hlt, ?_⟩
      unfold someF
      rw [clos_eq _ _ _ (pr_le hv.r0) k hlt, if_pos hb]
      exact hh
  unfold ableX outX
  rw [e1, e2, all_eq hv]
  generalize (typesN p pl r.pieces.length).any (takesK r) = T
  generalize (typesN p pl r.pieces.length).any (bec (prN r) x.2.1.toNat (r.pieces.length + 1)) = B
  generalize decide (nN p pl r.pieces.length ≥ x.2.2.1) = C
  obtain h | h | h : x.1 = 0 ∨ x.1 = 1 ∨ x.1 = 2 := by omega
  all_goals
    rw [h]
    show _ = _
    cases x.2.2.2.1 <;> cases T <;> cases B <;> cases C <;> cases r.keeps <;> rfl
theorem able_same {r : Rules} {p : Place} (hv : Valid r p) {pl : Int} (hpl : pl = 0 ∨ pl = 1) : ableR r p pl = refR r p pl := by
  unfold ableR refR
  congr 1
  rw [Bool.eq_iff_iff, List.any_eq_true, List.any_eq_true]
  constructor
  · rintro ⟨x, hx, h⟩
    exact ⟨x, hx, by rw [← x_eq hv hpl hx]; exact h⟩
  · rintro ⟨x, hx, h⟩
    exact ⟨x, hx, by rw [x_eq hv hpl hx]; exact h⟩
theorem law3ClaimFalls_true (r : Rules) (p : Place) (pl : Int) (hr : Rng tyRules r) (hp : Rng tyPlace p) (hpl' : Rng (.int .i64) pl) : law3ClaimFalls r p pl = some true := by
  have hn : p.1.length ≤ 9223372036854775807 := hp.1.1
  unfold law3ClaimFalls
  rw [claims_true, Option.bind_some, Bool.not_true, cond_false]
  cases law3Great r with
  | true => rfl
  | false =>
    rw [cond_false]
    unfold claimFallen
    rw [ablei_spec r p pl hr hn, ablei_spec r p _ hr hn, place_spec r p hr hn]
    simp only [Option.bind_some]
    by_cases c : placeErr r p = 0
    · have hv := valid_of c
      simp only [if_pos c, bne_f c, cond_false]
      by_cases cp : pl = 0 ∨ pl = 1
      · have w1 : w64 ((1 : Int) - pl) = 1 - pl := w64_id (by omega) (by omega)
        have w2 : w64 ((2 : Int) - pl) = 2 - pl := w64_id (by omega) (by omega)
        have cp' : 1 - pl = 0 ∨ 1 - pl = 1 := by omega
        rw [w1, w2]
        simp only [if_pos cp, if_pos cp']
        have hb : ((pl != 0) && (pl != 1)) = false := by rcases cp with h | h <;> subst h <;> rfl
        simp only [hb, cond_false, refAble_spec hv cp', refAble_spec hv cp, able_same hv cp, able_same hv cp']
        simp only [bne_self_eq_false, cond_false, Option.bind_some, beq_self_eq_true, gopt, cond_true]
        cases refR r p (1 - pl) <;> simp
      · simp only [if_neg cp]
        have hb : ((pl != 0) && (pl != 1)) = true := by rw [bne_t (by omega), bne_t (by omega)]; rfl
        simp only [hb]
        rfl
    · simp only [if_neg c, bne_t c, cond_true, Option.bind_some]
      simp
end Go.Proofs.Ytaaigenpmaiodaa
