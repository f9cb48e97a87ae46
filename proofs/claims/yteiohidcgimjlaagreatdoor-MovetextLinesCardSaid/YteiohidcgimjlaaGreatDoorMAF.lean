/- Several texts in one: The reference's moves; they are the program's. No condition of its own.; Results: what the program and the reference say of how a game stands. No condition of its own.; Results: the conditions, and what comes of them. No condition of its own.; The position after a move, as the program and the reference compute it. No condition of its own.; Comparisons, beginnings, and what the exported functions of moves give. No condition of its own.; Games by the rules, in plain Lean: what Play, Run and Repeats compute. No condition of its own.; What the exported functions of moves give. No condition of its own.; Games: what claims and the reference compute; three in a row. No condition of its own.; Texts of moves, in plain Lean: what the program and the reference write. No condition of its own.; Texts of moves: the text of a legal move, by the program and by the reference. No condition of its own.; Texts of moves: the reference writes the same. No condition of its own.; Texts of moves: what the exported functions give. No condition of its own.; Texts of moves: no two legal moves have the same text. No condition of its own.; Texts of moves: reading. No condition of its own.; Games, step by step. No condition of its own.; Texts that are joined by one byte, and split at it. No condition of its own.; The law MovetextLines in plain Lean: it is true. Conditions: numbers in range. -/
import Derived.Test.YteiohidcgimjlaaGreatDoorMAE
import Derived.Test.YteiohidcgimjlaaGreatDoorMAD
import Derived.Lib.IndexLaws
import Derived.Lib.IndexBytes
import Derived.Lib.CountLaws
namespace Go.Proofs.YteiohidcgimjlaaGreatDoor
open Go.Den
set_option linter.unusedVariables false
set_option linter.unusedSimpArgs false
set_option maxRecDepth 100000

theorem iter_appO {A R : Type} (n B : Nat) (c : Int) (f : (((List A) × Int × Unit) × Unit) → Option ((((List A) × Int × Unit) × Unit) ⊕ R)) (F : Nat → List A) (fin : List A → R) (a0 : List A) (hF : ∀ i, i < n → (F i).length ≤ B)
    (hs : ∀ i, i < n → ∀ a : List A, a.length ≤ a0.length + i * B → f ((a, c + (i : Int), ()), ()) = some (.inl ((a ++ F i, c + (i : Int) + 1, ()), ()))) (he : ∀ a, f ((a, c + (n : Int), ()), ()) = some (.inr (fin a))) :
    iterW f ((a0, c, ()), ()) = some (fin (a0 ++ (List.range n).flatMap F)) := by
  have hl : ∀ i, i ≤ n → (a0 ++ (List.range i).flatMap F).length ≤ a0.length + i * B := fun i hi => by
    have := flatMap_len F B (List.range i) (fun x hx => hF x (by rw [List.mem_range] at hx; omega))
    rw [List.length_range] at this
    rw [List.length_append]
    omega
  have := iterW_states (f := f) n (fun i => ((a0 ++ (List.range i).flatMap F, c + (i : Int), ()), ())) (fin (a0 ++ (List.range n).flatMap F)) (fun i hi => by
    rw [hs i hi _ (hl i (by omega)), List.range_succ, List.flatMap_append, ← List.append_assoc]
    simp [Int.add_assoc]) (he _)
  simpa using this

def mvOk (r : Rules) (p : Place) (m : Mv) : Bool := decide ((-1 ≤ m.1 ∧ m.1 < ((p.1.length : Nat) : Int)) ∧ (0 ≤ m.2.1 ∧ m.2.1 < ((p.1.length : Nat) : Int)) ∧ (0 ≤ m.2.2.1 ∧ m.2.2.1 < ((r.pieces.length : Nat) : Int)))
def goOk (r : Rules) (p : Place) (m : Mv) : Bool := mineB p (cellI p m.1) && ((becomes r p (kindOf (cellI p m.1)) m.2.1 == m.2.2.1) && (pieceI r (kindOf (cellI p m.1))).2.2.2.1.any (fun w => decide (m.2.1 ∈ wayS r p m.1 w)))
def allowedB (r : Rules) (p : Place) (m : Mv) : Bool := mvOk r p m && (bif m.1 == -1 then decide (handI p m.2.2.1 > 0) && putOk r p m.2.1 else goOk r p m)
def colFrom (p : Place) (W x0 : Int) : Nat → Nat → Bool
  | _, 0 => true
  | i, n + 1 => (cellI p (x0 + (i : Int) * W) != 0) && colFrom p W x0 (i + 1) n
theorem colFrom_any (p : Place) (W x0 : Int) : ∀ n i, colFrom p W x0 i n = !((List.range n).any fun j => cellI p (x0 + ((i + j : Nat) : Int) * W) == 0)
  | 0, i => rfl
  | n + 1, i => by
    rw [colFrom, colFrom_any p W x0 n (i + 1), List.range_succ_eq_map, List.any_cons, List.any_map, Bool.not_or]
    have e : ((fun j => cellI p (x0 + ((i + j : Nat) : Int) * W) == 0) ∘ Nat.succ) = fun j => cellI p (x0 + ((i + 1 + j : Nat) : Int) * W) == 0 := by
      funext j
      simp only [Function.comp]
      rw [show i + j.succ = i + 1 + j by omega]
    rw [e]
    rfl
theorem colFrom_colF (p : Place) (W x0 : Int) (y : Nat) : colFrom p W x0 0 y = colF p W x0 y := by
  rw [colFrom_any, colF_any]
  simp
def at3 (r : Rules) (p : Place) (i j k : Nat) : List Mv := bif allowedB r p ((i : Int) - 1, ((j : Int), ((k : Int), ()))) then [((i : Int) - 1, ((j : Int), ((k : Int), ())))] else []
def at2 (r : Rules) (p : Place) (i j : Nat) : List Mv := (List.range r.2.2.2.1.length).flatMap (at3 r p i j)
def at1 (r : Rules) (p : Place) (i : Nat) : List Mv := (List.range p.1.length).flatMap (at2 r p i)
/-- the moves of a valid position -/
def movesOf (r : Rules) (p : Place) : List Mv := (List.range (p.1.length + 1)).flatMap (at1 r p)
theorem at3_len (r : Rules) (p : Place) (i j k : Nat) : (at3 r p i j k).length ≤ 1 := by unfold at3; cases allowedB r p ((i : Int) - 1, ((j : Int), ((k : Int), ()))) <;> simp
theorem at2_len {r : Rules} {p : Place} (h : Valid r p) (i j : Nat) : (at2 r p i j).length ≤ 6 := Nat.le_trans (fm_len1 _ _ (at3_len r p i j)) h.r0.t6
theorem at1_len {r : Rules} {p : Place} (h : Valid r p) (i : Nat) : (at1 r p i).length ≤ 384 := by
  refine Nat.le_trans (flatMap_len _ 6 _ fun j _ => at2_len h i j) ?_
  have := area_len h
  rw [List.length_range]; omega
theorem pw_range (n : Nat) (F : Nat → List Mv) (h1 : ∀ i, i < n → (F i).Pairwise (fun x y => mvLt x y = true)) (h2 : ∀ i j, i < j → ∀ x ∈ F i, ∀ y ∈ F j, mvLt x y = true) : ((List.range n).flatMap F).Pairwise (fun x y => mvLt x y = true) := by
  rw [List.pairwise_flatMap]
  exact ⟨fun i hi => h1 i (List.mem_range.1 hi), List.pairwise_lt_range.imp fun hij => h2 _ _ hij⟩
theorem at3_mem {r : Rules} {p : Place} {i j k : Nat} {x : Mv} (h : x ∈ at3 r p i j k) : x = ((i : Int) - 1, ((j : Int), ((k : Int), ()))) ∧ allowedB r p x = true := by
  unfold at3 at h
  cases hb : allowedB r p ((i : Int) - 1, ((j : Int), ((k : Int), ()))) with
  | false => simp [hb] at h
  | true =>
    rw [hb, cond_true, List.mem_singleton] at h
    rw [h]; exact ⟨rfl, hb⟩
theorem at2_mem {r : Rules} {p : Place} {i j : Nat} {x : Mv} (h : x ∈ at2 r p i j) : x.1 = (i : Int) - 1 ∧ x.2.1 = (j : Int) ∧ allowedB r p x = true := by
  obtain ⟨k, _, hk⟩ := List.mem_flatMap.1 h
  obtain ⟨e, h2⟩ := at3_mem hk
  refine ⟨by rw [e], by rw [e], h2⟩
theorem at1_mem {r : Rules} {p : Place} {i : Nat} {x : Mv} (h : x ∈ at1 r p i) : x.1 = (i : Int) - 1 ∧ allowedB r p x = true := by
  obtain ⟨j, _, hj⟩ := List.mem_flatMap.1 h
  obtain ⟨h1, _, h3⟩ := at2_mem hj
  exact ⟨h1, h3⟩
theorem movesOf_mem {r : Rules} {p : Place} (x : Mv) : x ∈ movesOf r p ↔ allowedB r p x = true := by
  constructor
  · intro h
    obtain ⟨i, _, hi⟩ := List.mem_flatMap.1 h
    exact (at1_mem hi).2
  · intro h
    have hok : mvOk r p x = true := by unfold allowedB at h; simp only [Bool.and_eq_true] at h; exact h.1
    unfold mvOk at hok
    rw [decide_eq_true_eq] at hok
    obtain ⟨⟨a1, a2⟩, ⟨b1, b2⟩, c1, c2⟩ := hok
    have c2' : x.2.2.1 < ((r.2.2.2.1.length : Nat) : Int) := c2
    have e : (((((x.1 + 1).toNat : Nat) : Int) - 1, (((x.2.1.toNat : Nat) : Int), (((x.2.2.1.toNat : Nat) : Int), ()))) : Mv) = x := mv_eq (by show (((x.1 + 1).toNat : Nat) : Int) - 1 = x.1; omega) (by show ((x.2.1.toNat : Nat) : Int) = x.2.1; omega) (by show ((x.2.2.1.toNat : Nat) : Int) = x.2.2.1; omega)
    refine List.mem_flatMap.2 ⟨(x.1 + 1).toNat, List.mem_range.2 (by omega), List.mem_flatMap.2 ⟨x.2.1.toNat, List.mem_range.2 (by omega), List.mem_flatMap.2 ⟨x.2.2.1.toNat, List.mem_range.2 (by omega), ?_⟩⟩⟩
    unfold at3
    rw [e, h, cond_true, List.mem_singleton]
theorem movesOf_lt (r : Rules) (p : Place) : (movesOf r p).Pairwise (fun x y => mvLt x y = true) := by
  refine pw_range _ _ (fun i _ => pw_range _ _ (fun j _ => pw_range _ _ (fun k _ => ?_) fun k k' hk x hx y hy => ?_) fun j j' hj x hx y hy => ?_) fun i i' hi x hx y hy => ?_
  · unfold at3
    cases allowedB r p ((i : Int) - 1, ((j : Int), ((k : Int), ()))) <;> simp
  · obtain ⟨ex, _⟩ := at3_mem hx
    obtain ⟨ey, _⟩ := at3_mem hy
    have e1 : x.1 = (i : Int) - 1 := by rw [ex]
    have e2 : x.2.1 = (j : Int) := by rw [ex]
    have e3 : x.2.2.1 = (k : Int) := by rw [ex]
    have f1 : y.1 = (i : Int) - 1 := by rw [ey]
    have f2 : y.2.1 = (j : Int) := by rw [ey]
    have f3 : y.2.2.1 = (k' : Int) := by rw [ey]
    rw [lt_iff]; omega
  · obtain ⟨e1, e2, _⟩ := at2_mem hx
    obtain ⟨f1, f2, _⟩ := at2_mem hy
    rw [lt_iff]; omega
  · obtain ⟨e1, _⟩ := at1_mem hx
    obtain ⟨f1, _⟩ := at1_mem hy
    rw [lt_iff]; omega
theorem raw_mem {r : Rules} {p : Place} (h : Valid r p) (x : Mv) : x ∈ movesRaw r p ↔ allowedB r p x = true := by
  have hr := h.r0
  have hlen : ((p.1.length : Nat) : Int) = r.width * r.height := h.cells
  have hh := hand_len h
  unfold movesRaw
  rw [List.mem_append]
  constructor
  · rintro (hx | hx)
    · obtain ⟨s, hs, hx⟩ := List.mem_flatMap.1 hx
      rw [List.mem_range] at hs
      unfold putsAt at hx
      cases hp : putOk r p (s : Int) with
      | false => simp [hp] at hx
      | true =>
        rw [hp, cond_true] at hx
        obtain ⟨k, hk, hx⟩ := List.mem_flatMap.1 hx
        rw [List.mem_range] at hk
        cases hd : decide (handI p (k : Int) > 0) with
        | false => simp [hd] at hx
        | true =>
          rw [hd, cond_true, List.mem_singleton] at hx
          have hok : mvOk r p x = true := by
            unfold mvOk
            rw [decide_eq_true_eq, hx]
            simp only
            omega
          unfold allowedB
          rw [hok, Bool.true_and, hx]
          simp only [beq_t rfl, cond_true, hd, hp, Bool.and_self]
    · obtain ⟨s, hs, hx⟩ := List.mem_flatMap.1 hx
      rw [List.mem_range] at hs
      unfold goAt at hx
      cases hm : mineB p (cellI p (s : Int)) with
      | false => simp [hm] at hx
      | true =>
        have hcp : cellI p (s : Int) > 0 := by unfold mineB at hm; simp at hm; exact hm.1
        have hk := kind_rng h hcp
        obtain ⟨hpa, hmem⟩ := at_piece (r := r) hk.2.1 hk.2.2
        rw [hm, cond_true] at hx
        obtain ⟨w, hw, hx⟩ := List.mem_flatMap.1 hx
        obtain ⟨t, ht, hx⟩ := List.mem_map.1 hx
        have htr : 0 ≤ t ∧ t < r.width * r.height := way_mem_rng hr ht
        have hpr := hr.prom _ hmem
        have hbr : 0 ≤ becomes r p (kindOf (cellI p (s : Int))) t ∧ becomes r p (kindOf (cellI p (s : Int))) t < ((r.pieces.length : Nat) : Int) := by
          unfold becomes
          cases hb : (decide ((pieceI r (kindOf (cellI p (s : Int)))).2.2.1 > 0) && lastB r p.turn t) with
          | false => exact hk.2
          | true =>
            simp only [Bool.and_eq_true, decide_eq_true_eq] at hb
            rw [cond_true]; omega
        have hok : mvOk r p x = true := by
          unfold mvOk
          rw [decide_eq_true_eq, ← hx]
          simp only
          omega
        unfold allowedB goOk
        rw [hok, Bool.true_and, ← hx]
        simp only
        rw [beq_f (by omega), cond_false, hm, Bool.true_and, beq_t rfl, Bool.true_and, List.any_eq_true]
        exact ⟨w, hw, by simpa using ht⟩
  · intro hx
    unfold allowedB at hx
    rw [Bool.and_eq_true] at hx
    obtain ⟨hok, hx⟩ := hx
    unfold mvOk at hok
    rw [decide_eq_true_eq] at hok
    obtain ⟨⟨a1, a2⟩, ⟨b1, b2⟩, c1, c2⟩ := hok
    by_cases hm : x.1 = -1
    · rw [beq_t hm, cond_true, Bool.and_eq_true] at hx
      left
      have e1 : ((x.2.1.toNat : Nat) : Int) = x.2.1 := by omega
      have e2 : ((x.2.2.1.toNat : Nat) : Int) = x.2.2.1 := by omega
      refine List.mem_flatMap.2 ⟨x.2.1.toNat, List.mem_range.2 (by omega), ?_⟩
      unfold putsAt
      rw [e1, hx.2, cond_true]
      refine List.mem_flatMap.2 ⟨x.2.2.1.toNat, List.mem_range.2 (by omega), ?_⟩
      rw [e2, hx.1, cond_true, List.mem_singleton]
      exact mv_eq hm rfl rfl
    · rw [beq_f hm, cond_false] at hx
      unfold goOk at hx
      simp only [Bool.and_eq_true, beq_iff_eq, List.any_eq_true, decide_eq_true_eq] at hx
      obtain ⟨h1, h2, w, hw, ht⟩ := hx
      right
      have e1 : ((x.1.toNat : Nat) : Int) = x.1 := by omega
      refine List.mem_flatMap.2 ⟨x.1.toNat, List.mem_range.2 (by omega), ?_⟩
      unfold goAt
      rw [e1, h1, cond_true]
      refine List.mem_flatMap.2 ⟨w, hw, List.mem_map.2 ⟨x.2.1, ht, ?_⟩⟩
      exact mv_eq rfl rfl h2
/-- THE PROGRAM's MOVES ARE THE REFERENCE's -/
theorem list_spec {r : Rules} {p : Place} (h : Valid r p) : movesList r p = some (movesOf r p) := by
  rw [list_dd h]
  congr 1
  refine lt_unique (dd_lt (sort_pw _)) (movesOf_lt r p) fun z => ?_
  rw [dd_mem, sort_mem, raw_mem h, movesOf_mem]
end Go.Proofs.YteiohidcgimjlaaGreatDoor
namespace Go.Proofs.YteiohidcgimjlaaGreatDoor
open Go.Den
set_option linter.unusedVariables false
set_option linter.unusedSimpArgs false
set_option maxRecDepth 100000

def own (r : Rules) (p : Place) (pl x y : Int) : Bool := onB r x y && (decide (cellI p (sq r x y) > 0) && ((cellI p (sq r x y) - 1).tmod 2 == pl))
def runB (r : Rules) (p : Place) (pl : Int) (n : Nat) (x y dx dy : Int) : Bool := (List.range n).all fun i => own r p pl (x + (i : Int) * dx) (y + (i : Int) * dy)
theorem runB_cons (r : Rules) (p : Place) (pl : Int) (n : Nat) (x y dx dy : Int) : runB r p pl (n + 1) x y dx dy = (own r p pl x y && runB r p pl n (x + dx) (y + dy) dx dy) := by
  unfold runB
  rw [List.range_succ_eq_map, List.all_cons, List.all_map]
  have e : ((fun i : Nat => own r p pl (x + (i : Int) * dx) (y + (i : Int) * dy)) ∘ Nat.succ) = fun i : Nat => own r p pl (x + dx + (i : Int) * dx) (y + dy + (i : Int) * dy) := by
    funext i
    simp only [Function.comp]
    have e1 : x + ((i.succ : Nat) : Int) * dx = x + dx + (i : Int) * dx := by rw [show ((i.succ : Nat) : Int) = (i : Int) + 1 by omega, Int.add_mul]; omega
    have e2 : y + ((i.succ : Nat) : Int) * dy = y + dy + (i : Int) * dy := by rw [show ((i.succ : Nat) : Int) = (i : Int) + 1 by omega, Int.add_mul]; omega
    rw [e1, e2]
  rw [e]
  simp
theorem runB_iff {r : Rules} {p : Place} {pl : Int} {n : Nat} {x y dx dy : Int} : runB r p pl n x y dx dy = true ↔ ∀ i : Nat, i < n → own r p pl (x + (i : Int) * dx) (y + (i : Int) * dy) = true := by
  unfold runB
  rw [List.all_eq_true]
  exact ⟨fun h i hi => h i (List.mem_range.2 hi), fun h i hi => h i (List.mem_range.1 hi)⟩
theorem runB_rev {r : Rules} {p : Place} {pl : Int} {n : Nat} {x y dx dy : Int} (h : runB r p pl n x y dx dy = true) : runB r p pl n (x + ((n : Int) - 1) * dx) (y + ((n : Int) - 1) * dy) (-dx) (-dy) = true := by
  rw [runB_iff] at *
  intro i hi
  have := h (n - 1 - i) (by omega)
  have e1 : x + ((n : Int) - 1) * dx + (i : Int) * (-dx) = x + ((n - 1 - i : Nat) : Int) * dx := by
    rw [show ((n - 1 - i : Nat) : Int) = (n : Int) - 1 - (i : Int) by omega, Int.sub_mul ((n : Int) - 1), Int.mul_neg]; omega
  have e2 : y + ((n : Int) - 1) * dy + (i : Int) * (-dy) = y + ((n - 1 - i : Nat) : Int) * dy := by
    rw [show ((n - 1 - i : Nat) : Int) = (n : Int) - 1 - (i : Int) by omega, Int.sub_mul ((n : Int) - 1), Int.mul_neg]; omega
  rw [e1, e2]; exact this
theorem own_on {r : Rules} {p : Place} {pl x y : Int} (h : own r p pl x y = true) : onB r x y = true := by unfold own at h; rw [Bool.and_eq_true] at h; exact h.1
abbrev dX (d : Nat) : Int := getD' [(1 : Int), (0 : Int), (1 : Int), (1 : Int)] d 0
abbrev dY (d : Nat) : Int := getD' [(0 : Int), (1 : Int), (1 : Int), (-1 : Int)] d 0
abbrev eX (d : Nat) : Int := getD' [(-1 : Int), (0 : Int), (-1 : Int), (1 : Int)] d 0
abbrev eY (d : Nat) : Int := getD' [(0 : Int), (-1 : Int), (-1 : Int), (-1 : Int)] d 0
def lineB (r : Rules) (p : Place) (pl c : Int) : Bool := (List.range p.1.length).any fun s => (List.range 4).any fun d => runB r p pl c.toNat ((s : Int).tmod r.width) ((s : Int).tdiv r.width) (dX d) (dY d)
def linedB (r : Rules) (p : Place) (pl c : Int) : Bool := (List.range r.height.toNat).any fun y => (List.range r.width.toNat).any fun x => (List.range 4).any fun d => runB r p pl c.toNat (x : Int) (y : Int) (eX d) (eY d)
theorem sq_div {r : Rules} {x y : Int} (h : onB r x y = true) : (sq r x y).tmod r.width = x ∧ (sq r x y).tdiv r.width = y := by
  obtain ⟨h1, h2, h3, h4⟩ := onB_iff.1 h
  have h0 : 0 ≤ sq r x y := by unfold sq; have := Int.mul_nonneg h3 (show 0 ≤ r.width by omega); omega
  rw [Int.tmod_eq_emod_of_nonneg h0, Int.tdiv_eq_ediv_of_nonneg h0]
  unfold sq
  rw [Int.add_comm, Int.add_mul_emod_self_right, Int.add_mul_ediv_right _ _ (by omega), Int.emod_eq_of_lt h1 h2, Int.ediv_eq_zero_of_lt h1 h2]
  omega
theorem lineB_of {r : Rules} {p : Place} (h : Valid r p) {pl c x y : Int} {d : Nat} (hc : 1 ≤ c) (hd : d < 4) (hr : runB r p pl c.toNat x y (dX d) (dY d) = true) : lineB r p pl c = true := by
  have hon : onB r x y = true := by
    have := runB_iff.1 hr 0 (by omega)
    exact own_on (by simpa using this)
  have hs := sq_rng h.r0 hon
  have hlen : ((p.1.length : Nat) : Int) = r.width * r.height := h.cells
  unfold lineB
  rw [List.any_eq_true]
  refine ⟨(sq r x y).toNat, List.mem_range.2 (by omega), ?_⟩
  rw [List.any_eq_true]
  refine ⟨d, List.mem_range.2 hd, ?_⟩
  rw [Int.toNat_of_nonneg hs.1, (sq_div hon).1, (sq_div hon).2]
  exact hr
theorem linedB_of {r : Rules} {p : Place} (h : Valid r p) {pl c x y : Int} {d : Nat} (hc : 1 ≤ c) (hd : d < 4) (hr : runB r p pl c.toNat x y (eX d) (eY d) = true) : linedB r p pl c = true := by
  have hon : onB r x y = true := by
    have := runB_iff.1 hr 0 (by omega)
    exact own_on (by simpa using this)
  obtain ⟨h1, h2, h3, h4⟩ := onB_iff.1 hon
  unfold linedB
  rw [List.any_eq_true]
  refine ⟨y.toNat, List.mem_range.2 (by omega), ?_⟩
  rw [List.any_eq_true]
  refine ⟨x.toNat, List.mem_range.2 (by omega), ?_⟩
  rw [List.any_eq_true]
  refine ⟨d, List.mem_range.2 hd, ?_⟩
  rw [Int.toNat_of_nonneg h1, Int.toNat_of_nonneg h3]
  exact hr
theorem lined_line {r : Rules} {p : Place} (h : Valid r p) {pl c : Int} (hc : 1 ≤ c) : linedB r p pl c = lineB r p pl c := by
  rw [Bool.eq_iff_iff]
  constructor
  · intro hl
    unfold linedB at hl
    simp only [List.any_eq_true, List.mem_range] at hl
    obtain ⟨y, _, x, _, d, hd, hr⟩ := hl
    have h4 : d = 0 ∨ d = 1 ∨ d = 2 ∨ d = 3 := by omega
    rcases h4 with rfl | rfl | rfl | rfl
    · exact lineB_of h (d := 0) hc (by omega) (runB_rev hr)
    · exact lineB_of h (d := 1) hc (by omega) (runB_rev hr)
    · exact lineB_of h (d := 2) hc (by omega) (runB_rev hr)
    · exact lineB_of h (d := 3) hc (by omega) hr
  · intro hl
    unfold lineB at hl
    simp only [List.any_eq_true, List.mem_range] at hl
    obtain ⟨s, _, d, hd, hr⟩ := hl
    have h4 : d = 0 ∨ d = 1 ∨ d = 2 ∨ d = 3 := by omega
    rcases h4 with rfl | rfl | rfl | rfl
    · exact linedB_of h (d := 0) hc (by omega) (runB_rev hr)
    · exact linedB_of h (d := 1) hc (by omega) (runB_rev hr)
    · exact linedB_of h (d := 2) hc (by omega) (runB_rev hr)
    · exact linedB_of h (d := 3) hc (by omega) hr
theorem dX_rng (d : Nat) : -1 ≤ dX d ∧ dX d ≤ 1 := by
  match d with
  | 0 => decide
  | 1 => decide
  | 2 => decide
  | 3 => decide
  | n + 4 => simp [dX, getD']
theorem dY_rng (d : Nat) : -1 ≤ dY d ∧ dY d ≤ 1 := by
  match d with
  | 0 => decide
  | 1 => decide
  | 2 => decide
  | 3 => decide
  | n + 4 => simp [dY, getD']
theorem line3 {r : Rules} {p : Place} (h : Valid r p) {pl c : Int} (d : Nat) (hc : c ≤ 64) : ∀ (m : Nat) (x y n : Int), 0 ≤ n → n + m = c → (-1 ≤ x ∧ x ≤ 8) → (-1 ≤ y ∧ y ≤ 8) →
    ∃ n', iterW (endsLine_L3 c r p pl (((d : Int), ()), ())) ((x, y, n, ()), ()) = some ((n', ()), ()) ∧ (n' == c) = runB r p pl m x y (dX d) (dY d)
  | 0, x, y, n, h0, hn, hx, hy => by
    refine ⟨n, iterW_inr ?_, ?_⟩
    · unfold endsLine_L3
      have : decide (n < c) = false := by simp; omega
      simp only [this, cond_false, Option.bind_some]
    · rw [beq_t (by omega)]; rfl
  | m + 1, x, y, n, h0, hn, hx, hy => by
    have hr := h.r0
    have := hr.w8; have := hr.h8; have := hr.w1; have := hr.h1
    have ha := hr.area
    have hlt : decide (n < c) = true := by simp; omega
    have hoff : ((((decide (x < (0 : Int))) || (decide (x ≥ r.2.1))) || (decide (y < (0 : Int)))) || (decide (y ≥ r.2.2.1))) = !onB r x y := by
      rw [Bool.eq_iff_iff]
      simp only [Bool.or_eq_true, decide_eq_true_eq, Bool.not_eq_true', onB, decide_eq_false_iff_not]
      show ((x < 0 ∨ x ≥ r.width) ∨ y < 0) ∨ y ≥ r.height ↔ _
      omega
    have hown : (bif (decide (n < c)) then (bif ((((decide (x < (0 : Int))) || (decide (x ≥ r.2.1))) || (decide (y < (0 : Int)))) || (decide (y ≥ r.2.2.1))) then some ((false, ()), ())
        else Option.bind (at? p.1 (w64 ((w64 (y * r.2.1)) + x))) fun d4 =>
        req (imp (decide (d4 > (0 : Int))) true) (some ((((decide (d4 > (0 : Int))) && (((w64 (d4 - (1 : Int))).tmod (2 : Int)) == pl)), ()), ())))
        else some ((false, ()), ())) = some ((own r p pl x y, ()), ()) := by
      rw [hlt, cond_true, hoff]
      unfold own
      cases hb : onB r x y with
      | false => rfl
      | true =>
        have hs := sq_rng hr hb
        obtain ⟨b1, b2, b3, b4⟩ := onB_iff.1 hb
        have hmul := mul_rng (show 0 ≤ r.width by omega) b3 b4
        have w1 : w64 (y * r.2.1) = y * r.2.1 := w64_id (by show _ ≤ y * r.width; omega) (by show y * r.width ≤ _; omega)
        have w2 : w64 (y * r.2.1 + x) = sq r x y := w64_id (by show _ ≤ sq r x y; omega) (by show sq r x y ≤ _; omega)
        have hcs := cell_small h (sq r x y)
        rw [w1, w2, at_cell (p := p) hs.1 (by rw [h.cells]; exact hs.2)]
        simp only [Bool.not_true, cond_false, Option.bind_some, show ∀ b, imp b true = true from fun b => by cases b <;> rfl, req_true, Bool.true_and]
        rw [w64_id (n := cellI p (sq r x y) - 1) (by omega) (by omega)]
    rw [runB_cons]
    cases ho : own r p pl x y with
    | false =>
      refine ⟨n, iterW_inr ?_, ?_⟩
      · unfold endsLine_L3
        rw [hown, ho]
        rfl
      · rw [beq_f (by omega)]; rfl
    | true =>
      obtain ⟨b1, b2, b3, b4⟩ := onB_iff.1 (own_on ho)
      have r1 := dX_rng d
      have r2 := dY_rng d
      obtain ⟨n', e1, e2⟩ := line3 h (pl := pl) d hc m (x + dX d) (y + dY d) (n + 1) (by omega) (by omega) (by omega) (by omega)
      refine ⟨n', ?_, by rw [e2]; simp⟩
      rw [iterW_inl (y := ((x + dX d, y + dY d, n + 1, ()), ())) (by
        unfold endsLine_L3
        rw [hown, ho]
        simp only [Option.bind_some, cond_true, Int.toNat_natCast]
        rw [w64_id (n := x + dX d) (by omega) (by omega), w64_id (n := y + dY d) (by omega) (by omega), w64_id (n := n + 1) (by omega) (by omega)])]
      exact e1
theorem line_spec {r : Rules} {p : Place} (h : Valid r p) (pl : Int) {c : Int} (hc1 : 1 ≤ c) (hc : c ≤ 64) : endsLine r p pl c = some (lineB r p pl c) := by
  have hr := h.r0
  have := hr.w8; have := hr.h8; have := hr.w1; have := hr.h1
  have ha := hr.area
  have hlen : ((p.1.length : Nat) : Int) = r.width * r.height := h.cells
  have hq : (r.2.1 != 0) = true := bne_t (by show ¬ r.width = 0; omega)
  unfold endsLine
  have hL := iterW_any (List.range p.1.length) (fun s => (List.range 4).any fun d => runB r p pl c.toNat ((s : Int).tmod r.width) ((s : Int).tdiv r.width) (dX d) (dY d)) (endsLine_L1 p r c pl) (.inr true) (.inl ((), ())) (fun s hs => by
    have hs' : s < p.1.length := by simpa using hs
    have hdv := div_rng hr (show (0 : Int) ≤ (s : Int) by omega) (show (s : Int) < r.width * r.height by omega)
    have hL2 := iterW_any (List.range 4) (fun d => runB r p pl c.toNat ((s : Int).tmod r.width) ((s : Int).tdiv r.width) (dX d) (dY d)) (endsLine_L2 r c p pl (((s : Int), ()), ())) (.inr (.inr (.inr (.inr true)))) (.inl ((), ())) (fun d hd => by
      have hd' : d < 4 := by simpa using hd
      have w1 : w64 ((s : Int).tdiv r.2.1) = (s : Int).tdiv r.width := w64_id (by show _ ≤ (s : Int).tdiv r.width; omega) (by show (s : Int).tdiv r.width ≤ _; omega)
      obtain ⟨n', e1, e2⟩ := line3 h (pl := pl) (c := c) d hc c.toNat ((s : Int).tmod r.width) ((s : Int).tdiv r.width) 0 (by omega) (by omega) (by omega) (by omega)
      unfold endsLine_L2
      simp only [show decide ((d : Int) < 4) = true by simp; omega, cond_true, show inb (d : Int) 4 = true from inb_iff.2 ⟨by omega, by omega⟩, req_true, hq, w1]
      rw [show ((s : Int).tmod r.2.1) = (s : Int).tmod r.width from rfl, e1, Option.bind_some]
      simp only [List.getElem_range]
      rw [← e2, w64_id (n := (d : Int) + 1) (by omega) (by omega)]
      cases (n' == c) <;> rfl) (by
      unfold endsLine_L2
      rfl)
    unfold endsLine_L1
    simp only [show decide ((s : Int) < ((p.1.length : Nat) : Int)) = true by simp; omega, cond_true, List.getElem_range]
    rw [hL2, w64_id (n := (s : Int) + 1) (by omega) (by omega)]
    cases (List.range 4).any (fun d => runB r p pl c.toNat ((s : Int).tmod r.width) ((s : Int).tdiv r.width) (dX d) (dY d)) <;> rfl) (by
    unfold endsLine_L1
    simp)
  rw [hL]
  unfold lineB
  cases (List.range p.1.length).any (fun s => (List.range 4).any fun d => runB r p pl c.toNat ((s : Int).tmod r.width) ((s : Int).tdiv r.width) (dX d) (dY d)) <;> rfl
theorem eXY_rng (d : Nat) (hd : d < 4) : (-1 ≤ eX d ∧ eX d ≤ 1) ∧ (-1 ≤ eY d ∧ eY d ≤ 1) ∧ ¬ (eX d = 0 ∧ eY d = 0) := by
  have h4 : d = 0 ∨ d = 1 ∨ d = 2 ∨ d = 3 := by omega
  rcases h4 with rfl | rfl | rfl | rfl <;> decide
theorem small_mul {n d : Int} (h0 : 0 ≤ n) (h1 : -1 ≤ d) (h2 : d ≤ 1) : (d = 0 ∧ n * d = 0) ∨ (d = 1 ∧ n * d = n) ∨ (d = -1 ∧ n * d = -n) := by
  have : d = 0 ∨ d = 1 ∨ d = -1 := by omega
  rcases this with rfl | rfl | rfl <;> simp
end Go.Proofs.YteiohidcgimjlaaGreatDoor
namespace Go.Proofs.YteiohidcgimjlaaGreatDoor
open Go.Den
set_option linter.unusedVariables false
set_option linter.unusedSimpArgs false
set_option maxRecDepth 100000

def reachB (r : Rules) (p : Place) (x : End) (mover : Int) : Bool := (List.range p.1.length).any fun s => (cellI p (s : Int) == 2 * x.2.1 + mover + 1) && lastB r mover (s : Int)
def fewOf (p : Place) (x : End) (mover : Int) : Int := ((p.1.countP (fun c => c == 2 * x.2.1 + 1 - mover + 1) : Nat) : Int)
def metB (r : Rules) (p : Place) (x : End) (mover : Int) : Bool := bif x.1 == 0 then lineB r p mover x.2.2.1 else bif x.1 == 1 then reachB r p x mover else decide (fewOf p x mover < x.2.2.1)
structure EndOk (r : Rules) (x : End) : Prop where
  kind : 0 ≤ x.1 ∧ x.1 ≤ 2
  cnt : x.1 = 0 → 1 ≤ x.2.2.1 ∧ x.2.2.1 ≤ 64
  pc : 0 ≤ x.2.1 ∧ x.2.1 ≤ 6
theorem Valid.endOk {r : Rules} {p : Place} (h : Valid r p) {x : End} (hx : x ∈ r.ends) : EndOk r x := by
  obtain ⟨h1, h2, h3⟩ := h.r0.ends x hx
  have ht := h.r0.t6
  refine ⟨h1, fun e => ?_, ?_⟩
  · rw [if_neg (by omega)] at h2; exact h2
  · split at h3 <;> omega
theorem cell_get (p : Place) (i : Nat) (hi : i < p.1.length) : cellI p (i : Int) = p.1[i] := by
  unfold cellI
  rw [List.getD_eq_getElem?_getD, Int.toNat_natCast]
  simp [hi]
theorem holds_spec {r : Rules} {p : Place} (h : Valid r p) {x : End} (hx : EndOk r x) {mover : Int} (hm : mover = 0 ∨ mover = 1) : endsHolds r p x mover = some (metB r p x mover) := by
  have hr := h.r0
  have ha := hr.area
  have h64 := area_len h
  have hlen : ((p.1.length : Nat) : Int) = r.width * r.height := h.cells
  have hp := hx.pc
  unfold endsHolds metB
  by_cases k0 : x.1 = 0
  · rw [beq_t k0, cond_true, cond_true, line_spec h mover (hx.cnt k0).1 (hx.cnt k0).2]
    rfl
  · rw [beq_f k0, cond_false, cond_false]
    by_cases k1 : x.1 = 1
    · rw [beq_t k1, cond_true, cond_true]
      have hL := iterW_any (List.range p.1.length) (fun s => (cellI p (s : Int) == 2 * x.2.1 + mover + 1) && lastB r mover (s : Int)) (endsHolds_L1 p x mover r) (.inr (.inr true)) (.inl ((), ())) (fun s hs => by
        have hs' : s < p.1.length := by simpa using hs
        unfold endsHolds_L1
        simp only [show decide ((s : Int) < ((p.1.length : Nat) : Int)) = true by simp; omega, cond_true, List.getElem_range]
        rw [at_cell (p := p) (s := (s : Int)) (by omega) (by show (s : Int) < ((p.1.length : Nat) : Int); omega), Option.bind_some, isLast_spec hr mover (by omega) (by omega)]
        rw [w64_id (n := 2 * x.2.1) (by omega) (by omega), w64_id (n := 2 * x.2.1 + mover) (by omega) (by omega), w64_id (n := 2 * x.2.1 + mover + 1) (by omega) (by omega), w64_id (n := (s : Int) + 1) (by omega) (by omega)]
        cases (cellI p (s : Int) == 2 * x.2.1 + mover + 1) <;> cases lastB r mover (s : Int) <;> rfl) (by
        unfold endsHolds_L1
        simp)
      rw [hL]
      unfold reachB
      cases (List.range p.1.length).any (fun s => (cellI p (s : Int) == 2 * x.2.1 + mover + 1) && lastB r mover (s : Int)) <;> rfl
    · rw [beq_f k1, cond_false, cond_false, Option.bind_some, Sum.elim_inl]
      have hL := iter_count p.1 (fun c => c == 2 * x.2.1 + 1 - mover + 1) (endsHolds_L2 p x mover) (fun c => ((c, ()), ())) (fun i hi c c0 ci => by
        unfold endsHolds_L2
        simp only [show decide ((i : Int) < ((p.1.length : Nat) : Int)) = true by simp; omega, cond_true]
        rw [at_cell (p := p) (s := (i : Int)) (by omega) (by show (i : Int) < ((p.1.length : Nat) : Int); omega), Option.bind_some, cell_get p i hi]
        rw [w64_id (n := 2 * x.2.1) (by omega) (by omega), w64_id (n := 2 * x.2.1 + 1) (by omega) (by omega), w64_id (n := 2 * x.2.1 + 1 - mover) (by omega) (by omega), w64_id (n := 2 * x.2.1 + 1 - mover + 1) (by omega) (by omega), w64_id (n := (i : Int) + 1) (by omega) (by omega), w64_id (n := c + 1) (by omega) (by omega)]
        cases (p.1[i] == 2 * x.2.1 + 1 - mover + 1) <;> rfl) (fun c => by
        unfold endsHolds_L2
        simp)
      rw [hL]
      rfl
/-- the answer of a condition that is met -/
def endE (r : Rules) (p : Place) (i : Nat) : Option (((Unit) × (Unit)) ⊕ Int) := match r.2.2.2.2.2.2.2.1[i]? with
  | some x => bif metB r p x (1 - p.turn) then some (.inr (bif x.2.2.2.1 then 1 + p.turn else 1 + (1 - p.turn))) else none
  | none => none
def blockedV (r : Rules) (p : Place) : Int := bif r.blocked == 0 then 1 + (1 - p.turn) else bif r.blocked == 1 then 1 + p.turn else 3
def resultOf (r : Rules) (p : Place) : Int := match scan (endE r p) (.inl ((), ())) 0 r.2.2.2.2.2.2.2.1.length with
  | .inl _ => bif (r.quiet != 0) && decide (p.quiet ≥ r.quiet) then 3 else bif decide ((((movesOf r p).length : Nat) : Int) > 0) then 0 else blockedV r p
  | .inr v => v
theorem turn_w {r : Rules} {p : Place} (h : Valid r p) : w64 ((1 : Int) - p.2.2.1) = 1 - p.turn ∧ w64 ((1 : Int) + p.2.2.1) = 1 + p.turn ∧ w64 (1 + (1 - p.turn)) = 1 + (1 - p.turn) ∧ w64 (1 + p.turn) = 1 + p.turn := by
  have ht := h.turn
  refine ⟨w64_id (by show _ ≤ 1 - p.turn; omega) (by show 1 - p.turn ≤ _; omega), w64_id (by show _ ≤ 1 + p.turn; omega) (by show 1 + p.turn ≤ _; omega), w64_id (by omega) (by omega), w64_id (by omega) (by omega)⟩
theorem result_spec {r : Rules} {p : Place} (h : Valid r p) : endsResult r p = some (resultOf r p) := by
  have ht := h.turn
  obtain ⟨t1, t2, t3, t4⟩ := turn_w h
  have h6 : r.2.2.2.2.2.2.2.1.length ≤ 6 := h.r0.ends6
  unfold endsResult resultOf
  have hL := iterW_scan r.2.2.2.2.2.2.2.1.length (endsResult_L1 r p) (endE r p) (.inl ((), ())) (fun i hi => by
    unfold endsResult_L1 endE
    rw [List.getElem?_eq_getElem hi]
    simp only [show decide ((i : Int) < ((r.2.2.2.2.2.2.2.1.length : Nat) : Int)) = true by simp; omega, cond_true]
    rw [at?_eq r.2.2.2.2.2.2.2.1 (i : Int) (by omega) (by omega), Option.bind_some, t1]
    simp only [Int.toNat_natCast]
    rw [holds_spec h (h.endOk (List.getElem_mem hi)) (by omega), Option.bind_some]
    cases metB r p r.2.2.2.2.2.2.2.1[i] (1 - p.turn)
    · simp only [cond_false]
      rw [w64_id (n := (i : Int) + 1) (by omega) (by omega)]
      rfl
    · simp only [cond_true, show decide ((i : Int) ≥ 0) = true by simp, Option.bind_some]
      unfold endsWins
      rw [t3, show p.2.2.1 = p.turn from rfl, t4]
      cases (r.2.2.2.2.2.2.2.1[i]).2.2.2.1 <;> rfl) (by
    unfold endsResult_L1
    simp)
  rw [hL, Option.bind_some]
  cases scan (endE r p) (.inl ((), ())) 0 r.2.2.2.2.2.2.2.1.length with
  | inr v => rfl
  | inl u =>
    simp only [Sum.elim_inl]
    rw [show ((r.2.2.2.2.2.2.2.2.2.1 != (0 : Int)) && (decide (p.2.2.2.1 ≥ r.2.2.2.2.2.2.2.2.2.1))) = ((r.quiet != 0) && decide (p.quiet ≥ r.quiet)) from rfl]
    cases ((r.quiet != 0) && decide (p.quiet ≥ r.quiet))
    · rw [cond_false, cond_false, list_spec h, Option.bind_some]
      cases decide ((((movesOf r p).length : Nat) : Int) > 0)
      · rw [cond_false, cond_false, t1]
        unfold blockedV endsWins
        rw [t3, show p.2.2.1 = p.turn from rfl, t4, show r.2.2.2.2.2.2.2.2.1 = r.blocked from rfl]
        cases (r.blocked == 0) <;> cases (r.blocked == 1) <;> rfl
      · rfl
    · rfl
theorem iter_fold2 {A C R : Type} (n : Nat) (f : ((A × C × Int × Unit) × Unit) → Option (((A × C × Int × Unit) × Unit) ⊕ R)) (a : Nat → A) (c : Nat → C) (res : R)
    (hs : ∀ i, i < n → f ((a i, c i, (i : Int), ()), ()) = some (.inl ((a (i + 1), c (i + 1), ((i : Int) + 1), ()), ()))) (he : f ((a n, c n, (n : Int), ()), ()) = some (.inr res)) :
    iterW f ((a 0, c 0, (0 : Int), ()), ()) = some res :=
  iterW_states (f := f) n (fun i => ((a i, c i, (i : Int), ()), ())) res (fun i hi => by rw [hs i hi]; rfl) he
end Go.Proofs.YteiohidcgimjlaaGreatDoor
namespace Go.Proofs.YteiohidcgimjlaaGreatDoor
open Go.Den
set_option linter.unusedVariables false
set_option linter.unusedSimpArgs false
set_option maxRecDepth 100000

def pieceV (p : Place) (m : Mv) : Int := 2 * m.2.2.1 + p.turn + 1
def cellsA (p : Place) (m : Mv) : List Int := (bif decide (m.1 ≥ 0) then p.1.set m.1.toNat 0 else p.1).set m.2.1.toNat (pieceV p m)
def handD (m : Mv) (h : List Int) : List Int := bif decide (m.1 ≥ 0) then h else h.set m.2.2.1.toNat (h.getD m.2.2.1.toNat 0 - 1)
def handK (r : Rules) (c : Int) (h : List Int) : List Int := bif decide (c > 0) && r.keeps then h.set (kindOf c).toNat (if 1000 < h.getD (kindOf c).toNat 0 + 1 then 1000 else h.getD (kindOf c).toNat 0 + 1) else h
def handA (r : Rules) (p : Place) (m : Mv) (h : List Int) : List Int := handK r (cellI p m.2.1) (handD m h)
def quietA (p : Place) (m : Mv) : Int := bif decide (cellI p m.2.1 > 0) || decide (m.1 < 0) then 0 else if 200 < p.quiet + 1 then 200 else p.quiet + 1
/-- the position after a move -/
def afterOf (r : Rules) (p : Place) (m : Mv) : Place := (cellsA p m, ((bif p.turn == 0 then handA r p m p.2.1.1 else p.2.1.1), (bif p.turn == 0 then p.2.1.2.1 else handA r p m p.2.1.2.1), ()), 1 - p.turn, quietA p m, ())
theorem copy_spec {r : Rules} {p : Place} (h : Valid r p) : placeCopy p = some p := by
  have h64 := area_len h
  have ht := h.r0.t6
  have a0 : p.2.1.1.length = r.pieces.length := h.l0
  have a1 : p.2.1.2.1.length = r.pieces.length := h.l1
  unfold placeCopy
  rw [clone_ok p.1 (by omega), clone_ok p.2.1.1 (by omega), clone_ok p.2.1.2.1 (by omega)]
  simp only [Option.bind_some, agree_self]
theorem allowed_rng {r : Rules} {p : Place} {m : Mv} (ha : allowedB r p m = true) : (-1 ≤ m.1 ∧ m.1 < ((p.1.length : Nat) : Int)) ∧ (0 ≤ m.2.1 ∧ m.2.1 < ((p.1.length : Nat) : Int)) ∧ (0 ≤ m.2.2.1 ∧ m.2.2.1 < ((r.pieces.length : Nat) : Int)) := by
  unfold allowedB mvOk at ha
  rw [Bool.and_eq_true, decide_eq_true_eq] at ha
  exact ha.1
theorem allowed_put {r : Rules} {p : Place} {m : Mv} (ha : allowedB r p m = true) (hm : m.1 = -1) : handI p m.2.2.1 > 0 ∧ cellI p m.2.1 = 0 := by
  unfold allowedB putOk at ha
  rw [beq_t hm, cond_true] at ha
  simp only [Bool.and_eq_true, decide_eq_true_eq, beq_iff_eq] at ha
  exact ⟨ha.2.1, ha.2.2.1⟩
theorem handD_len (m : Mv) (h : List Int) : (handD m h).length = h.length := by unfold handD; cases decide (m.1 ≥ 0) <;> simp
theorem handK_len (r : Rules) (c : Int) (h : List Int) : (handK r c h).length = h.length := by unfold handK; cases (decide (c > 0) && r.keeps) <;> simp
theorem getD_rng {l : List Int} {b : Int} (hb : 0 ≤ b) (h : ∀ c ∈ l, 0 ≤ c ∧ c ≤ b) (i : Nat) : 0 ≤ l.getD i 0 ∧ l.getD i 0 ≤ b := by
  rw [List.getD_eq_getElem?_getD]
  cases e : l[i]? with
  | none => simp; exact hb
  | some c => exact h c (List.mem_of_getElem? e)
theorem handD_rng {r : Rules} {p : Place} {m : Mv} (h : Valid r p) (ha : allowedB r p m = true) : ∀ c ∈ handD m (handOf p), 0 ≤ c ∧ c ≤ 1000 := by
  have hr := hand_rng h
  unfold handD
  cases hd : decide (m.1 ≥ 0) with
  | true => exact hr
  | false =>
    intro c hc
    rw [cond_false] at hc
    have hm : m.1 = -1 := by have := (allowed_rng ha).1.1; simp at hd; omega
    have hp := (allowed_put ha hm).1
    have hg := getD_rng (by omega) hr m.2.2.1.toNat
    rcases List.mem_or_eq_of_mem_set hc with h1 | h1
    · exact hr c h1
    · unfold handI at hp; omega
theorem handK_rng {r : Rules} {c : Int} {h : List Int} (hh : ∀ x ∈ h, 0 ≤ x ∧ x ≤ 1000) : ∀ x ∈ handK r c h, 0 ≤ x ∧ x ≤ 1000 := by
  unfold handK
  cases (decide (c > 0) && r.keeps) with
  | false => exact hh
  | true =>
    intro x hx
    have hg := getD_rng (by omega) hh (kindOf c).toNat
    rcases List.mem_or_eq_of_mem_set hx with h1 | h1
    · exact hh x h1
    · rw [h1]; split <;> omega
theorem make_hand {r : Rules} {p : Place} {m : Mv} (hv : Valid r p) (ha : allowedB r p m = true) (l : List Int) (hl : l = handOf p) :
    (decide (m.1 ≥ 0) = false → inb m.2.2.1 l.length = true ∧ w64 (getD' l m.2.2.1.toNat 0 - 1) = l.getD m.2.2.1.toNat 0 - 1) ∧
    (decide (cellI p m.2.1 > 0) = true → inb (kindOf (cellI p m.2.1)) (handD m l).length = true ∧ w64 (getD' (handD m l) (kindOf (cellI p m.2.1)).toNat 0 + 1) = (handD m l).getD (kindOf (cellI p m.2.1)).toNat 0 + 1) := by
  subst hl
  have hr := hand_rng hv
  have hl := hand_len hv
  obtain ⟨r1, r2, r3⟩ := allowed_rng ha
  refine ⟨fun _ => ⟨inb_iff.2 ⟨r3.1, by rw [hl]; exact r3.2⟩, ?_⟩, fun hc => ⟨?_, ?_⟩⟩
  · have := getD_rng (by omega) hr m.2.2.1.toNat
    exact w64_id (by show _ ≤ (handOf p).getD m.2.2.1.toNat 0 - 1; omega) (by show (handOf p).getD m.2.2.1.toNat 0 - 1 ≤ _; omega)
  · have hk := kind_rng hv (of_decide_eq_true hc)
    exact inb_iff.2 ⟨hk.2.1, by rw [handD_len, hl]; exact hk.2.2⟩
  · have := getD_rng (by omega) (handD_rng hv ha) (kindOf (cellI p m.2.1)).toNat
    exact w64_id (by show _ ≤ (handD m (handOf p)).getD (kindOf (cellI p m.2.1)).toNat 0 + 1; omega) (by show (handD m (handOf p)).getD (kindOf (cellI p m.2.1)).toNat 0 + 1 ≤ _; omega)
theorem make_spec {r : Rules} {p : Place} {m : Mv} (h : Valid r p) (ha : allowedB r p m = true) : movesMake r p m = some (afterOf r p m) := by
  obtain ⟨r1, r2, r3⟩ := allowed_rng ha
  have ht6 := h.r0.t6
  have hq := h.quiet
  have htn := h.turn
  have h64 := area_len h
  have hto : inb m.2.1 p.1.length = true := inb_iff.2 r2
  have wv : w64 (w64 (w64 (2 * m.2.2.1) + p.2.2.1) + 1) = pieceV p m := by
    unfold pieceV
    rw [show p.2.2.1 = p.turn from rfl, w64_id (n := 2 * m.2.2.1) (by omega) (by omega), w64_id (n := 2 * m.2.2.1 + p.turn) (by omega) (by omega), w64_id (by omega) (by omega)]
  have wq : w64 (p.2.2.2.1 + 1) = p.quiet + 1 := w64_id (by show _ ≤ p.quiet + 1; omega) (by show p.quiet + 1 ≤ _; omega)
  have wt : w64 (1 - p.2.2.1) = 1 - p.turn := (turn_w h).1
  have hcell : getD' p.1 m.2.1.toNat 0 = cellI p m.2.1 := rfl
  have hin : inb p.2.2.1 2 = true := inb_iff.2 (by show 0 ≤ p.turn ∧ p.turn < ((2 : Nat) : Int); omega)
  have wk : decide (cellI p m.2.1 > 0) = true → w64 ((w64 (cellI p m.2.1 - 1)).tdiv 2) = kindOf (cellI p m.2.1) := fun hc => (kind_rng h (of_decide_eq_true hc)).1
  have hho : handOf p = if p.turn = 0 then p.2.1.1 else p.2.1.2.1 := handOf_eq h
  have hneg : decide (m.1 < 0) = !decide (m.1 ≥ 0) := by
    rw [Bool.eq_iff_iff]
    simp only [decide_eq_true_eq, Bool.not_eq_true', decide_eq_false_iff_not]
    omega
  unfold movesMake afterOf
  rw [copy_spec h, Option.bind_some]
  simp only [hcell, hto, req_true, wv, wq, wt, hin, hneg]
  rcases htn with e | e
  · have e' : p.2.2.1 = 0 := e
    rw [if_pos e] at hho
    obtain ⟨k1, k2⟩ := make_hand h ha p.2.1.1 hho.symm
    simp only [e', e, show ((0 : Int) == 0) = true from rfl, cond_true]
    unfold handA cellsA quietA handK
    simp only [hneg]
    cases hd : decide (m.1 ≥ 0) with
    | true =>
      have hf : inb m.1 p.1.length = true := inb_iff.2 ⟨of_decide_eq_true hd, r1.2⟩
      have hD : handD m p.2.1.1 = p.2.1.1 := by unfold handD; rw [hd]; rfl
      rw [hD] at k2 ⊢
      simp only [cond_true, hf, req_true, Option.bind_some, List.length_set, hto]
      cases hc : decide (cellI p m.2.1 > 0) with
      | false => rfl
      | true =>
        obtain ⟨k3, k4⟩ := k2 hc
        cases hk : r.2.2.2.2.2.2.1 with
        | false => rw [show r.keeps = false from hk]; rfl
        | true =>
          rw [show r.keeps = true from hk]
          simp only [Bool.true_and, cond_true, wk hc, k3, req_true, k4, Option.bind_some]
          rfl
    | false =>
      obtain ⟨k5, k6⟩ := k1 hd
      have hD : handD m p.2.1.1 = p.2.1.1.set m.2.2.1.toNat (p.2.1.1.getD m.2.2.1.toNat 0 - 1) := by unfold handD; rw [hd]; rfl
      have hz : decide (cellI p m.2.1 > 0) = false := by
        have := (allowed_put ha (by simp at hd; omega)).2
        rw [this]; rfl
      rw [hD]
      simp only [cond_false, k5, k6, req_true, Option.bind_some, hz, Bool.false_and, hto]
      rfl
  · have e' : p.2.2.1 = 1 := e
    rw [if_neg (by omega)] at hho
    obtain ⟨k1, k2⟩ := make_hand h ha p.2.1.2.1 hho.symm
    simp only [e', e, show ((1 : Int) == 0) = false from rfl, cond_false]
    unfold handA cellsA quietA handK
    simp only [hneg]
    cases hd : decide (m.1 ≥ 0) with
    | true =>
      have hf : inb m.1 p.1.length = true := inb_iff.2 ⟨of_decide_eq_true hd, r1.2⟩
      have hD : handD m p.2.1.2.1 = p.2.1.2.1 := by unfold handD; rw [hd]; rfl
      rw [hD] at k2 ⊢
      simp only [cond_true, hf, req_true, Option.bind_some, List.length_set, hto]
      cases hc : decide (cellI p m.2.1 > 0) with
      | false => rfl
      | true =>
        obtain ⟨k3, k4⟩ := k2 hc
        cases hk : r.2.2.2.2.2.2.1 with
        | false => rw [show r.keeps = false from hk]; rfl
        | true =>
          rw [show r.keeps = true from hk]
          simp only [Bool.true_and, cond_true, wk hc, k3, req_true, k4, Option.bind_some]
          rfl
    | false =>
      obtain ⟨k5, k6⟩ := k1 hd
      have hD : handD m p.2.1.2.1 = p.2.1.2.1.set m.2.2.1.toNat (p.2.1.2.1.getD m.2.2.1.toNat 0 - 1) := by unfold handD; rw [hd]; rfl
      have hz : decide (cellI p m.2.1 > 0) = false := by
        have := (allowed_put ha (by simp at hd; omega)).2
        rw [this]; rfl
      rw [hD]
      simp only [cond_false, k5, k6, req_true, Option.bind_some, hz, Bool.false_and, hto]
      rfl
theorem after_valid {r : Rules} {p : Place} {m : Mv} (h : Valid r p) (ha : allowedB r p m = true) : Valid r (afterOf r p m) := by
  obtain ⟨r1, r2, r3⟩ := allowed_rng ha
  have htn := h.turn
  have hq := h.quiet
  have hK := handK_rng (r := r) (c := cellI p m.2.1) (handD_rng h ha)
  have hho := handOf_eq h
  refine ⟨h.r0, ?_, ?_, ?_, ?_, ?_, ?_, ?_, ?_⟩
  · show ((((bif decide (m.1 ≥ 0) then p.1.set m.1.toNat 0 else p.1).set m.2.1.toNat (pieceV p m)).length : Nat) : Int) = _
    have : ((bif decide (m.1 ≥ 0) then p.1.set m.1.toNat 0 else p.1).set m.2.1.toNat (pieceV p m)).length = p.1.length := by cases decide (m.1 ≥ 0) <;> simp
    rw [this]; exact h.cells
  · show (bif p.turn == 0 then handA r p m p.2.1.1 else p.2.1.1).length = _
    cases (p.turn == 0)
    · exact h.l0
    · rw [cond_true]; unfold handA; rw [handK_len, handD_len]; exact h.l0
  · show (bif p.turn == 0 then p.2.1.2.1 else handA r p m p.2.1.2.1).length = _
    cases (p.turn == 0)
    · rw [cond_false]; unfold handA; rw [handK_len, handD_len]; exact h.l1
    · exact h.l1
  · intro c hc
    have hc : c ∈ (bif decide (m.1 ≥ 0) then p.1.set m.1.toNat 0 else p.1).set m.2.1.toNat (pieceV p m) := hc
    rcases List.mem_or_eq_of_mem_set hc with h1 | h1
    · cases hd : decide (m.1 ≥ 0) with
      | false => rw [hd, cond_false] at h1; exact h.cell c h1
      | true =>
        rw [hd, cond_true] at h1
        rcases List.mem_or_eq_of_mem_set h1 with h2 | h2
        · exact h.cell c h2
        · have := h.r0.t1; omega
    · rw [h1]; unfold pieceV; omega
  · intro c hc
    have hc : c ∈ (bif p.turn == 0 then handA r p m p.2.1.1 else p.2.1.1) := hc
    rcases htn with e | e
    · rw [beq_t e, cond_true] at hc
      rw [if_pos e] at hho
      have hc : c ∈ handK r (cellI p m.2.1) (handD m p.h0) := hc
      rw [← hho] at hc
      exact hK c hc
    · rw [beq_f (by omega), cond_false] at hc; exact h.hand0 c hc
  · intro c hc
    have hc : c ∈ (bif p.turn == 0 then p.2.1.2.1 else handA r p m p.2.1.2.1) := hc
    rcases htn with e | e
    · rw [beq_t e, cond_true] at hc; exact h.hand1 c hc
    · rw [beq_f (by omega), cond_false] at hc
      rw [if_neg (by omega)] at hho
      have hc : c ∈ handK r (cellI p m.2.1) (handD m p.h1) := hc
      rw [← hho] at hc
      exact hK c hc
  · show 1 - p.turn = 0 ∨ 1 - p.turn = 1
    omega
  · show 0 ≤ quietA p m ∧ quietA p m ≤ 200
    unfold quietA
    cases (decide (cellI p m.2.1 > 0) || decide (m.1 < 0))
    · rw [cond_false]; split <;> omega
    · simp
/-! ### the reference -/
def newC (p : Place) (m : Mv) (i : Nat) : Int := bif ((i : Int) == m.2.1) then pieceV p m else bif ((i : Int) == m.1) then 0 else p.1.getD i 0
theorem newC_list {p : Place} {m : Mv} (h1 : -1 ≤ m.1) (h2 : 0 ≤ m.2.1 ∧ m.2.1 < ((p.1.length : Nat) : Int)) : (List.range p.1.length).map (newC p m) = cellsA p m := by
  have hl : (cellsA p m).length = p.1.length := by unfold cellsA; cases decide (m.1 ≥ 0) <;> simp
  apply List.ext_getElem?
  intro i
  by_cases hi : i < p.1.length
  · rw [List.getElem?_map, List.getElem?_range hi, Option.map_some]
    unfold newC cellsA
    have hg : p.1[i]? = some (p.1.getD i 0) := by rw [List.getD_eq_getElem?_getD, List.getElem?_eq_getElem hi]; rfl
    have hl2 : (bif decide (m.1 ≥ 0) then p.1.set m.1.toNat 0 else p.1).length = p.1.length := by cases decide (m.1 ≥ 0) <;> simp
    rw [List.getElem?_set]
    by_cases e : (i : Int) = m.2.1
    · rw [beq_t e, cond_true, if_pos (by omega), if_pos (by rw [hl2]; omega)]
    · rw [beq_f e, cond_false, if_neg (by omega)]
      by_cases c : m.1 ≥ 0
      · rw [show decide (m.1 ≥ 0) = true by simp; omega, cond_true, List.getElem?_set]
        by_cases e2 : (i : Int) = m.1
        · rw [beq_t e2, cond_true, if_pos (by omega), if_pos (by omega)]
        · rw [beq_f e2, cond_false, if_neg (by omega), hg]
      · rw [show decide (m.1 ≥ 0) = false by simp; omega, cond_false, beq_f (by omega), cond_false, hg]
  · rw [List.getElem?_eq_none (by simp; omega), List.getElem?_eq_none (by rw [hl]; omega)]
def newH (r : Rules) (p : Place) (m : Mv) (h : List Int) (i : Nat) : Int :=
  let n := bif (m.1 == -1) && ((i : Int) == m.2.2.1) then h.getD i 0 - 1 else h.getD i 0
  bif ((r.keeps && decide (cellI p m.2.1 > 0)) && ((i : Int) == kindOf (cellI p m.2.1))) && decide (n < 1000) then n + 1 else n
theorem newH_list {r : Rules} {p : Place} {m : Mv} (hv : Valid r p) (ha : allowedB r p m = true) (l : List Int) (hl : l = handOf p) : (List.range l.length).map (newH r p m l) = handA r p m l := by
  obtain ⟨r1, r2, r3⟩ := allowed_rng ha
  have hlen : (handA r p m l).length = l.length := by unfold handA; rw [handK_len, handD_len]
  have hDr : ∀ c ∈ handD m l, 0 ≤ c ∧ c ≤ 1000 := by rw [hl]; exact handD_rng hv ha
  have hDl := handD_len m l
  have hgD : ∀ (xs : List Int) (i : Nat), i < xs.length → xs[i]? = some (xs.getD i 0) := fun xs i hi => by rw [List.getD_eq_getElem?_getD, List.getElem?_eq_getElem hi]; rfl
  have hd : ∀ i, i < l.length → (handD m l).getD i 0 = bif (m.1 == -1) && ((i : Int) == m.2.2.1) then l.getD i 0 - 1 else l.getD i 0 := fun i hi => by
    by_cases c : m.1 ≥ 0
    · have : handD m l = l := by unfold handD; rw [show decide (m.1 ≥ 0) = true by simp; omega]; rfl
      rw [this, beq_f (by omega), Bool.false_and, cond_false]
    · have : handD m l = l.set m.2.2.1.toNat (l.getD m.2.2.1.toNat 0 - 1) := by unfold handD; rw [show decide (m.1 ≥ 0) = false by simp; omega]; rfl
      rw [this, beq_t (by omega), Bool.true_and, List.getD_eq_getElem?_getD, List.getElem?_set]
      by_cases e : (i : Int) = m.2.2.1
      · rw [beq_t e, cond_true, if_pos (by omega), if_pos (by omega), show m.2.2.1.toNat = i by omega]; rfl
      · rw [beq_f e, cond_false, if_neg (by omega), ← List.getD_eq_getElem?_getD]
  apply List.ext_getElem?
  intro i
  by_cases hi : i < l.length
  · rw [List.getElem?_map, List.getElem?_range hi, Option.map_some]
    unfold newH
    simp only
    rw [← hd i hi]
    have hb := getD_rng (by omega) hDr i
    unfold handA
    obtain ⟨D0, hD0⟩ : ∃ D0, handD m l = D0 := ⟨_, rfl⟩
    rw [hD0] at hb hDl ⊢
    unfold handK
    cases hc : decide (cellI p m.2.1 > 0) with
    | false => simp only [Bool.and_false, Bool.false_and, cond_false]; exact (hgD D0 i (by omega)).symm
    | true =>
      have hk := kind_rng hv (of_decide_eq_true hc)
      cases hkp : r.keeps with
      | false => simp only [Bool.and_false, Bool.false_and, cond_false]; exact (hgD D0 i (by omega)).symm
      | true =>
        simp only [Bool.true_and, cond_true]
        rw [List.getElem?_set]
        by_cases e : (i : Int) = kindOf (cellI p m.2.1)
        · have ei : (kindOf (cellI p m.2.1)).toNat = i := by omega
          rw [beq_t e, Bool.true_and, if_pos ei, ei, if_pos (by omega)]
          by_cases c : D0.getD i 0 < 1000
          · rw [show decide (D0.getD i 0 < 1000) = true by simp; simpa using c, cond_true, if_neg (by omega)]
          · rw [show decide (D0.getD i 0 < 1000) = false by simp; simpa using c, cond_false, if_pos (by omega)]
            congr 1; omega
        · rw [beq_f e, Bool.false_and, cond_false, if_neg (by omega), hgD D0 i (by omega)]
  · rw [List.getElem?_eq_none (by simp; omega), List.getElem?_eq_none (by rw [hlen]; omega)]
theorem map_succ {A : Type} (F : Nat → A) (i : Nat) : (List.range (i + 1)).map F = (List.range i).map F ++ [F i] := by rw [List.range_succ, List.map_append]; rfl
end Go.Proofs.YteiohidcgimjlaaGreatDoor
namespace Go.Proofs.YteiohidcgimjlaaGreatDoor
open Go.Den
set_option linter.unusedVariables false
set_option linter.unusedSimpArgs false
set_option maxRecDepth 100000

theorem place_eta (p q : Place) (h1 : p.1 = q.1) (h2 : p.2.1.1 = q.2.1.1) (h3 : p.2.1.2.1 = q.2.1.2.1) (h4 : p.2.2.1 = q.2.2.1) (h5 : p.2.2.2.1 = q.2.2.2.1) : p = q := by
  obtain ⟨a, ⟨b, c, ⟨⟩⟩, d, e, ⟨⟩⟩ := p
  obtain ⟨a', ⟨b', c', ⟨⟩⟩, d', e', ⟨⟩⟩ := q
  simp only at h1 h2 h3 h4 h5
  subst h1 h2 h3 h4 h5
  rfl
def handsOf (r : Rules) : List Int := r.2.2.2.1.map fun x => x.2.1
def beginOf (r : Rules) : Place := (r.2.2.2.2.1, (handsOf r, handsOf r, ()), 0, 0, ())
theorem begin_valid {r : Rules} (h : VR0 r) : Valid r (beginOf r) := by
  have hh : ∀ c ∈ handsOf r, 0 ≤ c ∧ c ≤ 1000 := fun c hc => by
    obtain ⟨x, hx, rfl⟩ := List.mem_map.1 hc
    have := h.hand x hx
    omega
  have hl : (handsOf r).length = r.pieces.length := by unfold handsOf; simp
  exact ⟨h, h.start, hl, hl, h.startC, hh, hh, .inl rfl, by show (0 : Int) ≤ 0 ∧ (0 : Int) ≤ 200; omega⟩
theorem map_take {A B : Type} (l : List A) (f : A → B) (i : Nat) (hi : i < l.length) : (l.take (i + 1)).map f = (l.take i).map f ++ [f l[i]] := by
  rw [List.take_succ_eq_append_getElem hi, List.map_append]; rfl
theorem begin_spec (r : Rules) (hr : Rng tyRules r) : placeBegin r = some (if ruleErr r = 0 then (beginOf r, 0, ()) else (([], ([], [], ()), 0, 0, ()), ruleErr r, ())) := by
  unfold placeBegin
  rw [check_spec r hr, Option.bind_some]
  by_cases c : ruleErr r = 0
  · have h := rules_valid c
    have hs : ((r.2.2.2.2.1.length : Nat) : Int) = r.width * r.height := h.start
    have ha := h.area
    have ht : r.2.2.2.1.length ≤ 6 := h.t6
    rw [bne_f c, cond_false, if_pos c, clone_ok _ (by omega), Option.bind_some]
    have hL := iterW_states (f := placeBegin_L1 r) r.2.2.2.1.length (fun i => (((i : Int), ()), ((r.2.2.2.2.1, ((r.2.2.2.1.take i).map (fun x => x.2.1), ((r.2.2.2.1.take i).map (fun x => x.2.1), ((0 : Int), ((0 : Int), ()))))), ()))) ((), ((r.2.2.2.2.1, (handsOf r, (handsOf r, ((0 : Int), ((0 : Int), ()))))), ())) (fun i hi => by
      unfold placeBegin_L1
      simp only [show decide ((i : Int) < ((r.2.2.2.1.length : Nat) : Int)) = true by simp; omega, cond_true]
      rw [at?_eq _ _ (by omega) (by omega), Option.bind_some]
      simp only [Int.toNat_natCast]
      have hroom : ∀ z : Int, room (((r.2.2.2.1.take i).map (fun x => x.2.1)).length + [z].length) 8 = true := fun z => room_ok (by simp; omega)
      simp only [hroom, req_true, agree_self, Option.bind_some]
      rw [w64_id (n := (i : Int) + 1) (by omega) (by omega), map_take _ _ i hi]
      rfl) (by
      unfold placeBegin_L1
      simp only [show decide (((r.2.2.2.1.length : Nat) : Int) < ((r.2.2.2.1.length : Nat) : Int)) = false by simp, cond_false, List.take_length]
      rfl)
    have hL' : iterW (placeBegin_L1 r) (((0 : Int), ()), ((r.2.2.2.2.1, (([] : List Int), (([] : List Int), ((0 : Int), ((0 : Int), ()))))), ())) = _ := hL
    rw [hL', Option.bind_some]
    rfl
  · rw [bne_t c, cond_true, if_neg c]
theorem index_spec (s : List Mv) (v : Mv) (hs : s.length ≤ 1000000000) : slicesContains_Move s v = some (decide (v ∈ s)) := by
  unfold slicesContains_Move slicesIndex_Move
  have hL := iterW_scan s.length (slicesIndex_Move_L1 s v) (fun i => if v = s.getD i d0 then some (.inr (i : Int)) else none) (.inl ((), ())) (fun i hi => by
    unfold slicesIndex_Move_L1
    simp only [show decide ((i : Int) < ((s.length : Nat) : Int)) = true by simp; omega, cond_true]
    rw [at?_eq s _ (by omega) (by omega), Option.bind_some, w64_id (n := (i : Int) + 1) (by omega) (by omega)]
    simp only [Int.toNat_natCast, List.getD_eq_getElem?_getD, List.getElem?_eq_getElem hi, Option.getD_some, mv_beq]
    by_cases e : v = s[i]
    · simp [e]
    · simp [e]) (by unfold slicesIndex_Move_L1; simp)
  rw [hL]
  have key : ∀ k i, i + k = s.length → (Option.bind (Option.bind (some (scan (fun i => if v = s.getD i d0 then some (Sum.inr (i : Int)) else none) (Sum.inl ((), ())) i k)) (Sum.elim (fun _ : Unit × Unit => some (-1 : Int)) some)) fun r2 => some (decide (r2 ≥ (0 : Int)))) = some (decide (v ∈ s.drop i)) := by
    intro k
    induction k with
    | zero =>
      intro i hi
      rw [show i = s.length by omega, List.drop_length]
      simp [scan]
    | succ k ih =>
      intro i hi
      have hil : i < s.length := by omega
      have hmem : (v ∈ s.drop i) ↔ v = s[i] ∨ v ∈ s.drop (i + 1) := by rw [List.drop_eq_getElem_cons hil, List.mem_cons]
      unfold scan
      have hg : s.getD i d0 = s[i] := by simp [List.getD_eq_getElem?_getD, hil]
      by_cases e : v = s[i]
      · rw [decide_eq_true (hmem.2 (.inl e))]
        simp only [hg, if_pos e, Option.bind_some, Sum.elim_inr]
        simp
      · simp only [hg, if_neg e]
        rw [ih (i + 1) (by omega)]
        have h2 : (v ∈ s.drop (i + 1)) ↔ v ∈ s.drop i := ⟨fun h => hmem.2 (.inr h), fun h => (hmem.1 h).resolve_left e⟩
        simp only [h2]
  have := key s.length 0 (by omega)
  simpa using this
theorem movesOf_len {r : Rules} {p : Place} (h : Valid r p) : (movesOf r p).length ≤ 100000 := by
  have h64 := area_len h
  refine Nat.le_trans (flatMap_len _ 384 _ fun i _ => at1_len h i) ?_
  rw [List.length_range]
  omega
end Go.Proofs.YteiohidcgimjlaaGreatDoor
namespace Go.Proofs.YteiohidcgimjlaaGreatDoor
open Go.Den
set_option linter.unusedVariables false
set_option linter.unusedSimpArgs false
set_option maxRecDepth 100000

theorem rep_eta (r : Rules) : (r.1, (r.2.1, (r.2.2.1, (r.2.2.2.1, (r.2.2.2.2.1, (r.2.2.2.2.2.1, (r.2.2.2.2.2.2.1, (r.2.2.2.2.2.2.2.1, (r.2.2.2.2.2.2.2.2.1, (r.2.2.2.2.2.2.2.2.2.1, (r.2.2.2.2.2.2.2.2.2.2.1, ()))))))))))) = r := rfl
theorem pl_eta (p : Place) : (p.1, ((p.2.1.1, (p.2.1.2.1, ())), p.2.2)) = p := rfl
theorem gd_eq {A : Type} (xs : List A) (i : Nat) (hi : i < xs.length) (d : A) : getD' xs i d = xs[i] := by simp [getD', hi]
theorem ltd {A : Type} (xs : List A) (i : Nat) (hi : i < xs.length) : decide ((i : Int) < ((xs.length : Nat) : Int)) = true := by simp; omega
theorem nltd {A : Type} (xs : List A) : decide (((xs.length : Nat) : Int) < ((xs.length : Nat) : Int)) = false := by simp
theorem inbN {A : Type} (xs : List A) (i : Nat) (hi : i < xs.length) : inb (i : Int) xs.length = true := inb_iff.2 ⟨by omega, by omega⟩
theorem eq_ints (a b : List Int) (ha : a.length ≤ 1000000000) : slicesEqual_int a b = some (decide (a = b)) := by
  unfold slicesEqual_int
  by_cases hl : a.length = b.length
  · have e : (((a.length : Nat) : Int) != ((b.length : Nat) : Int)) = false := bne_f (by omega)
    rw [e, cond_false]
    have hL := iterW_any (List.range a.length) (fun i => a.getD i 0 != b.getD i 0) (slicesEqual_int_L1 a b) (.inr false) (.inl ((), ())) (fun i hi => by
      have hi' : i < a.length := by simpa using hi
      unfold slicesEqual_int_L1
      simp only [show decide ((i : Int) < ((a.length : Nat) : Int)) = true by simp; omega, cond_true, List.getElem_range]
      rw [at?_eq a _ (by omega) (by omega), at?_eq b _ (by omega) (by omega), Option.bind_some, Option.bind_some, w64_id (n := (i : Int) + 1) (by omega) (by omega)]
      simp only [Int.toNat_natCast, List.getD_eq_getElem?_getD, List.getElem?_eq_getElem hi', List.getElem?_eq_getElem (show i < b.length by omega), Option.getD_some]
      cases (a[i] != b[i]) <;> rfl) (by unfold slicesEqual_int_L1; simp)
    rw [hL]
    cases hany : (List.range a.length).any (fun i => a.getD i 0 != b.getD i 0) with
    | true =>
      rw [List.any_eq_true] at hany
      obtain ⟨i, _, h⟩ := hany
      have : ¬ a = b := fun e => by subst e; simp at h
      simp [this]
    | false =>
      rw [List.any_eq_false] at hany
      have : a = b := by
        apply List.ext_getElem hl
        intro i h1 h2
        have := hany i (List.mem_range.2 h1)
        simpa [List.getD_eq_getElem?_getD, h1, h2] using this
      simp [this]
  · have e : (((a.length : Nat) : Int) != ((b.length : Nat) : Int)) = true := bne_t (by omega)
    rw [e, cond_true]
    have : ¬ a = b := fun h => hl (by rw [h])
    simp [this]
/-- the same position, but for Quiet -/
def same0 (p q : Place) : Bool := ((decide (p.1 = q.1) && decide (p.2.1.1 = q.2.1.1)) && decide (p.2.1.2.1 = q.2.1.2.1)) && (p.2.2.1 == q.2.2.1)
theorem same_spec {r : Rules} {p q : Place} (h : Valid r p) : placeSame p q = some (same0 p q) := by
  have h64 := area_len h
  have t6 := h.r0.t6
  have l0 : p.2.1.1.length = r.pieces.length := h.l0
  have l1 : p.2.1.2.1.length = r.pieces.length := h.l1
  unfold placeSame same0
  rw [eq_ints _ _ (by omega), eq_ints _ _ (by omega), eq_ints _ _ (by omega)]
  have hg : ∀ b c : Bool, gopt b false (some c) = some (b && c) := fun b c => by cases b <;> rfl
  simp only [hg, Option.bind_some, Option.some.injEq]
  cases decide (p.1 = q.1) <;> cases decide (p.2.1.1 = q.2.1.1) <;> cases decide (p.2.1.2.1 = q.2.1.2.1) <;> cases (p.2.2.1 == q.2.2.1) <;> rfl
theorem pcopy_spec {r : Rules} {p : Place} (h : Valid r p) : placeCopy p = some p := by
  have h64 := area_len h
  have t6 := h.r0.t6
  have l0 : p.2.1.1.length = r.pieces.length := h.l0
  have l1 : p.2.1.2.1.length = r.pieces.length := h.l1
  unfold placeCopy
  simp only [agree_self]
  rw [clone_ok _ (by omega), Option.bind_some, clone_ok _ (by omega), Option.bind_some, clone_ok _ (by omega)]
  rfl
theorem clone_ways (s : List (Int × Int × Int × Int × Unit)) (h : s.length ≤ 1000000) : slicesClone_RuleWay s = some s := by
  unfold slicesClone_RuleWay
  have : room (([] : List (Int × Int × Int × Int × Unit)).length + s.length) 32 = true := room_ok (by simp; omega)
  rw [this]
  cases s with
  | nil => simp [req_true, agree_self]
  | cons a l => simp [req_true]
theorem clone_ends (s : List (Int × Int × Int × Bool × Unit)) (h : s.length ≤ 1000000) : slicesClone_RuleEnd s = some s := by
  unfold slicesClone_RuleEnd
  have : room (([] : List (Int × Int × Int × Bool × Unit)).length + s.length) 32 = true := room_ok (by simp; omega)
  rw [this]
  cases s with
  | nil => simp [req_true, agree_self]
  | cons a l => simp [req_true]
theorem rcopy_spec {r : Rules} (h : VR0 r) : rulesCopy r = some r := by
  have t6 : r.2.2.2.1.length ≤ 6 := h.t6
  have e6 : r.2.2.2.2.2.2.2.1.length ≤ 6 := h.ends6
  have hs : ((r.2.2.2.2.1.length : Nat) : Int) = r.width * r.height := h.start
  have ha := h.area
  unfold rulesCopy
  simp only [agree_self]
  have hL := iterW_states (f := rulesCopy_L1 r) r.2.2.2.1.length (fun i => (((i : Int), ()), ((r.1, (r.2.1, (r.2.2.1, (r.2.2.2.1.take i, r.2.2.2.2)))), ()))) ((), ((r.1, (r.2.1, (r.2.2.1, (r.2.2.2.1, r.2.2.2.2)))), ())) (fun i hi => by
    unfold rulesCopy_L1
    simp only [show decide ((i : Int) < ((r.2.2.2.1.length : Nat) : Int)) = true by simp; omega, cond_true]
    rw [at?_eq _ _ (by omega) (by omega), Option.bind_some]
    simp only [Int.toNat_natCast]
    rw [clone_ways _ (by have : r.2.2.2.1[i].2.2.2.1.length ≤ 16 := h.ways _ (List.getElem_mem hi); omega), Option.bind_some]
    have hroom : ∀ z : Piece, room ((r.2.2.2.1.take i).length + [z].length) 48 = true := fun z => room_ok (by simp; omega)
    rw [hroom, req_true, w64_id (n := (i : Int) + 1) (by omega) (by omega), List.take_succ_eq_append_getElem hi]
    rfl) (by
    unfold rulesCopy_L1
    simp only [show decide (((r.2.2.2.1.length : Nat) : Int) < ((r.2.2.2.1.length : Nat) : Int)) = false by simp, cond_false, List.take_length])
  have hL' : iterW (rulesCopy_L1 r) (((0 : Int), ()), ((r.1, (r.2.1, (r.2.2.1, (([] : List Piece), r.2.2.2.2)))), ())) = _ := hL
  rw [hL', Option.bind_some, clone_ok _ (by omega), Option.bind_some, clone_ends _ (by omega)]
  rfl
theorem valid_ok {r : Rules} {p : Place} (c : ruleErr r = 0) (h : Valid r p) : placeErr r p = 0 := by
  unfold placeErr
  rw [if_neg (by simp [c])]
  have h1 : formBad r p = false := by
    unfold formBad
    rw [bne_f h.cells, bne_f (by have := h.l0; omega), bne_f (by have := h.l1; omega)]
    rfl
  have h2 : placeBad r p = false := by
    unfold placeBad
    have a1 : p.cells.any (outC r) = false := by
      rw [List.any_eq_false]
      intro x hx
      have := h.cell x hx
      simp [outC]; omega
    have a2 : (p.h0 ++ p.h1).any outH = false := by
      rw [List.any_eq_false]
      intro x hx
      have : 0 ≤ x ∧ x ≤ 1000 := (List.mem_append.1 hx).elim (h.hand0 x) (h.hand1 x)
      simp [outH]; omega
    have a3 : outT p = false := by
      have hq := h.quiet
      have ht := h.turn
      simp [outT]; omega
    rw [a1, a2, a3]
    rfl
  rw [h1, h2]
  rfl
/-! ### games -/
def dP : Place := ([], (([], ([], ())), ((0 : Int), ((0 : Int), ()))))
def lastP (l : List Place) : Place := getD' l (l.length - 1) dP
/-- how often the last position occurs -/
def timesOf (l : List Place) : Nat := l.countP fun p => same0 p (lastP l)
/-- the result of a game -/
def gameRes (r : Rules) (l : List Place) : Int := bif ((resultOf r (lastP l) == 0) && (r.repeats != 0)) && decide (((timesOf l : Nat) : Int) ≥ r.repeats) then 3 else resultOf r (lastP l)
structure OKG (r : Rules) (s : List Place × List Mv) : Prop where
  ok : ruleErr r = 0
  all : ∀ p ∈ s.1, Valid r p
  len : s.1.length = s.2.length + 1
  most : s.2.length ≤ 400
theorem last_mem {l : List Place} (h : 0 < l.length) : lastP l ∈ l := by
  unfold lastP
  rw [gd_eq l (l.length - 1) (by omega)]
  exact List.getElem_mem _
theorem OKG.last {r : Rules} {s : List Place × List Mv} (h : OKG r s) : Valid r (lastP s.1) := h.all _ (last_mem (by have := h.len; omega))
/-- one more move: its error -/
def stepG (r : Rules) (s : List Place × List Mv) (m : Mv) : Int := if gameRes r s.1 = 0 then if allowedB r (lastP s.1) m = true then if s.2.length = 400 then 9 else 0 else 13 else 14
def nextG (r : Rules) (s : List Place × List Mv) (m : Mv) : List Place × List Mv := (s.1 ++ [afterOf r (lastP s.1) m], s.2 ++ [m])
theorem next_ok {r : Rules} {s : List Place × List Mv} {m : Mv} (h : OKG r s) (c : stepG r s m = 0) : OKG r (nextG r s m) := by
  unfold stepG at c
  by_cases c1 : gameRes r s.1 = 0
  · rw [if_pos c1] at c
    by_cases c2 : allowedB r (lastP s.1) m = true
    · rw [if_pos c2] at c
      by_cases c3 : s.2.length = 400
      · rw [if_pos c3] at c; cases c
      · have hl := h.len
        have hm := h.most
        refine ⟨h.ok, fun p hp => ?_, by unfold nextG; simp; omega, by unfold nextG; simp; omega⟩
        rcases List.mem_append.1 hp with hp | hp
        · exact h.all p hp
        · rw [List.mem_singleton.1 hp]; exact after_valid h.last c2
    · rw [if_neg c2] at c; cases c
  · rw [if_neg c1] at c; cases c
/-- a round of a loop that counts how often the last position occurs -/
noncomputable def cntF (L : List Place) (c i : Int) : Option (((Int × Int × Unit) × Unit) ⊕ ((Int × Unit) × Unit)) :=
  bif (decide (i < ((L.length : Nat) : Int))) then (req (inb i L.length) (Option.bind (req (inb (w64 (((L.length : Nat) : Int) - 1)) L.length) (Option.bind (placeSame (getD' L i.toNat dP) (getD' L (w64 (((L.length : Nat) : Int) - 1)).toNat dP)) fun x => some ((x, ()), ()))) fun x : (Bool × Unit) × Unit =>
    Option.bind (bif x.1.1 then some ((w64 (c + 1), ()), ()) else some ((c, ()), ())) fun y : (Int × Unit) × Unit => some (Sum.inl ((y.1.1, w64 (i + 1), ()), ()))))
  else some (Sum.inr ((c, ()), ()))
theorem w_last {A : Type} {L : List A} (h0 : 0 < L.length) (h : L.length ≤ 1000000000) : w64 (((L.length : Nat) : Int) - 1) = ((L.length - 1 : Nat) : Int) := by
  rw [w64_id (by omega) (by omega)]; omega
theorem cnt_loop {r : Rules} {L : List Place} (hv : ∀ p ∈ L, Valid r p) (h0 : 0 < L.length) (h1 : L.length ≤ 1000000) (f : ((Int × Int × Unit) × Unit) → Option (((Int × Int × Unit) × Unit) ⊕ ((Int × Unit) × Unit)))
    (hf : ∀ c i, f ((c, i, ()), ()) = cntF L c i) : iterW f (((0 : Int), (0 : Int), ()), ()) = some ((((timesOf L : Nat) : Int), ()), ()) := by
  have hw := w_last h0 (by omega)
  have := iter_count L (fun p => same0 p (lastP L)) f (fun c => ((c, ()), ())) (fun i hi c hc0 hc1 => by
    rw [hf]
    unfold cntF
    rw [ltd L i hi, cond_true, inbN L i hi, req_true, hw, inbN L _ (by omega), req_true, Int.toNat_natCast, Int.toNat_natCast, gd_eq L i hi, same_spec (hv _ (List.getElem_mem hi)), Option.bind_some, Option.bind_some]
    show Option.bind (bif same0 L[i] (lastP L) then _ else _) _ = _
    rw [w64_id (n := c + 1) (by omega) (by omega), w64_id (n := (i : Int) + 1) (by omega) (by omega)]
    cases same0 L[i] (lastP L) <;> rfl) (fun c => by
    rw [hf]
    unfold cntF
    rw [nltd, cond_false])
  rw [this]
  rfl
abbrev Game := Rules × List Place × List Mv × Unit
theorem atP {L : List Place} (h0 : 0 < L.length) : at? L ((L.length - 1 : Nat) : Int) = some (lastP L) := by
  rw [at?_eq _ _ (by omega) (by omega)]
  unfold lastP
  rw [gd_eq L _ (by omega)]
  simp
/-- the methods of games that only read -/
theorem gcount_spec {r : Rules} {s : List Place × List Mv} (h : OKG r s) : plainGameCount (r, (s.1, (s.2, ()))) = some ((timesOf s.1 : Nat) : Int) := by
  obtain ⟨l, ms⟩ := s
  have hl : l.length = ms.length + 1 := h.len
  have hm : ms.length ≤ 400 := h.most
  have hw := w_last (L := l) (by omega) (by omega)
  have := iter_count l (fun p => same0 p (lastP l)) (plainGameCount_L1 (r, (l, (ms, ())))) (fun c => ((c, ()), ())) (fun i hi c hc0 hc1 => by
    unfold plainGameCount_L1
    simp only [agree_self]
    rw [ltd l i hi, cond_true, at?_eq l _ (by omega) (by omega), Option.bind_some, hw, atP (by omega), Option.bind_some]
    simp only [Int.toNat_natCast]
    rw [same_spec (h.all _ (List.getElem_mem hi)), Option.bind_some, Option.bind_some]
    show Option.bind (bif same0 l[i] (lastP l) then _ else _) _ = _
    rw [w64_id (n := c + 1) (by omega) (by omega), w64_id (n := (i : Int) + 1) (by omega) (by omega)]
    cases same0 l[i] (lastP l) <;> rfl) (fun c => by
    unfold plainGameCount_L1
    simp only
    rw [nltd, cond_false])
  unfold plainGameCount
  rw [this]
  rfl
theorem gresult_spec {r : Rules} {s : List Place × List Mv} (h : OKG r s) : plainGameResult (r, (s.1, (s.2, ()))) = some (gameRes r s.1) := by
  have hl := h.len
  have hm := h.most
  have hw := w_last (L := s.1) (by omega) (by omega)
  have hrep : r.2.2.2.2.2.2.2.2.2.2.1 = r.repeats := rfl
  unfold plainGameResult
  simp only [agree_self, hw, atP (show 0 < s.1.length by omega), result_spec h.last, Option.bind_some, gcount_spec h, hrep]
  unfold gameRes
  cases hc : ((resultOf r (lastP s.1) == 0) && (r.repeats != 0)) with
  | true =>
    simp only [gopt, cond_true, Option.bind_some, Bool.true_and]
    cases decide (((timesOf s.1 : Nat) : Int) ≥ r.repeats) <;> rfl
  | false => rfl
theorem gposition_spec {r : Rules} {s : List Place × List Mv} (h : OKG r s) : plainGamePosition (r, (s.1, (s.2, ()))) = some (lastP s.1) := by
  have hl := h.len
  have hm := h.most
  have hw := w_last (L := s.1) (by omega) (by omega)
  unfold plainGamePosition
  simp only [hw, atP (show 0 < s.1.length by omega), pcopy_spec h.last, Option.bind_some, pl_eta]
theorem play_spec {r : Rules} {s : List Place × List Mv} (h : OKG r s) (m : Mv) : plainGamePlay (r, (s.1, (s.2, ()))) m = some (if stepG r s m = 0 then ((r, ((nextG r s m).1, ((nextG r s m).2, ()))), 0) else ((r, (s.1, (s.2, ()))), stepG r s m)) := by
  obtain ⟨l, ms⟩ := s
  have hl : l.length = ms.length + 1 := h.len
  have hm : ms.length ≤ 400 := h.most
  have hv := h.last
  simp only at hv
  have hw := w_last (L := l) (by omega) (by omega)
  have hi := inbN l (l.length - 1) (by omega)
  have hla : getD' l (l.length - 1) (([], (([], ([], ())), ((0 : Int), ((0 : Int), ())))) : Place) = lastP l := rfl
  have hres := gresult_spec h
  simp only at hres
  unfold plainGamePlay
  simp only [agree_self, hw, hi, req_true, Int.toNat_natCast, hla, hres, Option.bind_some]
  unfold stepG
  by_cases c1 : gameRes r l = 0
  · rw [bne_f c1, cond_false]
    simp only [if_pos c1]
    rw [list_spec hv, Option.bind_some, index_spec _ _ (by have := movesOf_len hv; omega), Option.bind_some, Option.bind_some]
    have hmem : decide (m ∈ movesOf r (lastP l)) = allowedB r (lastP l) m := by rw [Bool.eq_iff_iff, decide_eq_true_eq, movesOf_mem]
    rw [hmem]
    by_cases c2 : allowedB r (lastP l) m = true
    · simp only [if_pos c2]
      rw [c2, Bool.not_true, cond_false]
      by_cases c3 : ms.length = 400
      · rw [beq_t (by omega), cond_true]
        simp only [if_pos c3]
        rfl
      · rw [beq_f (by omega), cond_false, make_spec hv c2, Option.bind_some]
        simp only [if_neg c3, if_true]
        have hroom : ∀ z : Place, room (l.length + [z].length) 88 = true := fun z => room_ok (by simp; omega)
        have hroom2 : room (ms.length + [m].length) 24 = true := room_ok (by simp; omega)
        rw [hroom, req_true, Option.bind_some]
        simp only
        rw [hroom2, req_true]
        rfl
    · simp only [if_neg c2]
      rw [show allowedB r (lastP l) m = false by simpa using c2]
      rfl
  · rw [bne_t c1, cond_true]
    simp only [if_neg c1]
    rfl
/-- moves, one after the other -/
def runG (r : Rules) : List Mv → List Place × List Mv → (List Place × List Mv) ⊕ Int
  | [], s => .inl s
  | m :: k, s => if stepG r s m = 0 then runG r k (nextG r s m) else .inr (stepG r s m)
theorem run_ok {r : Rules} : ∀ (k : List Mv) (s s' : List Place × List Mv), OKG r s → runG r k s = .inl s' → OKG r s' ∧ s'.2 = s.2 ++ k
  | [], s, s', h, e => by cases e; exact ⟨h, by simp⟩
  | m :: k, s, s', h, e => by
    unfold runG at e
    split at e
    · rename_i c
      obtain ⟨a, b⟩ := run_ok k _ _ (next_ok h c) e
      refine ⟨a, ?_⟩
      rw [b]
      unfold nextG
      simp
    · cases e
def flG (g : Game) : ByteArray × Int × Int × (List (Int × Int × Int × (List (Int × Int × Int × Int × Unit)) × Unit)) × (List Int) × Bool × Bool × (List (Int × Int × Int × Bool × Unit)) × Int × Int × Int × (List Place) × (List Mv) × Unit :=
  (g.1.1, (g.1.2.1, (g.1.2.2.1, (g.1.2.2.2.1, (g.1.2.2.2.2.1, (g.1.2.2.2.2.2.1, (g.1.2.2.2.2.2.2.1, (g.1.2.2.2.2.2.2.2.1, (g.1.2.2.2.2.2.2.2.2.1, (g.1.2.2.2.2.2.2.2.2.2.1, (g.1.2.2.2.2.2.2.2.2.2.2.1, (g.2.1, (g.2.2.1, ())))))))))))))
def gm (r : Rules) (s : List Place × List Mv) : Game := (r, (s.1, (s.2, ())))
/-- a loop over moves that plays them -/
theorem play_loop {r : Rules} {T R : Type} (l : List Mv) (hlen : l.length ≤ 1000000000) (f : T → Option (T ⊕ R)) (st : Int → Game → T) (bad : Int → R) (fin : List Place × List Mv → R)
    (hf : ∀ i s, f (st i (gm r s)) = bif (decide (i < ((l.length : Nat) : Int))) then (Option.bind (at? l i) fun m => Option.bind (plainGamePlay (r, (s.1, (s.2, ()))) m) fun x => bif (x.2 != 0) then some (.inr (bad x.2)) else some (.inl (st (w64 (i + 1)) x.1))) else some (.inr (fin s))) :
    ∀ (k : Nat) (i : Nat) (s : List Place × List Mv), i + k = l.length → OKG r s → iterW f (st (i : Int) (gm r s)) = some (match runG r (l.drop i) s with
      | .inl s' => fin s'
      | .inr e => bad e)
  | 0, i, s, hi, h => by
    have : i = l.length := by omega
    subst this
    refine iterW_inr ?_
    rw [hf, nltd, cond_false, List.drop_length]
    rfl
  | k + 1, i, s, hi, h => by
    have hil : i < l.length := by omega
    have hL := hf (i : Int) s
    rw [ltd l i hil, cond_true, at?_eq l _ (by omega) (by omega), Option.bind_some, play_spec h, Option.bind_some] at hL
    simp only [Int.toNat_natCast] at hL
    rw [List.drop_eq_getElem_cons hil]
    unfold runG
    by_cases c : stepG r s l[i] = 0
    · rw [if_pos c] at hL
      simp only [bne_self_eq_false, cond_false] at hL
      rw [w64_id (by omega) (by omega)] at hL
      rw [iterW_inl hL, if_pos c]
      exact play_loop l hlen f st bad fin hf k (i + 1) _ (by omega) (next_ok h c)
    · rw [if_neg c] at hL
      simp only [bne_t c, cond_true] at hL
      rw [iterW_inr hL, if_neg c]
theorem begin_okG {r : Rules} (c : ruleErr r = 0) : OKG r ([beginOf r], []) := ⟨c, fun p hp => by rw [List.mem_singleton.1 hp]; exact begin_valid (rules_valid c), rfl, by simp⟩
/-- a game out of the moves of its beginning -/
def gameOf (r : Rules) (l : List Mv) : (List Place × List Mv) ⊕ Int := runG r l ([beginOf r], [])
abbrev FlP := List Int × List Int × List Int × Int × Int × Unit
def flp (p : Place) : FlP := (p.1, (p.2.1.1, (p.2.1.2.1, p.2.2)))
def runRes (r : Rules) (l : List Mv) : Place × Int × Int × Unit := if ruleErr r = 0 then (match gameOf r l with
    | .inl s => (lastP s.1, (gameRes r s.1, (0, ())))
    | .inr e => (dP, (0, (e, ())))) else (dP, (0, (ruleErr r, ())))
theorem run_spec (r : Rules) (l : List Mv) (hr : Rng tyRules r) (hl : l.length ≤ 1000000000) : plainRun r l = some (runRes r l) := by
  unfold plainRun runRes
  rw [begin_spec r hr, Option.bind_some]
  by_cases c : ruleErr r = 0
  · simp only [if_pos c]
    rw [show ((0 : Int) != 0) = false from rfl, cond_false]
    simp only [agree_self]
    rw [rcopy_spec (rules_valid c), Option.bind_some]
    have hP := play_loop (r := r) l hl (plainRun_L2 l) (fun i g => ((i, ()), (flp dP, (flG g, ())))) (fun e => .inr (dP, (0, (e, ())))) (fun s => .inl ((), (flp dP, (flG (gm r s), ()))))
      (fun i s => by rfl) l.length 0 ([beginOf r], []) (by omega) (begin_okG c)
    rw [List.drop_zero] at hP
    have hP' : iterW (plainRun_L2 l) (((0 : Int), ()), ((([] : List Int), (([] : List Int), (([] : List Int), ((0 : Int), ((0 : Int), ()))))), (r.1, (r.2.1, (r.2.2.1, (r.2.2.2.1, (r.2.2.2.2.1, (r.2.2.2.2.2.1, (r.2.2.2.2.2.2.1, (r.2.2.2.2.2.2.2.1, (r.2.2.2.2.2.2.2.2.1, (r.2.2.2.2.2.2.2.2.2.1, (r.2.2.2.2.2.2.2.2.2.2.1, ([((beginOf r).1, (((beginOf r).2.1.1, ((beginOf r).2.1.2.1, ())), (beginOf r).2.2))], (([] : List Mv), ()))))))))))))), ())) = _ := hP
    try simp only [Option.bind_some, bne_self_eq_false, cond_false]
    rw [hP', Option.bind_some]
    unfold gameOf
    cases hg : runG r l ([beginOf r], []) with
    | inr e => rfl
    | inl s =>
      have hok := (run_ok l _ _ (begin_okG c) hg).1
      simp only [Sum.elim_inl]
      change Option.bind (plainGamePosition (r, (s.1, (s.2, ())))) (fun r16 => Option.bind (plainGameResult (r, (s.1, (s.2, ())))) fun r17 => some ((r16.1, ((r16.2.1.1, (r16.2.1.2.1, ())), r16.2.2)), (r17, ((0 : Int), ())))) = _
      rw [gposition_spec hok, Option.bind_some, gresult_spec hok, Option.bind_some]
  · simp only [if_neg c]
    rw [bne_t c, cond_true, cond_true]
    rfl
end Go.Proofs.YteiohidcgimjlaaGreatDoor
namespace Go.Proofs.YteiohidcgimjlaaGreatDoor
open Go.Den
set_option linter.unusedVariables false
set_option linter.unusedSimpArgs false
set_option maxRecDepth 100000

theorem all_spec (r : Rules) (p : Place) (hr : Rng tyRules r) (hn : p.1.length ≤ 9223372036854775807) : movesAll r p = some (if placeErr r p = 0 then movesOf r p else [], placeErr r p, ()) := by
  unfold movesAll
  rw [place_spec r p hr hn, Option.bind_some]
  by_cases c : placeErr r p = 0
  · rw [bne_f c, cond_false, if_pos c, list_spec (valid_of c), c]; rfl
  · rw [bne_t c, cond_true, if_neg c]
theorem legal_spec (r : Rules) (p : Place) (m : Mv) (hr : Rng tyRules r) (hn : p.1.length ≤ 9223372036854775807) : movesLegal r p m = some (if placeErr r p = 0 then allowedB r p m else false, placeErr r p, ()) := by
  unfold movesLegal
  rw [all_spec r p hr hn, Option.bind_some]
  by_cases c : placeErr r p = 0
  · have hv := valid_of c
    simp only [if_pos c]
    rw [index_spec _ _ (by have := movesOf_len hv; omega), Option.bind_some]
    have : decide (m ∈ movesOf r p) = allowedB r p m := by
      rw [Bool.eq_iff_iff, decide_eq_true_eq, movesOf_mem]
    rw [this]
  · simp only [if_neg c]
    rw [index_spec _ _ (by simp)]
    simp
def emptyP : Place := ([], ([], [], ()), 0, 0, ())
theorem after_spec (r : Rules) (p : Place) (m : Mv) (hr : Rng tyRules r) (hn : p.1.length ≤ 9223372036854775807) : movesAfter r p m = some (if placeErr r p = 0 then if allowedB r p m = true then (afterOf r p m, 0, ()) else (emptyP, 13, ()) else (emptyP, placeErr r p, ())) := by
  unfold movesAfter
  rw [legal_spec r p m hr hn, Option.bind_some]
  by_cases c : placeErr r p = 0
  · have hv := valid_of c
    simp only [if_pos c]
    rw [c, show ((0 : Int) != 0) = false from rfl, cond_false]
    cases ha : allowedB r p m with
    | false => rfl
    | true =>
      rw [Bool.not_true, cond_false, make_spec hv ha, Option.bind_some]
      rfl
  · simp only [if_neg c]
    rw [bne_t c, cond_true]
    rfl
end Go.Proofs.YteiohidcgimjlaaGreatDoor
namespace Go.Proofs.YteiohidcgimjlaaGreatDoor
open Go.Den
set_option linter.unusedVariables false
set_option linter.unusedSimpArgs false
set_option maxRecDepth 100000

theorem endsOf_spec (r : Rules) (p : Place) (hr : Rng tyRules r) (hn : p.1.length ≤ 9223372036854775807) : endsOf r p = some (if placeErr r p = 0 then resultOf r p else 0, placeErr r p, ()) := by
  unfold endsOf
  rw [place_spec r p hr hn, Option.bind_some]
  by_cases c : placeErr r p = 0
  · rw [bne_f c, cond_false, if_pos c, result_spec (valid_of c), c]; rfl
  · rw [bne_t c, cond_true, if_neg c]
/-! ### claims -/
def repRes (r : Rules) (l : List Mv) : Int × Int × Unit := if ruleErr r = 0 then (match gameOf r l with
    | .inl s => (((timesOf s.1 : Nat) : Int), (0, ()))
    | .inr e => (0, (e, ()))) else (0, (ruleErr r, ()))
def quietRes (r : Rules) (l : List Mv) : Int × Int × Unit := ((runRes r l).1.quiet, (runRes r l).2.2)
theorem tic_rng : Rng tyRules law3Tic := rngB_ok _ _ (by decide +kernel)
theorem tic_ok : ruleErr law3Tic = 0 := by decide +kernel
/-! ### the reference -/
theorem times_L1 (L : List Place) (h0 : 0 < L.length) (h1 : L.length ≤ 1000000) (hv : ∀ r' : Unit, True) (i : Nat) (c : Int) : ref3Times_L1 L ((c, (i : Int), ()), ()) = cntF L c (i : Int) := by
  have e : ref3Times_L1 L ((c, (i : Int), ()), ()) = bif (decide ((i : Int) < ((L.length : Nat) : Int))) then (Option.bind (at? L (i : Int)) fun a => Option.bind (at? L (w64 (((L.length : Nat) : Int) - 1))) fun b => Option.bind (placeSame a b) fun x => Option.bind (bif x then some ((w64 (c + 1), ()), ()) else some ((c, ()), ())) fun y : (Int × Unit) × Unit => some (Sum.inl ((y.1.1, w64 ((i : Int) + 1), ()), ()))) else some (Sum.inr ((c, ()), ())) := rfl
  rw [e]
  unfold cntF
  have hw := w_last h0 (by omega)
  by_cases hi : i < L.length
  · rw [ltd L i hi, cond_true, cond_true, hw, inbN L i hi, inbN L _ (by omega), req_true, req_true]
    rw [at?_eq L _ (by omega) (by omega), at?_eq L ((L.length - 1 : Nat) : Int) (by omega) (by omega), Option.bind_some, Option.bind_some]
    simp only [Int.toNat_natCast]
    rw [gd_eq L i hi, gd_eq L _ (by omega)]
    cases placeSame L[i] (L[L.length - 1]'(by omega)) <;> rfl
  · rw [decide_eq_false (by omega), cond_false, cond_false]
theorem times3_spec {r : Rules} {L : List Place} (hv : ∀ p ∈ L, Valid r p) (h0 : 0 < L.length) (h1 : L.length ≤ 1000000) : ref3Times L = some ((timesOf L : Nat) : Int) := by
  have hw := w_last h0 (by omega)
  unfold ref3Times
  have := iter_count L (fun p => same0 p (lastP L)) (ref3Times_L1 L) (fun c => ((c, ()), ())) (fun i hi c hc0 hc1 => by
    rw [times_L1 L h0 h1 (fun _ => trivial)]
    unfold cntF
    rw [ltd L i hi, cond_true, inbN L i hi, req_true, hw, inbN L _ (by omega), req_true, Int.toNat_natCast, Int.toNat_natCast, gd_eq L i hi, same_spec (hv _ (List.getElem_mem hi)), Option.bind_some, Option.bind_some]
    show Option.bind (bif same0 L[i] (lastP L) then _ else _) _ = _
    rw [w64_id (n := c + 1) (by omega) (by omega), w64_id (n := (i : Int) + 1) (by omega) (by omega)]
    cases same0 L[i] (lastP L) <;> rfl) (fun c => by
    rw [times_L1 L h0 h1 (fun _ => trivial)]
    unfold cntF
    rw [nltd, cond_false])
  rw [this]
  rfl
theorem res3_spec {r : Rules} {L : List Place} (c : ruleErr r = 0) (hr : Rng tyRules r) (hv : ∀ p ∈ L, Valid r p) (h0 : 0 < L.length) (h1 : L.length ≤ 1000000) : ref3Result r L = some (gameRes r L) := by
  have hw := w_last h0 (by omega)
  have hl := hv _ (last_mem h0)
  have h64 := area_len hl
  have hrep := (rules_valid c).repeats
  unfold ref3Result
  rw [hw, at?_eq L _ (by omega) (by omega), Option.bind_some]
  simp only [Int.toNat_natCast]
  have hla : L[L.length - 1]'(by omega) = lastP L := by unfold lastP; rw [gd_eq L (L.length - 1) (by omega)]
  rw [hla, endsOf_spec r _ hr (by omega), valid_ok c hl, Option.bind_some, times3_spec hv h0 h1]
  unfold gameRes
  simp only [if_true, beq_self_eq_true, Bool.true_and]
  have hq : decide (r.2.2.2.2.2.2.2.2.2.2.1 > 0) = (r.repeats != 0) := by
    rw [Bool.eq_iff_iff]
    simp only [decide_eq_true_eq, bne_iff_ne]
    show r.repeats > 0 ↔ r.repeats ≠ 0
    omega
  rw [hq]
  show Option.bind (gopt ((resultOf r (lastP L) == 0) && (r.repeats != 0)) 0 (some ((timesOf L : Nat) : Int))) (fun x => bif ((resultOf r (lastP L) == 0) && (r.repeats != 0)) && decide (x ≥ r.repeats) then some 3 else some (resultOf r (lastP L))) = _
  cases ((resultOf r (lastP L) == 0) && (r.repeats != 0)) with
  | false => rfl
  | true =>
    simp only [gopt, cond_true, Option.bind_some, Bool.true_and]
    cases decide (((timesOf L : Nat) : Int) ≥ r.repeats) <;> rfl
def placesRes (r : Rules) (l : List Mv) : List Place × Int × Unit := if ruleErr r = 0 then (match gameOf r l with
    | .inl s => (s.1, (0, ()))
    | .inr e => ([], (e, ()))) else ([], (ruleErr r, ()))
theorem places_L1 (l : List Mv) (r : Rules) (ps : List Place) (i : Int) : ref3Places_L1 l r ((ps, i, ()), ()) = bif (decide (i < ((l.length : Nat) : Int))) then (Option.bind (at? l i) fun m => Option.bind (ref3Result r ps) fun x => bif (x != 0) then some (Sum.inr (Sum.inr (([] : List Place), (14, ()))))
    else req (inb (w64 (((ps.length : Nat) : Int) - 1)) ps.length) (Option.bind (movesAfter r (getD' ps (w64 (((ps.length : Nat) : Int) - 1)).toNat dP) m) fun z => bif (z.2.1 != 0) then some (Sum.inr (Sum.inr (([] : List Place), (13, ())))) else bif (decide (((ps.length : Nat) : Int) > 400)) then some (Sum.inr (Sum.inr (([] : List Place), (9, ()))))
      else req (room (ps.length + 1) 88) (some (Sum.inl ((ps ++ [z.1], w64 (i + 1), ()), ())))))
    else some (Sum.inr (Sum.inl ((ps, ()), ()))) := by
  unfold ref3Places_L1
  simp only [agree_self]
  first
  | rfl
  | cases decide (i < ((l.length : Nat) : Int)) with
    | false => rfl
    | true =>
      simp only [cond_true]
      congr 1
      funext m
      congr 1
      funext x
      cases (x != 0) with
      | true => rfl
      | false =>
        simp only [cond_false]
        cases inb (w64 (((ps.length : Nat) : Int) - 1)) ps.length with
        | false => rfl
        | true =>
          simp only [req_true]
          show Option.bind (Option.bind (movesAfter r (getD' ps (w64 (((ps.length : Nat) : Int) - 1)).toNat dP) m) _) _ = _
          cases movesAfter r (getD' ps (w64 (((ps.length : Nat) : Int) - 1)).toNat dP) m <;> rfl
theorem places_iter {r : Rules} (hr : Rng tyRules r) (l : List Mv) (hlen : l.length ≤ 1000000000) : ∀ (k : Nat) (i : Nat) (s : List Place × List Mv), i + k = l.length → OKG r s → iterW (ref3Places_L1 l r) ((s.1, (i : Int), ()), ()) = some (match runG r (l.drop i) s with
      | .inl s' => .inl ((s'.1, ()), ())
      | .inr e => .inr (([] : List Place), (e, ())))
  | 0, i, s, hi, h => by
    have : i = l.length := by omega
    subst this
    refine iterW_inr ?_
    rw [places_L1, nltd, cond_false, List.drop_length]
    rfl
  | k + 1, i, s, hi, h => by
    have hil : i < l.length := by omega
    have hl := h.len
    have hm := h.most
    have hv := h.last
    have h64 := area_len hv
    have hw := w_last (L := s.1) (by omega) (by omega)
    have hL := places_L1 l r s.1 (i : Int)
    rw [ltd l i hil, cond_true, at?_eq l _ (by omega) (by omega), Option.bind_some, res3_spec h.ok hr h.all (by omega) (by omega), Option.bind_some, hw, inbN s.1 _ (by omega), req_true] at hL
    simp only [Int.toNat_natCast] at hL
    have hla : getD' s.1 (s.1.length - 1) dP = lastP s.1 := rfl
    rw [hla, after_spec r _ _ hr (by omega), if_pos (valid_ok h.ok hv), Option.bind_some] at hL
    rw [List.drop_eq_getElem_cons hil]
    unfold runG
    by_cases c1 : gameRes r s.1 = 0
    · rw [bne_f c1, cond_false] at hL
      by_cases c2 : allowedB r (lastP s.1) l[i] = true
      · rw [if_pos c2] at hL
        simp only [bne_self_eq_false, cond_false] at hL
        by_cases c3 : s.2.length = 400
        · have e : stepG r s l[i] = 9 := by unfold stepG; rw [if_pos c1, if_pos c2, if_pos c3]
          rw [decide_eq_true (by omega), cond_true] at hL
          rw [iterW_inr hL, e, if_neg (by decide)]
        · have e : stepG r s l[i] = 0 := by unfold stepG; rw [if_pos c1, if_pos c2, if_neg c3]
          rw [decide_eq_false (by omega), cond_false, room_ok (n := s.1.length + 1) (by omega), req_true, w64_id (by omega) (by omega)] at hL
          rw [iterW_inl hL, if_pos e]
          exact places_iter hr l hlen k (i + 1) (nextG r s l[i]) (by omega) (next_ok h e)
      · have e : stepG r s l[i] = 13 := by unfold stepG; rw [if_pos c1, if_neg c2]
        rw [if_neg c2] at hL
        simp only [bne_t (show ¬ (13 : Int) = 0 by decide), cond_true] at hL
        rw [iterW_inr hL, e, if_neg (by decide)]
    · have e : stepG r s l[i] = 14 := by unfold stepG; rw [if_neg c1]
      rw [bne_t c1, cond_true] at hL
      rw [iterW_inr hL, e, if_neg (by decide)]
theorem places_spec (r : Rules) (l : List Mv) (hr : Rng tyRules r) (hl : l.length ≤ 1000000000) : ref3Places r l = some (placesRes r l) := by
  unfold ref3Places placesRes
  rw [begin_spec r hr, Option.bind_some]
  by_cases c : ruleErr r = 0
  · simp only [if_pos c]
    rw [show ((0 : Int) != 0) = false from rfl, cond_false]
    have hP := places_iter hr l hl l.length 0 ([beginOf r], []) (by omega) (begin_okG c)
    rw [List.drop_zero] at hP
    have hP' : iterW (ref3Places_L1 l r) ((([((beginOf r).1, (((beginOf r).2.1.1, ((beginOf r).2.1.2.1, ())), (beginOf r).2.2))]), (0 : Int), ()), ()) = _ := hP
    rw [hP', Option.bind_some]
    unfold gameOf
    cases runG r l ([beginOf r], []) <;> rfl
  · simp only [if_neg c]
    rw [bne_t c, cond_true]
end Go.Proofs.YteiohidcgimjlaaGreatDoor
namespace Go.Proofs.YteiohidcgimjlaaGreatDoor
open Go.Den
set_option linter.unusedVariables false
set_option linter.unusedSimpArgs false
set_option maxRecDepth 100000

/-! ### bytes -/
theorem enc_ascii {c : Int} (h : 0 ≤ c) (h' : c < 128) : Go.Utf8.encode c = ByteArray.mk #[UInt8.ofNat c.toNat] := by
  unfold Go.Utf8.encode
  have : Go.Utf8.valid c = true := by unfold Go.Utf8.valid; simp; omega
  simp only [this, if_true]
  rw [if_pos (by omega)]
theorem size_ite {c : Prop} [Decidable c] {a b : ByteArray} {n : Nat} (ha : a.size ≤ n) (hb : b.size ≤ n) : (if c then a else b).size ≤ n := by split <;> assumption
theorem enc_size (c : Int) : (Go.Utf8.encode c).size ≤ 4 := by
  unfold Go.Utf8.encode
  exact size_ite (by show 1 ≤ 4; omega) (size_ite (by show 2 ≤ 4; omega) (size_ite (by show 3 ≤ 4; omega) (by show 4 ≤ 4; omega)))
theorem bytes_inj {a b : ByteArray} (h : a.toList = b.toList) : a = b := by
  rw [ByteArray.toList_eq, ByteArray.toList_eq] at h
  cases a; cases b
  simp only at h
  rw [Array.toList_inj.1 h]
theorem bytes_beq (a b : ByteArray) : (a.toList == b.toList) = decide (a = b) := by
  rw [Bool.eq_iff_iff]
  simp only [beq_iff_eq, decide_eq_true_eq]
  exact ⟨bytes_inj, fun h => by rw [h]⟩
theorem sroom {a b : ByteArray} (h : a.size ≤ 1000000) (h' : b.size ≤ 1000000) : strRoom a b = true := by
  exact Nat.ble_eq_true_of_le (show a.size + b.size ≤ 9223372036854775807 by omega)
theorem i32_id {n : Int} (h1 : 0 ≤ n) (h2 : n ≤ 1000000) : IntKind.wrap .i32 n = n := by
  simp [IntKind.wrap, IntKind.signed, IntKind.bits]
  omega
theorem u8_inj {x y : Nat} (hx : x < 256) (hy : y < 256) : UInt8.ofNat x = UInt8.ofNat y ↔ x = y := by
  constructor
  · intro h
    have := congrArg UInt8.toNat h
    simp at this
    omega
  · intro h; rw [h]
theorem mk1_inj {a b : UInt8} : ByteArray.mk #[a] = ByteArray.mk #[b] ↔ a = b := by
  constructor
  · intro h; injection h with h; simpa using h
  · intro h; rw [h]
/-! ### squares -/
def colT (i : Int) : ByteArray := ByteArray.mk #[UInt8.ofNat (97 + i).toNat]
def rowT (i : Int) : ByteArray := ByteArray.mk #[UInt8.ofNat (49 + i).toNat]
def sqT (r : Rules) (n : Int) : ByteArray := ByteArray.mk #[UInt8.ofNat (97 + n.tmod r.width).toNat, UInt8.ofNat (49 + n.tdiv r.width).toNat]
structure OnB (r : Rules) (n : Int) : Prop where
  w : 1 ≤ r.width ∧ r.width ≤ 8
  c : 0 ≤ n.tmod r.width ∧ n.tmod r.width < 8
  d : 0 ≤ n.tdiv r.width ∧ n.tdiv r.width < 8
theorem onB_of {r : Rules} (h : VR0 r) {n : Int} (h0 : 0 ≤ n) (h1 : n < r.width * r.height) : OnB r n := by
  have w1 := h.w1
  have w8 := h.w8
  have e1 := h.h1
  have e8 := h.h8
  have a := Int.tmod_lt_of_pos n (show 0 < r.width by omega)
  have b := Int.tmod_nonneg r.width h0
  have c := Int.tdiv_nonneg h0 (show 0 ≤ r.width by omega)
  have d : n.tdiv r.width < r.height := by
    rw [Int.tdiv_eq_ediv_of_nonneg h0]
    exact Int.ediv_lt_of_lt_mul (by omega) (by rw [Int.mul_comm]; exact h1)
  exact ⟨⟨w1, w8⟩, ⟨b, by omega⟩, ⟨c, by omega⟩⟩
theorem onB_cell {r : Rules} {p : Place} (h : Valid r p) {n : Int} (h0 : 0 ≤ n) (h1 : n < ((p.1.length : Nat) : Int)) : OnB r n := by
  have hc : ((p.1.length : Nat) : Int) = r.width * r.height := h.cells
  exact onB_of h.r0 h0 (by omega)
theorem sq_size (r : Rules) (n : Int) : (sqT r n).size = 2 := rfl
theorem sq_app (r : Rules) (n : Int) : colT (n.tmod r.width) ++ rowT (n.tdiv r.width) = sqT r n := rfl
theorem sq_c (r : Rules) (n : Int) : (sqT r n).extract 0 1 = colT (n.tmod r.width) := rfl
theorem sq_r (r : Rules) (n : Int) : (sqT r n).extract 1 2 = rowT (n.tdiv r.width) := rfl
theorem col_inj {a b : Int} (ha : 0 ≤ a ∧ a < 8) (hb : 0 ≤ b ∧ b < 8) : colT a = colT b ↔ a = b := by
  unfold colT
  rw [mk1_inj, u8_inj (by omega) (by omega)]
  omega
theorem row_inj {a b : Int} (ha : 0 ≤ a ∧ a < 8) (hb : 0 ≤ b ∧ b < 8) : rowT a = rowT b ↔ a = b := by
  unfold rowT
  rw [mk1_inj, u8_inj (by omega) (by omega)]
  omega
theorem col_row {a b : Int} (ha : 0 ≤ a ∧ a < 8) (hb : 0 ≤ b ∧ b < 8) : ¬ colT a = rowT b := by
  unfold colT rowT
  rw [mk1_inj, u8_inj (by omega) (by omega)]
  omega
theorem one_two {a : ByteArray} (h : a.size ≤ 1) (r : Rules) (n : Int) : ¬ a = sqT r n := fun e => by
  have := congrArg ByteArray.size e
  rw [sq_size] at this
  omega
theorem column_spec {r : Rules} {n : Int} (h : OnB r n) : movetextColumn r n = some (colT (n.tmod r.width)) := by
  have := h.w
  have := h.c
  unfold movetextColumn colT
  rw [show (r.2.1 != 0) = true from bne_t (by show ¬ r.width = 0; omega), req_true]
  show some (Go.Utf8.encode (IntKind.wrap .i32 (w64 (97 + n.tmod r.width)))) = _
  rw [w64_id (by omega) (by omega), i32_id (by omega) (by omega), enc_ascii (by omega) (by omega)]
theorem row_spec {r : Rules} {n : Int} (h : OnB r n) : movetextRow r n = some (rowT (n.tdiv r.width)) := by
  have := h.w
  have := h.d
  unfold movetextRow rowT
  rw [show (r.2.1 != 0) = true from bne_t (by show ¬ r.width = 0; omega), req_true]
  show some (Go.Utf8.encode (IntKind.wrap .i32 (w64 (49 + w64 (n.tdiv r.width))))) = _
  rw [w64_id (n := n.tdiv r.width) (by omega) (by omega), w64_id (by omega) (by omega), i32_id (by omega) (by omega), enc_ascii (by omega) (by omega)]
theorem square_spec {r : Rules} {n : Int} (h : OnB r n) : movetextSquare r n = some (sqT r n) := by
  unfold movetextSquare
  rw [column_spec h, row_spec h, Option.bind_some, Option.bind_some, sroom (by show 1 ≤ _; omega) (by show 1 ≤ _; omega), req_true, sq_app]
theorem abc (i : Int) (h : 0 ≤ i ∧ i < 8) : strAt (ByteArray.mk #[97, 98, 99, 100, 101, 102, 103, 104]) i = some (UInt8.ofNat (97 + i).toNat) ∧ strAt (ByteArray.mk #[49, 50, 51, 52, 53, 54, 55, 56]) i = some (UInt8.ofNat (49 + i).toNat) := by
  have : i = 0 ∨ i = 1 ∨ i = 2 ∨ i = 3 ∨ i = 4 ∨ i = 5 ∨ i = 6 ∨ i = 7 := by omega
  rcases this with rfl | rfl | rfl | rfl | rfl | rfl | rfl | rfl <;> exact ⟨rfl, rfl⟩
theorem u8_nat {x : Nat} (h : x < 128) : Go.Utf8.encode (((UInt8.ofNat x).toNat : Nat) : Int) = ByteArray.mk #[UInt8.ofNat x] := by
  have : (UInt8.ofNat x).toNat = x := by simp; omega
  rw [this, enc_ascii (by omega) (by omega)]
  rfl
theorem rsquare_spec {r : Rules} {n : Int} (h : OnB r n) : ref3Square r.width n = some (sqT r n) := by
  have hw := h.w
  have hc := h.c
  have hd := h.d
  unfold ref3Square
  rw [show (r.width != 0) = true from bne_t (by omega), req_true, w64_id (by omega) (by omega), (abc _ hc).1, Option.bind_some, req_true, (abc _ hd).2, Option.bind_some]
  rw [u8_nat (by omega), u8_nat (by omega), sroom (by show 1 ≤ _; omega) (by show 1 ≤ _; omega), req_true]
  rfl
end Go.Proofs.YteiohidcgimjlaaGreatDoor
namespace Go.Proofs.YteiohidcgimjlaaGreatDoor
open Go.Den
set_option linter.unusedVariables false
set_option linter.unusedSimpArgs false
set_option maxRecDepth 100000

def letterT (r : Rules) (k : Int) : ByteArray := Go.Utf8.encode (pieceI r k).1
def Letters (r : Rules) : Prop := ∀ q ∈ r.pieces, 0 ≤ q.1 ∧ q.1 ≤ 255
theorem letters_of {r : Rules} (hr : Rng tyRules r) : Letters r := fun q hq => by
  have := (hr.2.2.2.1.2 q hq).1
  have h1 : IntKind.u8.min = 0 := by decide
  have h2 : IntKind.u8.max = 255 := by decide
  rw [← h1, ← h2]
  exact this
theorem letter_spec {r : Rules} (hL : Letters r) {k : Int} (h0 : 0 ≤ k) (h1 : k < ((r.pieces.length : Nat) : Int)) : movetextLetter r k = some (letterT r k) := by
  obtain ⟨a, b⟩ := at_piece h0 h1
  have := hL _ b
  unfold movetextLetter letterT
  rw [a, Option.bind_some, i32_id this.1 (by omega)]
theorem letter_size (r : Rules) (k : Int) : (letterT r k).size ≤ 4 := enc_size _
/-- another piece of the same kind that can go there, too -/
def riv (p : Place) (m x : Mv) : Bool := (((decide (x.1 ≥ 0)) && (x.1 != m.1)) && (x.2.1 == m.2.1)) && (cellI p x.1 == cellI p m.1)
def rivals (r : Rules) (p : Place) (m : Mv) : List Int := ((movesOf r p).filter (riv p m)).map fun x => x.1
def sameC (r : Rules) (m : Mv) (n : Int) : Bool := n.tmod r.width == m.1.tmod r.width
def sameR (r : Rules) (m : Mv) (n : Int) : Bool := n.tdiv r.width == m.1.tdiv r.width
def e0 : ByteArray := ByteArray.mk #[]
def markT (r : Rules) (p : Place) (m : Mv) : ByteArray := if (rivals r p m).length = 0 then e0 else if (rivals r p m).any (sameC r m) = false then colT (m.1.tmod r.width) else if (rivals r p m).any (sameR r m) = false then rowT (m.1.tdiv r.width) else sqT r m.1
theorem mark_size (r : Rules) (p : Place) (m : Mv) : (markT r p m).size ≤ 2 := by
  unfold markT
  split
  · show 0 ≤ 2; omega
  · split
    · show 1 ≤ 2; omega
    · split
      · show 1 ≤ 2; omega
      · show 2 ≤ 2; omega
theorem mark_L1 (l : List Mv) (m : Mv) (p : Place) (i : Int) (acc : List Int) : movetextMark_L1 l m p ((i, ()), ((acc, ()), ())) = bif (decide (i < ((l.length : Nat) : Int))) then (Option.bind (at? l i) fun d => Option.bind (gat (((decide (d.1 ≥ 0)) && (d.1 != m.1)) && (d.2.1 == m.2.1)) 0 p.1 d.1) fun a => Option.bind (gat (((decide (d.1 ≥ 0)) && (d.1 != m.1)) && (d.2.1 == m.2.1)) 0 p.1 m.1) fun b =>
    Option.bind (bif ((((decide (d.1 ≥ 0)) && (d.1 != m.1)) && (d.2.1 == m.2.1)) && (a == b)) then req (room (acc.length + 1) 8) (some ((), ((acc ++ [d.1], ()), ()))) else some ((), ((acc, ()), ()))) fun x : Unit × ((List Int × Unit) × Unit) => some (Sum.inl ((w64 (i + 1), ()), ((x.2.1.1, ()), ()))))
  else some (Sum.inr ((), ((acc, ()), ()))) := rfl
theorem mark_L2 (l : List Int) (r : Rules) (m : Mv) (i : Int) : movetextMark_L2 ((), ((l, ()), ())) r m ((i, ()), ()) = bif (decide (i < ((l.length : Nat) : Int))) then (req (inb i l.length) (req (r.width != 0) (req (r.width != 0) (bif ((getD' l i.toNat 0).tmod r.width == m.1.tmod r.width) then (Option.map Sum.inr (Option.map Sum.inr (bif (!(decide (i ≥ 0))) then (Option.bind (movetextColumn r m.1) fun a => some a)
    else Option.bind (iterW (movetextMark_L3 ((), ((l, ()), ())) r m) (((0 : Int), ()), ())) (Sum.elim (fun _ => Option.bind (movetextRow r m.1) fun a => some a) some)))) else some (Sum.inl ((w64 (i + 1), ()), ()))))))
  else some (Sum.inr (Sum.inl ((), ()))) := rfl
theorem mark_L3 (l : List Int) (r : Rules) (m : Mv) (i : Int) : movetextMark_L3 ((), ((l, ()), ())) r m ((i, ()), ()) = bif (decide (i < ((l.length : Nat) : Int))) then (req (inb i l.length) (req (r.width != 0) (req (r.width != 0) (bif (w64 ((getD' l i.toNat 0).tdiv r.width) == w64 (m.1.tdiv r.width)) then (Option.map Sum.inr (Option.map Sum.inr (bif (!(decide (i ≥ 0))) then (Option.bind (movetextRow r m.1) fun a => some a)
    else Option.bind (movetextSquare r m.1) fun a => some a))) else some (Sum.inl ((w64 (i + 1), ()), ()))))))
  else some (Sum.inr (Sum.inl ((), ()))) := rfl
theorem riv_mem {r : Rules} {p : Place} {m : Mv} {n : Int} (hn : n ∈ rivals r p m) : 0 ≤ n ∧ n < ((p.1.length : Nat) : Int) := by
  unfold rivals at hn
  obtain ⟨x, hx, rfl⟩ := List.mem_map.1 hn
  obtain ⟨hx1, hx2⟩ := List.mem_filter.1 hx
  have := (allowed_rng ((movesOf_mem x).1 hx1)).1
  have : x.1 ≥ 0 := by
    unfold riv at hx2
    simp only [Bool.and_eq_true, decide_eq_true_eq] at hx2
    exact hx2.1.1.1
  omega
theorem mark_spec {r : Rules} {p : Place} {m : Mv} (h : Valid r p) (ha : allowedB r p m = true) (hm : ¬ m.1 < 0) : movetextMark r p (movesOf r p) m = some (markT r p m) := by
  have hrg := allowed_rng ha
  have hb := onB_cell h (n := m.1) (by omega) hrg.1.2
  have hlen := movesOf_len h
  have hw : (r.width != 0) = true := bne_t (by have := hb.w; omega)
  unfold movetextMark
  generalize hl : movesOf r p = l at hlen
  have hI := iterW_states (f := movetextMark_L1 l m p) l.length (fun i => (((i : Int), ()), ((((l.take i).filter (riv p m)).map (fun x => x.1), ()), ()))) ((), (((l.filter (riv p m)).map (fun x => x.1), ()), ())) (fun i hi => by
    have hal : allowedB r p l[i] = true := (movesOf_mem _).1 (hl ▸ List.getElem_mem hi)
    have hx := allowed_rng hal
    have ht : (((l.take (i + 1)).filter (riv p m)).map (fun x => x.1)) = ((l.take i).filter (riv p m)).map (fun x => x.1) ++ (if riv p m l[i] = true then [l[i].1] else []) := by
      rw [List.take_succ_eq_append_getElem hi, List.filter_append, List.map_append]
      by_cases c : riv p m l[i] = true
      · rw [if_pos c, List.filter_cons_of_pos c]; rfl
      · rw [if_neg c, List.filter_cons_of_neg c]; rfl
    rw [mark_L1, ltd l i hi, cond_true, at?_eq l _ (by omega) (by omega), Option.bind_some, ht]
    simp only [Int.toNat_natCast]
    have hroom : room ((((l.take i).filter (riv p m)).map (fun x => x.1)).length + 1) 8 = true := room_ok (by
      have := List.length_filter_le (riv p m) (l.take i)
      simp only [List.length_map, List.length_take] at this ⊢
      omega)
    rw [w64_id (n := (i : Int) + 1) (by omega) (by omega)]
    unfold riv at hroom ⊢
    cases hc : ((decide (l[i].1 ≥ 0) && (l[i].1 != m.1)) && (l[i].2.1 == m.2.1)) with
    | false => simp [gat]
    | true =>
      have h0 : l[i].1 ≥ 0 := by
        simp only [Bool.and_eq_true, decide_eq_true_eq] at hc
        exact hc.1.1
      simp only [gat, cond_true, Bool.true_and]
      rw [at_cell h0 hx.1.2, Option.bind_some, at_cell (by omega) hrg.1.2, Option.bind_some]
      cases hcc : (cellI p l[i].1 == cellI p m.1) with
      | false => simp
      | true =>
        simp only [cond_true]
        rw [hroom, req_true]
        simp) (by rw [mark_L1, nltd, cond_false, List.take_length])
  have hI' : iterW (movetextMark_L1 l m p) (((0 : Int), ()), ((([] : List Int), ()), ())) = _ := hI
  rw [hI', Option.bind_some]
  have hR : (l.filter (riv p m)).map (fun x => x.1) = rivals r p m := by unfold rivals; rw [hl]
  rw [hR]
  have hrl : (rivals r p m).length ≤ 100000 := by
    unfold rivals
    rw [hl, List.length_map]
    exact Nat.le_trans (List.length_filter_le _ _) hlen
  have hmem := fun n (hn : n ∈ rivals r p m) => riv_mem hn
  unfold markT
  generalize rivals r p m = R at hrl hmem ⊢
  simp only
  by_cases c0 : R.length = 0
  · rw [beq_t (by omega), cond_true, if_pos c0]; rfl
  · rw [beq_f (by omega), cond_false, if_neg c0]
    have hL3 := iterW_any R (sameR r m) (movetextMark_L3 ((), ((R, ()), ())) r m) (.inr (sqT r m.1)) (.inl ((), ())) (fun i hi => by
      have hn := hmem _ (List.getElem_mem hi)
      have hbn := onB_cell h hn.1 hn.2
      have := hbn.d
      have := hb.d
      rw [mark_L3, ltd R i hi, cond_true, inbN R i hi, req_true, hw, req_true, req_true, Int.toNat_natCast, gd_eq R i hi, w64_id (n := R[i].tdiv r.width) (by omega) (by omega), w64_id (n := m.1.tdiv r.width) (by omega) (by omega), w64_id (n := (i : Int) + 1) (by omega) (by omega), decide_eq_true (show (i : Int) ≥ 0 by omega), square_spec hb]
      show (bif sameR r m R[i] then _ else _) = _
      cases sameR r m R[i] <;> rfl) (by rw [mark_L3, nltd, cond_false])
    have hL2 := iterW_any R (sameC r m) (movetextMark_L2 ((), ((R, ()), ())) r m) (.inr (if R.any (sameR r m) = false then rowT (m.1.tdiv r.width) else sqT r m.1)) (.inl ((), ())) (fun i hi => by
      rw [mark_L2, ltd R i hi, cond_true, inbN R i hi, req_true, hw, req_true, req_true, Int.toNat_natCast, gd_eq R i hi, w64_id (n := (i : Int) + 1) (by omega) (by omega), decide_eq_true (show (i : Int) ≥ 0 by omega), hL3, Option.bind_some]
      show (bif sameC r m R[i] then _ else _) = _
      rw [row_spec hb]
      cases sameC r m R[i] with
      | false => rfl
      | true => cases R.any (sameR r m) <;> rfl) (by rw [mark_L2, nltd, cond_false])
    rw [hL2, Option.bind_some, column_spec hb]
    cases R.any (sameC r m) <;> rfl
def eqT : ByteArray := ByteArray.mk #[61]
def xT : ByteArray := ByteArray.mk #[120]
def atT : ByteArray := ByteArray.mk #[64]
/-- the text of a move of a piece, with a mark -/
def goT (r : Rules) (p : Place) (m : Mv) (mark : ByteArray) : ByteArray :=
  bif m.2.2.1 != kindOf (cellI p m.1) then ((bif cellI p m.2.1 != 0 then (letterT r (kindOf (cellI p m.1)) ++ mark) ++ xT else letterT r (kindOf (cellI p m.1)) ++ mark) ++ sqT r m.2.1) ++ (eqT ++ letterT r m.2.2.1)
  else (bif cellI p m.2.1 != 0 then (letterT r (kindOf (cellI p m.1)) ++ mark) ++ xT else letterT r (kindOf (cellI p m.1)) ++ mark) ++ sqT r m.2.1
def moveT (r : Rules) (p : Place) (m : Mv) : ByteArray := if m.1 < 0 then (letterT r m.2.2.1 ++ atT) ++ sqT r m.2.1 else goT r p m (markT r p m)
theorem allowed_mine {r : Rules} {p : Place} {m : Mv} (ha : allowedB r p m = true) (hm : ¬ m.1 < 0) : cellI p m.1 > 0 ∧ (cellI p m.1 - 1).tmod 2 = p.turn := by
  unfold allowedB at ha
  rw [Bool.and_eq_true] at ha
  have h2 := ha.2
  rw [beq_f (show ¬ m.1 = -1 by omega), cond_false] at h2
  unfold goOk mineB at h2
  simp only [Bool.and_eq_true, decide_eq_true_eq, beq_iff_eq] at h2
  exact h2.1
theorem of_spec {r : Rules} {p : Place} {m : Mv} (hL : Letters r) (h : Valid r p) (ha : allowedB r p m = true) : movetextOf r p (movesOf r p) m = some (moveT r p m) := by
  have hrg := allowed_rng ha
  have hbt := onB_cell h (n := m.2.1) hrg.2.1.1 hrg.2.1.2
  unfold movetextOf moveT
  by_cases hm : m.1 < 0
  · rw [decide_eq_true hm, cond_true, if_pos hm, letter_spec hL hrg.2.2.1 hrg.2.2.2, Option.bind_some, square_spec hbt]
    have s1 := letter_size r m.2.2.1
    rw [sroom (by omega) (by show 1 ≤ _; omega), req_true, Option.bind_some, sroom (by rw [ByteArray.size_append]; show _ + 1 ≤ _; omega) (by show 2 ≤ _; omega), req_true]
    rfl
  · obtain ⟨hc, _⟩ := allowed_mine ha hm
    obtain ⟨k1, k2, k3⟩ := kind_rng h hc
    have s1 := letter_size r (kindOf (cellI p m.1))
    have s2 := mark_size r p m
    have s3 := letter_size r m.2.2.1
    have sx : xT.size = 1 := rfl
    have se : eqT.size = 1 := rfl
    have ss := sq_size r m.2.1
    rw [decide_eq_false hm, cond_false, if_neg hm, at_cell (by omega) hrg.1.2, Option.bind_some, k1, letter_spec hL k2 k3, Option.bind_some, mark_spec h ha hm, Option.bind_some, sroom (by omega) (by omega), req_true, at_cell hrg.2.1.1 hrg.2.1.2, Option.bind_some, square_spec hbt, letter_spec hL hrg.2.2.1 hrg.2.2.2]
    unfold goT
    have r1 : strRoom (letterT r (kindOf (cellI p m.1)) ++ markT r p m) xT = true := sroom (by rw [ByteArray.size_append]; omega) (by omega)
    have r1' : strRoom (letterT r (kindOf (cellI p m.1)) ++ markT r p m) (ByteArray.mk #[120]) = true := r1
    rw [r1', req_true]
    have r2 : ∀ a : ByteArray, a.size ≤ 20 → strRoom a (sqT r m.2.1) = true := fun a ha => sroom (by omega) (by omega)
    have r3 : strRoom (ByteArray.mk #[61]) (letterT r m.2.2.1) = true := sroom (show eqT.size ≤ _ by omega) (by omega)
    have r4 : ∀ a : ByteArray, a.size ≤ 20 → strRoom (a ++ sqT r m.2.1) ((ByteArray.mk #[61]) ++ letterT r m.2.2.1) = true := fun a ha => sroom (by rw [ByteArray.size_append]; omega) (by rw [ByteArray.size_append]; show eqT.size + _ ≤ _; omega)
    have z1 : (letterT r (kindOf (cellI p m.1)) ++ markT r p m).size ≤ 20 := by rw [ByteArray.size_append]; omega
    have z2 : ((letterT r (kindOf (cellI p m.1)) ++ markT r p m) ++ ByteArray.mk #[120]).size ≤ 20 := by rw [ByteArray.size_append, ByteArray.size_append]; show _ + xT.size ≤ _; omega
    cases cellI p m.2.1 != 0 with
    | true =>
      simp only [cond_true, Option.bind_some]
      rw [r2 _ z2, req_true]
      cases m.2.2.1 != kindOf (cellI p m.1) with
      | true =>
        simp only [cond_true]
        rw [r3, req_true, r4 _ z2, req_true]
        rfl
      | false => rfl
    | false =>
      simp only [cond_false, Option.bind_some]
      rw [r2 _ z1, req_true]
      cases m.2.2.1 != kindOf (cellI p m.1) with
      | true =>
        simp only [cond_true, Option.bind_some]
        rw [r3, req_true, r4 _ z1, req_true]
        rfl
      | false => rfl
/-! ### the reference -/
/-- does a mark tell the square n apart? -/
def hitT (mark s : ByteArray) : Bool := (((mark.toList == e0.toList) || (mark.toList == (s.extract 0 1).toList)) || (mark.toList == (s.extract 1 s.size).toList)) || (mark.toList == s.toList)
theorem hit_0 (r : Rules) (n : Int) : hitT e0 (sqT r n) = true := by unfold hitT; simp
theorem e0_col (i : Int) : ¬ colT i = e0 := fun h => by have := congrArg ByteArray.size h; cases this
theorem e0_row (i : Int) : ¬ rowT i = e0 := fun h => by have := congrArg ByteArray.size h; cases this
theorem hit_c {r : Rules} {n : Int} {a : Int} (hb : OnB r n) (ha : 0 ≤ a ∧ a < 8) : hitT (colT a) (sqT r n) = decide (n.tmod r.width = a) := by
  unfold hitT
  rw [show (sqT r n).size = 2 from rfl, sq_c, sq_r, bytes_beq, bytes_beq, bytes_beq, bytes_beq, decide_eq_false (e0_col a), decide_eq_false (col_row ha hb.d), decide_eq_false (one_two (by show 1 ≤ 1; omega) r n), Bool.false_or, Bool.or_false, Bool.or_false]
  rw [Bool.eq_iff_iff, decide_eq_true_eq, decide_eq_true_eq, col_inj ha hb.c]
  exact eq_comm
theorem hit_r {r : Rules} {n : Int} {a : Int} (hb : OnB r n) (ha : 0 ≤ a ∧ a < 8) : hitT (rowT a) (sqT r n) = decide (n.tdiv r.width = a) := by
  unfold hitT
  have : ¬ rowT a = colT (n.tmod r.width) := fun h => col_row hb.c ha h.symm
  rw [show (sqT r n).size = 2 from rfl, sq_c, sq_r, bytes_beq, bytes_beq, bytes_beq, bytes_beq, decide_eq_false (e0_row a), decide_eq_false this, decide_eq_false (one_two (by show 1 ≤ 1; omega) r n), Bool.false_or, Bool.false_or, Bool.or_false]
  rw [Bool.eq_iff_iff, decide_eq_true_eq, decide_eq_true_eq, row_inj ha hb.d]
  exact eq_comm
end Go.Proofs.YteiohidcgimjlaaGreatDoor
namespace Go.Proofs.YteiohidcgimjlaaGreatDoor
open Go.Den
set_option linter.unusedVariables false
set_option linter.unusedSimpArgs false
set_option maxRecDepth 100000

def marks (own : ByteArray) : List ByteArray := [e0, own.extract 0 1, own.extract 1 ((own.size : Nat) : Int).toNat, own]
def markAt (own : ByteArray) (k : Int) : ByteArray := getD' (marks own) k.toNat ByteArray.empty
/-- is it not a rival at all? -/
def notR (m x : Mv) : Bool := ((decide (x.1 < 0)) || (x.2.1 != m.2.1)) || (x.1 == m.1)
theorem mt_L2 (l : List Mv) (e : Int) (m : Mv) (p : Place) (c : Int) (r : Rules) (own : ByteArray) (k : Int) (b : Bool) (i : Int) : ref3MoveText_L2 (l, (e, ())) m p c r own ((k, ()), ()) ((b, i, ()), ()) =
    bif (decide (i < ((l.length : Nat) : Int))) then (Option.bind (req (inb i l.length) (Option.bind (gat (!notR m (getD' l i.toNat d0)) 0 p.1 (getD' l i.toNat d0).1) fun d => bif notR m (getD' l i.toNat d0) || (d != c) then some ((b, ()), ()) else
      Option.bind (ref3Square r.width (getD' l i.toNat d0).1) fun s => req (imp (!((markAt own k).toList == e0.toList)) (boundsI 0 1 s.size)) (req (imp (!(((markAt own k).toList == e0.toList) || ((markAt own k).toList == (s.extract 0 1).toList))) (boundsI 1 ((s.size : Nat) : Int) s.size)) (Option.bind (bif hitT (markAt own k) s then some ((false, ()), ()) else some ((b, ()), ())) fun x : (Bool × Unit) × Unit => some ((x.1.1, ()), ()))))) fun x : (Bool × Unit) × Unit => some (Sum.inl ((x.1.1, w64 (i + 1), ()), ())))
    else some (Sum.inr ((b, ()), ())) := by
  unfold ref3MoveText_L2
  simp only [agree_self]
  rfl
noncomputable def finF (r : Rules) (p : Place) (m : Mv) (c : Int) (mark to : ByteArray) : Option (((Unit) × (Unit)) ⊕ (((Int × Unit) × (Unit)) ⊕ (((Unit) × (Unit)) ⊕ ByteArray))) :=
  Option.bind (at? r.2.2.2.1 (w64 ((w64 (c - 1)).tdiv 2))) fun d18 => req (strRoom (Go.Utf8.encode d18.1) mark) (Option.bind (at? p.1 m.2.1) fun d19 =>
    Option.bind (bif decide (d19 > 0) then req (strRoom (Go.Utf8.encode d18.1 ++ mark) xT) (some ((((Go.Utf8.encode d18.1 ++ mark) ++ xT), ()), ())) else some (((Go.Utf8.encode d18.1 ++ mark), ()), ())) fun x20 : (ByteArray × Unit) × Unit =>
    req (strRoom x20.1.1 to) (Option.bind (bif (w64 ((w64 ((w64 (2 * m.2.2.1)) + p.2.2.1)) + 1)) != c then (Option.bind (at? r.2.2.2.1 m.2.2.1) fun d21 => req (strRoom eqT (Go.Utf8.encode d21.1)) (req (strRoom (x20.1.1 ++ to) (eqT ++ Go.Utf8.encode d21.1)) (some ((((x20.1.1 ++ to) ++ (eqT ++ Go.Utf8.encode d21.1)), ()), ()))))
      else some (((x20.1.1 ++ to), ()), ())) fun x22 : (ByteArray × Unit) × Unit => some (Sum.inr (Sum.inr (Sum.inr x22.1.1)))))
theorem mt_L1 (own : ByteArray) (l : List Mv) (e : Int) (m : Mv) (p : Place) (c : Int) (r : Rules) (to : ByteArray) (k : Int) : ref3MoveText_L1 own (l, (e, ())) m p c r to ((k, ()), ()) =
    bif (decide (k < (((marks own).length : Nat) : Int))) then (Option.bind (req (inb k (marks own).length) (Option.bind (iterW (ref3MoveText_L2 (l, (e, ())) m p c r own ((k, ()), ())) ((true, (0 : Int), ()), ())) fun x => bif ((!x.1.1) && (!((markAt own k).toList == own.toList))) then some (Sum.inl ((), ())) else finF r p m c (markAt own k) to)) (Sum.elim (fun _ => some (Sum.inl ((w64 (k + 1), ()), ()))) some))
    else some (Sum.inr (Sum.inl ((), ()))) := by
  unfold ref3MoveText_L1
  simp only [agree_self]
  rfl
theorem fin_spec {r : Rules} {p : Place} {m : Mv} (hL : Letters r) (h : Valid r p) (ha : allowedB r p m = true) (hm : ¬ m.1 < 0) (mark : ByteArray) (hs : mark.size ≤ 2) : finF r p m (cellI p m.1) mark (sqT r m.2.1) = some (.inr (.inr (.inr (goT r p m mark)))) := by
  have hrg := allowed_rng ha
  obtain ⟨hc, hc2⟩ := allowed_mine ha hm
  obtain ⟨k1, k2, k3⟩ := kind_rng h hc
  have hcr := cell_rng h m.2.1
  have hcr1 := cell_rng h m.1
  have ht := h.turn
  have t6 := h.r0.t6
  have s1 := letter_size r (kindOf (cellI p m.1))
  have s3 := letter_size r m.2.2.1
  have sx : xT.size = 1 := rfl
  have se : eqT.size = 1 := rfl
  have ss := sq_size r m.2.1
  unfold finF goT
  rw [k1, (at_piece k2 k3).1, Option.bind_some, (at_piece hrg.2.2.1 hrg.2.2.2).1, at_cell hrg.2.1.1 hrg.2.1.2]
  have hl1 : Go.Utf8.encode (pieceI r (kindOf (cellI p m.1))).1 = letterT r (kindOf (cellI p m.1)) := rfl
  have hl2 : Go.Utf8.encode (pieceI r m.2.2.1).1 = letterT r m.2.2.1 := rfl
  simp only [Option.bind_some, hl1, hl2]
  rw [sroom (by omega) (by omega), req_true]
  have q1 : decide (cellI p m.2.1 > 0) = (cellI p m.2.1 != 0) := by rw [Bool.eq_iff_iff]; simp; omega
  have hkind : kindOf (cellI p m.1) = (cellI p m.1 - 1).tdiv 2 := rfl
  have hdm := Int.mul_tdiv_add_tmod (cellI p m.1 - 1) 2
  have hpt : p.2.2.1 = p.turn := rfl
  have q2 : ((w64 ((w64 ((w64 (2 * m.2.2.1)) + p.2.2.1)) + 1)) != cellI p m.1) = (m.2.2.1 != kindOf (cellI p m.1)) := by
    rw [w64_id (n := 2 * m.2.2.1) (by omega) (by omega), hpt, w64_id (n := 2 * m.2.2.1 + p.turn) (by omega) (by omega), w64_id (by omega) (by omega)]
    rw [Bool.eq_iff_iff]
    simp only [bne_iff_ne]
    omega
  rw [q1, q2]
  have r2 : ∀ a : ByteArray, a.size ≤ 20 → strRoom a (sqT r m.2.1) = true := fun a ha => sroom (by omega) (by omega)
  have r3 : strRoom eqT (letterT r m.2.2.1) = true := sroom (by omega) (by omega)
  have r4 : ∀ a : ByteArray, a.size ≤ 20 → strRoom (a ++ sqT r m.2.1) (eqT ++ letterT r m.2.2.1) = true := fun a ha => sroom (by rw [ByteArray.size_append]; omega) (by rw [ByteArray.size_append]; omega)
  have z1 : (letterT r (kindOf (cellI p m.1)) ++ mark).size ≤ 20 := by rw [ByteArray.size_append]; omega
  have z2 : ((letterT r (kindOf (cellI p m.1)) ++ mark) ++ xT).size ≤ 20 := by rw [ByteArray.size_append, ByteArray.size_append]; omega
  have r1 : strRoom (letterT r (kindOf (cellI p m.1)) ++ mark) xT = true := sroom (by omega) (by omega)
  rw [r1, req_true]
  cases cellI p m.2.1 != 0 with
  | true =>
    simp only [cond_true, Option.bind_some]
    rw [r2 _ z2, req_true]
    cases m.2.2.1 != kindOf (cellI p m.1) with
    | true =>
      simp only [cond_true]
      rw [r3, req_true, r4 _ z2, req_true]
      rfl
    | false => rfl
  | false =>
    simp only [cond_false, Option.bind_some]
    rw [r2 _ z1, req_true]
    cases m.2.2.1 != kindOf (cellI p m.1) with
    | true =>
      simp only [cond_true]
      rw [r3, req_true, r4 _ z1, req_true]
      rfl
    | false => rfl
/-- no rival is met by a mark -/
def alone (r : Rules) (p : Place) (m : Mv) (mark : ByteArray) : Bool := (movesOf r p).all fun x => !(riv p m x && hitT mark (sqT r x.1))
theorem alone_loop {r : Rules} {p : Place} {m : Mv} (h : Valid r p) (ha : allowedB r p m = true) (hm : ¬ m.1 < 0) (own : ByteArray) (k e : Int) : iterW (ref3MoveText_L2 (movesOf r p, (e, ())) m p (cellI p m.1) r own ((k, ()), ())) ((true, (0 : Int), ()), ()) = some ((alone r p m (markAt own k), ()), ()) := by
  have hlen := movesOf_len h
  unfold alone
  generalize hl : movesOf r p = l at hlen
  have := iter_all l (fun x => !(riv p m x && hitT (markAt own k) (sqT r x.1))) (ref3MoveText_L2 (l, (e, ())) m p (cellI p m.1) r own ((k, ()), ())) (fun b => ((b, ()), ())) true (fun i hi b => by
    have hal : allowedB r p l[i] = true := (movesOf_mem _).1 (hl ▸ List.getElem_mem hi)
    have hx := allowed_rng hal
    rw [mt_L2, ltd l i hi, cond_true, inbN l i hi, req_true]
    simp only [Int.toNat_natCast]
    rw [gd_eq l i hi, w64_id (n := (i : Int) + 1) (by omega) (by omega)]
    have hn : (!notR m l[i]) = ((decide (l[i].1 ≥ 0) && (l[i].1 != m.1)) && (l[i].2.1 == m.2.1)) := by
      unfold notR
      rw [Bool.eq_iff_iff]
      simp only [Bool.not_eq_true', Bool.or_eq_false_iff, decide_eq_false_iff_not, bne_eq_false_iff_eq, beq_eq_false_iff_ne, Bool.and_eq_true, decide_eq_true_eq, bne_iff_ne, beq_iff_eq]
      constructor
      · rintro ⟨⟨a, b⟩, c⟩; exact ⟨⟨by omega, c⟩, b⟩
      · rintro ⟨⟨a, b⟩, c⟩; exact ⟨⟨by omega, c⟩, b⟩
    have hn' : notR m l[i] = !((decide (l[i].1 ≥ 0) && (l[i].1 != m.1)) && (l[i].2.1 == m.2.1)) := by rw [← hn, Bool.not_not]
    unfold riv
    rw [hn', Bool.not_not]
    cases hc : ((decide (l[i].1 ≥ 0) && (l[i].1 != m.1)) && (l[i].2.1 == m.2.1)) with
    | false => simp [gat]
    | true =>
      have h0 : l[i].1 ≥ 0 := by
        simp only [Bool.and_eq_true, decide_eq_true_eq] at hc
        exact hc.1.1
      simp only [gat, cond_true, Bool.not_true, Bool.false_or, Bool.true_and]
      rw [at_cell h0 hx.1.2, Option.bind_some]
      by_cases hcc : cellI p l[i].1 = cellI p m.1
      · rw [bne_f hcc, cond_false, beq_t hcc, Bool.true_and, rsquare_spec (onB_cell h h0 hx.1.2), Option.bind_some]
        have b1 : boundsI 0 1 (sqT r l[i].1).size = true := rfl
        have b2 : boundsI 1 (((sqT r l[i].1).size : Nat) : Int) (sqT r l[i].1).size = true := rfl
        have himp : ∀ b, imp b true = true := fun b => by cases b <;> rfl
        rw [b1, b2, himp, himp, req_true, req_true]
        cases hitT (markAt own k) (sqT r l[i].1) <;> simp
      · rw [bne_t hcc, cond_true, beq_f hcc]
        simp) (fun b => by rw [mt_L2, nltd, cond_false])
  rw [this, Bool.true_and]
theorem all_riv {r : Rules} {p : Place} {m : Mv} (q : Int → Bool) : ((movesOf r p).all fun x => !(riv p m x && q x.1)) = !(rivals r p m).any q := by
  unfold rivals
  rw [List.any_map, List.any_filter]
  induction movesOf r p with
  | nil => rfl
  | cons x l ih =>
    rw [List.all_cons, List.any_cons, ih]
    simp only [Function.comp, Bool.not_or]
theorem rtext_spec {r : Rules} {p : Place} {m : Mv} (hL : Letters r) (hr : Rng tyRules r) (h : Valid r p) (hp0 : placeErr r p = 0) (ha : allowedB r p m = true) : ref3MoveText r p m = some (moveT r p m) := by
  have hrg := allowed_rng ha
  have h64 := area_len h
  have hbt := onB_cell h (n := m.2.1) hrg.2.1.1 hrg.2.1.2
  unfold ref3MoveText moveT
  rw [show ref3Square r.2.1 m.2.1 = some (sqT r m.2.1) from rsquare_spec hbt, Option.bind_some]
  by_cases hm : m.1 < 0
  · rw [decide_eq_true hm, cond_true, if_pos hm, (at_piece hrg.2.2.1 hrg.2.2.2).1, Option.bind_some]
    have s1 := letter_size r m.2.2.1
    have hl2 : Go.Utf8.encode (pieceI r m.2.2.1).1 = letterT r m.2.2.1 := rfl
    rw [hl2, sroom (by omega) (by show 1 ≤ _; omega), req_true, sroom (by rw [ByteArray.size_append]; show _ + 1 ≤ _; omega) (by show 2 ≤ _; omega), req_true]
    rfl
  · have hbm := onB_cell h (n := m.1) (by omega) hrg.1.2
    rw [decide_eq_false hm, cond_false, if_neg hm, at_cell (by omega) hrg.1.2, Option.bind_some, all_spec r p hr (by omega), if_pos hp0, Option.bind_some, show ref3Square r.2.1 m.1 = some (sqT r m.1) from rsquare_spec hbm, Option.bind_some]
    have b1 : boundsI 0 1 (sqT r m.1).size = true := rfl
    have b2 : boundsI 1 (((sqT r m.1).size : Nat) : Int) (sqT r m.1).size = true := rfl
    rw [b1, b2, req_true, req_true]
    have hlm : (marks (sqT r m.1)).length = 4 := rfl
    have m0 : markAt (sqT r m.1) 0 = e0 := rfl
    have m1 : markAt (sqT r m.1) 1 = colT (m.1.tmod r.width) := rfl
    have m2 : markAt (sqT r m.1) 2 = rowT (m.1.tdiv r.width) := rfl
    have m3 : markAt (sqT r m.1) 3 = sqT r m.1 := rfl
    have n0 : (e0.toList == (sqT r m.1).toList) = false := by rw [bytes_beq, decide_eq_false (one_two (by show 0 ≤ 1; omega) r m.1)]
    have n1 : ((colT (m.1.tmod r.width)).toList == (sqT r m.1).toList) = false := by rw [bytes_beq, decide_eq_false (one_two (by show 1 ≤ 1; omega) r m.1)]
    have n2 : ((rowT (m.1.tdiv r.width)).toList == (sqT r m.1).toList) = false := by rw [bytes_beq, decide_eq_false (one_two (by show 1 ≤ 1; omega) r m.1)]
    have a0 : alone r p m e0 = decide ((rivals r p m).length = 0) := by
      unfold alone
      rw [all_riv (fun n => hitT e0 (sqT r n))]
      simp only [hit_0]
      cases rivals r p m <;> simp
    have hany : ∀ q q' : Int → Bool, (∀ n ∈ rivals r p m, q n = q' n) → (rivals r p m).any q = (rivals r p m).any q' := fun q q' hq => by
      rw [Bool.eq_iff_iff, List.any_eq_true, List.any_eq_true]
      exact ⟨fun ⟨x, hx, e⟩ => ⟨x, hx, by rw [← hq x hx]; exact e⟩, fun ⟨x, hx, e⟩ => ⟨x, hx, by rw [hq x hx]; exact e⟩⟩
    have a1 : alone r p m (colT (m.1.tmod r.width)) = !(rivals r p m).any (sameC r m) := by
      unfold alone
      rw [all_riv (fun n => hitT (colT (m.1.tmod r.width)) (sqT r n)), hany _ (sameC r m) (fun n hn => by
        have := riv_mem hn
        rw [hit_c (onB_cell h this.1 this.2) hbm.c]
        unfold sameC
        rw [Bool.eq_iff_iff]; simp)]
    have a2 : alone r p m (rowT (m.1.tdiv r.width)) = !(rivals r p m).any (sameR r m) := by
      unfold alone
      rw [all_riv (fun n => hitT (rowT (m.1.tdiv r.width)) (sqT r n)), hany _ (sameR r m) (fun n hn => by
        have := riv_mem hn
        rw [hit_r (onB_cell h this.1 this.2) hbm.d]
        unfold sameR
        rw [Bool.eq_iff_iff]; simp)]
    have step : ∀ k : Nat, k < 4 → ref3MoveText_L1 (sqT r m.1) (movesOf r p, (placeErr r p, ())) m p (cellI p m.1) r (sqT r m.2.1) (((k : Int), ()), ()) = bif ((!alone r p m (markAt (sqT r m.1) (k : Int))) && (!((markAt (sqT r m.1) (k : Int)).toList == (sqT r m.1).toList))) then some (.inl ((((k + 1 : Nat) : Int), ()), ())) else some (.inr (.inr (goT r p m (markAt (sqT r m.1) (k : Int))))) := fun k hk => by
      have hsz : (markAt (sqT r m.1) (k : Int)).size ≤ 2 := by
        have : k = 0 ∨ k = 1 ∨ k = 2 ∨ k = 3 := by omega
        rcases this with rfl | rfl | rfl | rfl
        · show 0 ≤ 2; omega
        · show 1 ≤ 2; omega
        · show 1 ≤ 2; omega
        · show 2 ≤ 2; omega
      rw [mt_L1, hlm, decide_eq_true (by omega), cond_true, show inb (k : Int) 4 = true from inb_iff.2 ⟨by omega, by omega⟩, req_true, alone_loop h ha hm, Option.bind_some, fin_spec hL h ha hm _ hsz, w64_id (n := (k : Int) + 1) (by omega) (by omega)]
      simp only
      cases (!alone r p m (markAt (sqT r m.1) (k : Int))) && (!((markAt (sqT r m.1) (k : Int)).toList == (sqT r m.1).toList)) <;> rfl
    have f0 := step 0 (by omega)
    have f1 := step 1 (by omega)
    have f2 := step 2 (by omega)
    have f3 := step 3 (by omega)
    simp only [Int.natCast_zero, show ((1 : Nat) : Int) = 1 from rfl, show ((2 : Nat) : Int) = 2 from rfl, show ((3 : Nat) : Int) = 3 from rfl, m0, m1, m2, m3, n0, n1, n2, a0, a1, a2, Bool.not_false, Bool.and_true, Bool.not_not] at f0 f1 f2 f3
    have n3 : ((sqT r m.1).toList == (sqT r m.1).toList) = true := beq_self_eq_true _
    rw [n3, Bool.not_true, Bool.and_false, cond_false] at f3
    unfold markT
    have main : ∀ v, iterW (ref3MoveText_L1 (sqT r m.1) (movesOf r p, (placeErr r p, ())) m p (cellI p m.1) r (sqT r m.2.1)) (((0 : Int), ()), ()) = some (.inr v) → Option.bind (iterW (ref3MoveText_L1 (sqT r m.1) (movesOf r p, (placeErr r p, ())) m p (cellI p m.1) r (sqT r m.2.1)) (((0 : Int), ()), ())) (Sum.elim (fun _ => some e0) some) = some v := fun v hv => by rw [hv]; rfl
    by_cases c0 : (rivals r p m).length = 0
    · rw [if_pos c0]
      rw [decide_eq_true c0, Bool.not_true, cond_false] at f0
      exact main _ (iterW_inr f0)
    · rw [if_neg c0]
      rw [decide_eq_false c0, Bool.not_false, cond_true] at f0
      by_cases c1 : (rivals r p m).any (sameC r m) = false
      · rw [if_pos c1]
        rw [c1, cond_false] at f1
        exact main _ ((iterW_inl f0).trans (iterW_inr f1))
      · rw [if_neg c1]
        rw [show (rivals r p m).any (sameC r m) = true by simpa using c1, cond_true] at f1
        by_cases c2 : (rivals r p m).any (sameR r m) = false
        · rw [if_pos c2]
          rw [c2, cond_false] at f2
          exact main _ ((iterW_inl f0).trans ((iterW_inl f1).trans (iterW_inr f2)))
        · rw [if_neg c2]
          rw [show (rivals r p m).any (sameR r m) = true by simpa using c2, cond_true] at f2
          exact main _ ((iterW_inl f0).trans ((iterW_inl f1).trans ((iterW_inl f2).trans (iterW_inr f3))))
end Go.Proofs.YteiohidcgimjlaaGreatDoor
namespace Go.Proofs.YteiohidcgimjlaaGreatDoor
open Go.Den
set_option linter.unusedVariables false
set_option linter.unusedSimpArgs false
set_option maxRecDepth 100000

theorem text_spec (r : Rules) (p : Place) (m : Mv) (hL : Letters r) (hr : Rng tyRules r) (hn : p.1.length ≤ 9223372036854775807) : movetextText r p m = some (if placeErr r p = 0 then if allowedB r p m = true then (moveT r p m, (0, ())) else (e0, (13, ())) else (e0, (placeErr r p, ()))) := by
  unfold movetextText
  rw [all_spec r p hr hn, Option.bind_some]
  by_cases c : placeErr r p = 0
  · have hv := valid_of c
    simp only [c, if_true]
    rw [show ((0 : Int) != 0) = false from rfl, cond_false, index_spec _ _ (by have := movesOf_len hv; omega), Option.bind_some]
    by_cases ca : allowedB r p m = true
    · rw [decide_eq_true ((movesOf_mem m).2 ca), Bool.not_true, cond_false, if_pos ca, of_spec hL hv ca]
      rfl
    · rw [decide_eq_false (fun h => ca ((movesOf_mem m).1 h)), Bool.not_false, cond_true, if_neg ca]
      rfl
  · simp only [if_neg c]
    rw [bne_t c, cond_true]
    rfl
theorem tic_begin : placeErr law3Tic (beginOf law3Tic) = 0 := by decide +kernel
theorem tic_drop : allowedB law3Tic (beginOf law3Tic) (law3Drop 4) = true := by decide +kernel
theorem tic_text : moveT law3Tic (beginOf law3Tic) (law3Drop 4) = ByteArray.mk #[83, 64, 98, 50] := by decide +kernel
theorem writes_true : law3Writes = some true := by
  have e1 : placeBegin law3Tic = some (beginOf law3Tic, 0, ()) := by rw [begin_spec _ tic_rng, if_pos tic_ok]
  have e2 := text_spec law3Tic (beginOf law3Tic) (law3Drop 4) (letters_of tic_rng) tic_rng (by decide)
  rw [if_pos tic_begin, if_pos tic_drop, tic_text] at e2
  unfold law3Writes
  simp only [agree_self, rep_eta]
  rw [e1, Option.bind_some]
  simp only [pl_eta]
  rw [e2]
  simp only [Option.bind_some, agree_self]
  simp
end Go.Proofs.YteiohidcgimjlaaGreatDoor
namespace Go.Proofs.YteiohidcgimjlaaGreatDoor
open Go.Den
set_option linter.unusedVariables false
set_option linter.unusedSimpArgs false
set_option maxRecDepth 100000

def bl (a : ByteArray) : List UInt8 := a.data.toList
theorem bl_app (a b : ByteArray) : bl (a ++ b) = bl a ++ bl b := by simp [bl, ByteArray.data_append]
theorem bl_inj {a b : ByteArray} (h : bl a = bl b) : a = b := bytes_inj (by rw [ByteArray.toList_eq, ByteArray.toList_eq]; exact h)
def by8 (n : Int) : UInt8 := UInt8.ofNat n.toNat
theorem by8_inj {a b : Int} (ha : 0 ≤ a ∧ a < 256) (hb : 0 ≤ b ∧ b < 256) (h : by8 a = by8 b) : a = b := by
  have := (u8_inj (by omega) (by omega)).1 h
  omega
structure Lets (r : Rules) : Prop where
  rng : ∀ k : Int, 0 ≤ k → k < ((r.pieces.length : Nat) : Int) → 65 ≤ (pieceI r k).1 ∧ (pieceI r k).1 ≤ 90
  inj : ∀ j k : Int, 0 ≤ j → j < ((r.pieces.length : Nat) : Int) → 0 ≤ k → k < ((r.pieces.length : Nat) : Int) → (pieceI r j).1 = (pieceI r k).1 → j = k
theorem lets_of {r : Rules} (h : ruleErr r = 0) : Lets r := by
  unfold ruleErr at h
  split at h
  · cases h
  split at h
  · cases h
  split at h
  · cases h
  split at h
  · cases h
  split at h
  · rename_i h5; exact absurd h h5
  rename_i h5
  have h5 := firstNZ_zero (Decidable.not_not.1 h5)
  have key : ∀ i (hi : i < r.pieces.length), (65 ≤ (r.pieces[i]).1 ∧ (r.pieces[i]).1 ≤ 90) ∧ ∀ j, (hj : j < i) → ¬ (r.pieces[j]'(by omega)).1 = (r.pieces[i]).1 := fun i hi => by
    have := h5 i hi
    unfold pErr at this
    rw [List.getElem?_eq_getElem hi] at this
    simp only at this
    cases h1 : (decide ((r.pieces[i]).1 < 65) || decide ((r.pieces[i]).1 > 90)) with
    | true => rw [h1, cond_true] at this; cases this
    | false =>
      rw [h1, cond_false] at this
      cases h2 : (r.pieces.take i).any (fun q => q.1 == (r.pieces[i]).1) with
      | true => rw [h2, cond_true] at this; cases this
      | false =>
        rw [Bool.or_eq_false_iff, decide_eq_false_iff_not, decide_eq_false_iff_not] at h1
        refine ⟨by omega, fun j hj e => ?_⟩
        rw [List.any_eq_false] at h2
        refine h2 (r.pieces[j]'(by omega)) ?_ (beq_t e)
        rw [List.mem_take_iff_getElem]
        exact ⟨j, by omega, rfl⟩
  have hp : ∀ k : Int, (h0 : 0 ≤ k) → (h1 : k < ((r.pieces.length : Nat) : Int)) → pieceI r k = r.pieces[k.toNat]'(by omega) := fun k h0 h1 => by
    have hk : k.toNat < r.pieces.length := by omega
    unfold pieceI
    rw [List.getD_eq_getElem?_getD, List.getElem?_eq_getElem hk]
    rfl
  refine ⟨fun k h0 h1 => ?_, fun j k j0 j1 k0 k1 e => ?_⟩
  · rw [hp k h0 h1]
    exact (key _ (by omega)).1
  · rw [hp j j0 j1, hp k k0 k1] at e
    rcases Nat.lt_trichotomy j.toNat k.toNat with c | c | c
    · exact absurd e ((key k.toNat (by omega)).2 _ c)
    · omega
    · exact absurd e.symm ((key j.toNat (by omega)).2 _ c)
theorem bl_letter {r : Rules} (hl : Lets r) {k : Int} (h0 : 0 ≤ k) (h1 : k < ((r.pieces.length : Nat) : Int)) : bl (letterT r k) = [by8 (pieceI r k).1] := by
  have := hl.rng k h0 h1
  unfold letterT
  rw [enc_ascii (by omega) (by omega)]
  rfl
theorem bl_sq (r : Rules) (n : Int) : bl (sqT r n) = [by8 (97 + n.tmod r.width), by8 (49 + n.tdiv r.width)] := rfl
/-- a text of a move of a piece, byte by byte -/
def goB (L : UInt8) (M X S Q : List UInt8) : List UInt8 := L :: (M ++ X ++ S ++ Q)
def xB (p : Place) (m : Mv) : List UInt8 := if cellI p m.2.1 = 0 then [] else [120]
def qB (r : Rules) (p : Place) (m : Mv) : List UInt8 := if m.2.2.1 = kindOf (cellI p m.1) then [] else [61, by8 (pieceI r m.2.2.1).1]
theorem bl_go {r : Rules} {p : Place} {m : Mv} (hl : Lets r) (h : Valid r p) (ha : allowedB r p m = true) (hm : ¬ m.1 < 0) (mark : ByteArray) : bl (goT r p m mark) = goB (by8 (pieceI r (kindOf (cellI p m.1))).1) (bl mark) (xB p m) (bl (sqT r m.2.1)) (qB r p m) := by
  have hrg := allowed_rng ha
  obtain ⟨hc, hc2⟩ := allowed_mine ha hm
  obtain ⟨k1, k2, k3⟩ := kind_rng h hc
  have bx : bl xT = [120] := rfl
  have be : bl eqT = [61] := rfl
  unfold goT goB xB qB
  by_cases c1 : m.2.2.1 = kindOf (cellI p m.1)
  · rw [bne_f c1, cond_false, if_pos c1]
    by_cases c2 : cellI p m.2.1 = 0
    · rw [bne_f c2, cond_false, if_pos c2, bl_app, bl_app, bl_letter hl k2 k3]; simp
    · rw [bne_t c2, cond_true, if_neg c2, bl_app, bl_app, bl_app, bl_letter hl k2 k3, bx]; simp
  · rw [bne_t c1, cond_true, if_neg c1]
    by_cases c2 : cellI p m.2.1 = 0
    · rw [bne_f c2, cond_false, if_pos c2, bl_app, bl_app, bl_app, bl_app, bl_letter hl k2 k3, bl_letter hl hrg.2.2.1 hrg.2.2.2, be]; simp
    · rw [bne_t c2, cond_true, if_neg c2, bl_app, bl_app, bl_app, bl_app, bl_app, bl_letter hl k2 k3, bl_letter hl hrg.2.2.1 hrg.2.2.2, bx, be]; simp
theorem split2 {A : Type} {s t s' t' : List A} (h : s ++ t = s' ++ t') (hl : t.length = t'.length) : s = s' ∧ t = t' := List.append_inj' h hl
theorem getLast_app {A : Type} {s t : List A} {a : A} (h : t.getLast? = some a) : (s ++ t).getLast? = some a := by
  rw [List.getLast?_append, h]; rfl
/-- the bytes of a mark: of a column, of a row, or both -/
def MarkB (M : List UInt8) : Prop := ∀ b ∈ M, ¬ b = 120 ∧ ¬ b = 64
theorem small_ne {n : Int} (h : 0 ≤ n ∧ n < 8) : (¬ by8 (97 + n) = 120 ∧ ¬ by8 (97 + n) = 64) ∧ (¬ by8 (49 + n) = 120 ∧ ¬ by8 (49 + n) = 64) ∧ ¬ by8 (97 + n) = 61 := by
  have : n = 0 ∨ n = 1 ∨ n = 2 ∨ n = 3 ∨ n = 4 ∨ n = 5 ∨ n = 6 ∨ n = 7 := by omega
  rcases this with rfl | rfl | rfl | rfl | rfl | rfl | rfl | rfl <;> decide
theorem markB_of {r : Rules} {p : Place} {m : Mv} (hb : OnB r m.1) : MarkB (bl (markT r p m)) := by
  have hc := small_ne hb.c
  have hd := small_ne hb.d
  unfold markT
  split
  · intro b hb'; cases hb'
  · split
    · intro b hb'
      have : bl (colT (m.1.tmod r.width)) = [by8 (97 + m.1.tmod r.width)] := rfl
      rw [this, List.mem_singleton] at hb'
      subst hb'
      exact hc.1
    · split
      · intro b hb'
        have : bl (rowT (m.1.tdiv r.width)) = [by8 (49 + m.1.tdiv r.width)] := rfl
        rw [this, List.mem_singleton] at hb'
        subst hb'
        exact hd.2.1
      · intro b hb'
        rw [bl_sq] at hb'
        rcases List.mem_cons.1 hb' with rfl | hb'
        · exact hc.1
        · rw [List.mem_singleton] at hb'
          subst hb'
          exact hd.2.1
def qL : Option UInt8 → List UInt8
  | none => []
  | some a => [61, a]
/-- what the bytes of two texts tell -/
theorem goB_inj {L L' : UInt8} {M M' : List UInt8} {x x' : Bool} {c d c' d' : UInt8} {q q' : Option UInt8} (hM : MarkB M) (hM' : MarkB M') (hd : ∀ a, q' = some a → ¬ d = a) (hd' : ∀ a, q = some a → ¬ d' = a) (hc : ¬ c = 61) (hc' : ¬ c' = 61)
    (h : goB L M (if x then [120] else []) [c, d] (qL q) = goB L' M' (if x' then [120] else []) [c', d'] (qL q')) :
    L = L' ∧ M = M' ∧ c = c' ∧ d = d' ∧ q = q' := by
  unfold goB at h
  rw [List.cons.injEq] at h
  obtain ⟨h1, h⟩ := h
  have hx : ∀ {M M' : List UInt8} {x x' : Bool}, MarkB M → MarkB M' → M ++ (if x then [120] else []) = M' ++ (if x' then [120] else []) → M = M' := by
    intro M M' x x' hM hM' e
    cases x <;> cases x'
    · simpa using e
    · exfalso
      simp only [Bool.false_eq_true, if_false, List.append_nil, if_true] at e
      exact (hM 120 (by rw [e]; simp)).1 rfl
    · exfalso
      simp only [Bool.false_eq_true, if_false, List.append_nil, if_true] at e
      exact (hM' 120 (by rw [← e]; simp)).1 rfl
    · exact (split2 e rfl).1
  match q, q', h with
  | none, none, h =>
    simp only [qL, List.append_nil] at h
    obtain ⟨a, b⟩ := split2 h rfl
    simp only [List.cons.injEq, and_true] at b
    exact ⟨h1, hx hM hM' a, b.1, b.2, rfl⟩
  | some a, some a', h =>
    obtain ⟨e1, e2⟩ := split2 h rfl
    obtain ⟨e3, e4⟩ := split2 e1 rfl
    simp only [qL, List.cons.injEq, and_true, true_and] at e2 e4
    exact ⟨h1, hx hM hM' e3, e4.1, e4.2, by rw [e2]⟩
  | none, some a', h =>
    exfalso
    simp only [qL, List.append_nil] at h
    have e : [c, d] = [61, a'] := (split2 h rfl).2
    simp only [List.cons.injEq, and_true] at e
    exact hc e.1
  | some a, none, h =>
    exfalso
    simp only [qL, List.append_nil] at h
    have e : [61, a] = [c', d'] := (split2 h rfl).2
    simp only [List.cons.injEq, and_true] at e
    exact hc' e.1.symm
theorem mv_ext {x y : Mv} (h1 : x.1 = y.1) (h2 : x.2.1 = y.2.1) (h3 : x.2.2.1 = y.2.2.1) : x = y := by
  obtain ⟨a, b, c, ⟨⟩⟩ := x
  obtain ⟨a', b', c', ⟨⟩⟩ := y
  simp only at h1 h2 h3
  subst h1 h2 h3
  rfl
theorem sq_eq {r : Rules} {a b : Int} (ha : OnB r a) (hb : OnB r b) (h : a.tmod r.width = b.tmod r.width) (h' : a.tdiv r.width = b.tdiv r.width) : a = b := by
  have e1 := Int.mul_tdiv_add_tmod a r.width
  have e2 := Int.mul_tdiv_add_tmod b r.width
  rw [h, h'] at e1
  omega
/-- a mark that another move has, too -/
theorem mark_inj {r : Rules} {p : Place} {m n : Mv} (hbm : OnB r m.1) (hbn : OnB r n.1) (hr : n.1 ∈ rivals r p m) (h : markT r p m = markT r p n) : m.1 = n.1 := by
  have hne : ¬ (rivals r p m).length = 0 := fun e => by
    rw [List.length_eq_zero_iff.1 e] at hr
    cases hr
  have c1 : (colT (m.1.tmod r.width)).size = 1 := rfl
  have size1 : ∀ i, (colT i).size = 1 ∧ (rowT i).size = 1 := fun i => ⟨rfl, rfl⟩
  have size2 : ∀ i, (sqT r i).size = 2 := fun _ => rfl
  have size0 : e0.size = 0 := rfl
  unfold markT at h
  rw [if_neg hne] at h
  by_cases a1 : (rivals r p m).any (sameC r m) = false
  · rw [if_pos a1] at h
    have hnc : ¬ n.1.tmod r.width = m.1.tmod r.width := fun e => by
      rw [List.any_eq_false] at a1
      exact a1 _ hr (beq_t e)
    exfalso
    split at h
    · have := congrArg ByteArray.size h; rw [(size1 _).1, size0] at this; cases this
    · split at h
      · exact hnc ((col_inj hbm.c hbn.c).1 h).symm
      · split at h
        · exact col_row hbm.c hbn.d h
        · have := congrArg ByteArray.size h; rw [(size1 _).1, size2] at this; cases this
  · rw [if_neg a1] at h
    by_cases a2 : (rivals r p m).any (sameR r m) = false
    · rw [if_pos a2] at h
      have hnr : ¬ n.1.tdiv r.width = m.1.tdiv r.width := fun e => by
        rw [List.any_eq_false] at a2
        exact a2 _ hr (beq_t e)
      exfalso
      split at h
      · have := congrArg ByteArray.size h; rw [(size1 _).2, size0] at this; cases this
      · split at h
        · exact col_row hbn.c hbm.d h.symm
        · split at h
          · exact hnr ((row_inj hbm.d hbn.d).1 h).symm
          · have := congrArg ByteArray.size h; rw [(size1 _).2, size2] at this; cases this
    · rw [if_neg a2] at h
      split at h
      · have := congrArg ByteArray.size h; rw [size2, size0] at this; cases this
      · split at h
        · have := congrArg ByteArray.size h; rw [size2, (size1 _).1] at this; cases this
        · split at h
          · have := congrArg ByteArray.size h; rw [size2, (size1 _).2] at this; cases this
          · have e := congrArg bl h
            rw [bl_sq, bl_sq] at e
            simp only [List.cons.injEq, and_true] at e
            have hc := hbm.c
            have hd := hbm.d
            have hc' := hbn.c
            have hd' := hbn.d
            have q1 := by8_inj (by omega) (by omega) e.1
            have q2 := by8_inj (by omega) (by omega) e.2
            exact sq_eq hbm hbn (by omega) (by omega)
theorem text_inj {r : Rules} {p : Place} {m n : Mv} (hl : Lets r) (h : Valid r p) (ha : allowedB r p m = true) (hb : allowedB r p n = true) (e : moveT r p m = moveT r p n) : m = n := by
  have hrm := allowed_rng ha
  have hrn := allowed_rng hb
  have tm := onB_cell h (n := m.2.1) hrm.2.1.1 hrm.2.1.2
  have tn := onB_cell h (n := n.2.1) hrn.2.1.1 hrn.2.1.2
  have lm := hl.rng m.2.2.1 hrm.2.2.1 hrm.2.2.2
  have ln := hl.rng n.2.2.1 hrn.2.2.1 hrn.2.2.2
  have bat : bl atT = [64] := rfl
  have tmc := tm.c
  have tmd := tm.d
  have tnc := tn.c
  have tnd := tn.d
  have drop : ∀ x : Mv, allowedB r p x = true → x.1 < 0 → bl (moveT r p x) = [by8 (pieceI r x.2.2.1).1, 64, by8 (97 + x.2.1.tmod r.width), by8 (49 + x.2.1.tdiv r.width)] := fun x hx hx0 => by
    have hrx := allowed_rng hx
    unfold moveT
    rw [if_pos hx0, bl_app, bl_app, bl_letter hl hrx.2.2.1 hrx.2.2.2, bat, bl_sq]
    rfl
  have go : ∀ x : Mv, allowedB r p x = true → ¬ x.1 < 0 → bl (moveT r p x) = goB (by8 (pieceI r (kindOf (cellI p x.1))).1) (bl (markT r p x)) (xB p x) (bl (sqT r x.2.1)) (qB r p x) := fun x hx hx0 => by
    unfold moveT
    rw [if_neg hx0, bl_go hl h hx hx0]
  have mixed : ∀ x y : Mv, allowedB r p x = true → allowedB r p y = true → x.1 < 0 → ¬ y.1 < 0 → ¬ moveT r p x = moveT r p y := fun x y hx hy hx0 hy0 e => by
    have hry := allowed_rng hy
    have ty := onB_cell h (n := y.2.1) hry.2.1.1 hry.2.1.2
    have by' := onB_cell h (n := y.1) (by omega) hry.1.2
    have hM := markB_of (p := p) (m := y) by'
    have hs := small_ne ty.c
    have e := congrArg bl e
    rw [drop x hx hx0, go y hy hy0, bl_sq] at e
    unfold goB xB at e
    rw [List.cons.injEq] at e
    have e := e.2
    cases hb : bl (markT r p y) with
    | nil =>
      rw [hb] at e
      split at e
      · simp only [List.nil_append, List.cons_append, List.cons.injEq] at e
        exact hs.1.2 e.1.symm
      · simp only [List.nil_append, List.cons_append, List.cons.injEq] at e
        exact absurd e.1 (by decide)
    | cons b t =>
      rw [hb] at e
      simp only [List.cons_append, List.cons.injEq] at e
      exact (hM b (by rw [hb]; exact List.mem_cons_self)).2 e.1.symm
  by_cases cm : m.1 < 0
  · by_cases cn : n.1 < 0
    · have e := congrArg bl e
      rw [drop m ha cm, drop n hb cn] at e
      simp only [List.cons.injEq, and_true, true_and] at e
      have q1 := by8_inj (by omega) (by omega) e.1
      have q2 := by8_inj (by omega) (by omega) e.2.1
      have q3 := by8_inj (by omega) (by omega) e.2.2
      exact mv_ext (by omega) (sq_eq tm tn (by omega) (by omega)) (hl.inj _ _ hrm.2.2.1 hrm.2.2.2 hrn.2.2.1 hrn.2.2.2 q1)
    · exact absurd e (mixed m n ha hb cm cn)
  · by_cases cn : n.1 < 0
    · exact absurd e.symm (mixed n m hb ha cn cm)
    · have fm := onB_cell h (n := m.1) (by omega) hrm.1.2
      have fn := onB_cell h (n := n.1) (by omega) hrn.1.2
      obtain ⟨hc, hc2⟩ := allowed_mine ha cm
      obtain ⟨hd, hd2⟩ := allowed_mine hb cn
      obtain ⟨_, k2, k3⟩ := kind_rng h hc
      obtain ⟨_, j2, j3⟩ := kind_rng h hd
      have lk := hl.rng _ k2 k3
      have lj := hl.rng _ j2 j3
      have e := congrArg bl e
      rw [go m ha cm, go n hb cn, bl_sq, bl_sq] at e
      have hxB : ∀ x : Mv, xB p x = if (cellI p x.2.1 != 0) = true then [120] else [] := fun x => by
        unfold xB
        by_cases c : cellI p x.2.1 = 0
        · rw [if_pos c, bne_f c]; rfl
        · rw [if_neg c, bne_t c]; rfl
      have hqB : ∀ x : Mv, qB r p x = qL (if x.2.2.1 = kindOf (cellI p x.1) then none else some (by8 (pieceI r x.2.2.1).1)) := fun x => by
        unfold qB
        by_cases c : x.2.2.1 = kindOf (cellI p x.1)
        · rw [if_pos c, if_pos c]; rfl
        · rw [if_neg c, if_neg c]; rfl
      rw [hxB m, hxB n, hqB m, hqB n] at e
      have lowhigh : ∀ (x y : Mv) (a : UInt8), allowedB r p x = true → 0 ≤ y.2.1.tdiv r.width ∧ y.2.1.tdiv r.width < 8 → (if x.2.2.1 = kindOf (cellI p x.1) then none else some (by8 (pieceI r x.2.2.1).1) : Option UInt8) = some a → ¬ by8 (49 + y.2.1.tdiv r.width) = a := fun x y a hx hy hq hh => by
        have hrx := allowed_rng hx
        have := hl.rng x.2.2.1 hrx.2.2.1 hrx.2.2.2
        split at hq
        · cases hq
        · cases hq
          have := by8_inj (by omega) (by omega) hh
          omega
      obtain ⟨g1, g2, g3, g4, g5⟩ := goB_inj (markB_of (p := p) fm) (markB_of (p := p) fn) (fun a ha' => lowhigh n m a hb tmd ha') (fun a ha' => lowhigh m n a ha tnd ha') (small_ne tmc).2.2 (small_ne tnc).2.2 e
      have kk := hl.inj _ _ k2 k3 j2 j3 (by8_inj (by omega) (by omega) g1)
      have to : m.2.1 = n.2.1 := by
        have q2 := by8_inj (by omega) (by omega) g3
        have q3 := by8_inj (by omega) (by omega) g4
        exact sq_eq tm tn (by omega) (by omega)
      have hcell : cellI p n.1 = cellI p m.1 := by
        have e1 := Int.mul_tdiv_add_tmod (cellI p m.1 - 1) 2
        have e2 := Int.mul_tdiv_add_tmod (cellI p n.1 - 1) 2
        have e3 : (cellI p m.1 - 1).tdiv 2 = (cellI p n.1 - 1).tdiv 2 := kk
        omega
      have from' : m.1 = n.1 := by
        refine Decidable.byContradiction fun hne => hne (mark_inj fm fn ?_ (bl_inj g2))
        unfold rivals
        refine List.mem_map.2 ⟨n, List.mem_filter.2 ⟨(movesOf_mem n).2 hb, ?_⟩, rfl⟩
        unfold riv
        rw [decide_eq_true (by omega), bne_t (fun e => hne e.symm), beq_t to.symm, beq_t hcell]
        rfl
      refine mv_ext from' to ?_
      rw [kk] at g5
      by_cases p1 : m.2.2.1 = kindOf (cellI p n.1)
      · by_cases p2 : n.2.2.1 = kindOf (cellI p n.1)
        · rw [p1, p2]
        · rw [if_pos p1, if_neg p2] at g5; cases g5
      · by_cases p2 : n.2.2.1 = kindOf (cellI p n.1)
        · rw [if_neg p1, if_pos p2] at g5; cases g5
        · rw [if_neg p1, if_neg p2, Option.some.injEq] at g5
          exact hl.inj _ _ hrm.2.2.1 hrm.2.2.2 hrn.2.2.1 hrn.2.2.2 (by8_inj (by omega) (by omega) g5)
end Go.Proofs.YteiohidcgimjlaaGreatDoor
namespace Go.Proofs.YteiohidcgimjlaaGreatDoor
open Go.Den
set_option linter.unusedVariables false
set_option linter.unusedSimpArgs false
set_option maxRecDepth 100000

theorem read_L1 (l : List Mv) (e : Int) (r : Rules) (p : Place) (s : ByteArray) (i : Int) : movetextRead_L1 (l, (e, ())) r p s ((i, ()), ()) = bif (decide (i < ((l.length : Nat) : Int))) then (req (inb i l.length) (Option.bind (movetextOf r p l (getD' l i.toNat d0)) fun t => bif (t.toList == s.toList) then (Option.map Sum.inr (Option.map Sum.inr (bif (decide (i < 0)) then some (d0, (13, ())) else req (inb i l.length) (some (getD' l i.toNat d0, (0, ())))))) else some (Sum.inl ((w64 (i + 1), ()), ()))))
  else some (Sum.inr (Sum.inl ((), ()))) := rfl
/-- the move with a text -/
def readOf (r : Rules) (p : Place) (s : ByteArray) : Mv × Int × Unit := match (movesOf r p).find? (fun m => (moveT r p m).toList == s.toList) with
  | some m => (m, (0, ()))
  | none => (d0, (13, ()))
theorem read_spec (r : Rules) (p : Place) (s : ByteArray) (hL : Letters r) (hr : Rng tyRules r) (hn : p.1.length ≤ 9223372036854775807) : movetextRead r p s = some (if placeErr r p = 0 then readOf r p s else (d0, (placeErr r p, ()))) := by
  unfold movetextRead readOf
  rw [all_spec r p hr hn, Option.bind_some]
  by_cases c : placeErr r p = 0
  · have hv := valid_of c
    have hlen := movesOf_len hv
    simp only [c, if_true]
    rw [show ((0 : Int) != 0) = false from rfl, cond_false]
    have hof : ∀ i (hi : i < (movesOf r p).length), movetextOf r p (movesOf r p) (movesOf r p)[i] = some (moveT r p (movesOf r p)[i]) := fun i hi => of_spec hL hv ((movesOf_mem _).1 (List.getElem_mem hi))
    generalize movesOf r p = l at hlen hof ⊢
    have key : ∀ k i, i + k = l.length → iterW (movetextRead_L1 (l, (0, ())) r p s) (((i : Int), ()), ()) = some (match (l.drop i).find? (fun m => (moveT r p m).toList == s.toList) with
      | some m => .inr (m, (0, ()))
      | none => .inl ((), ())) := by
      intro k
      induction k with
      | zero =>
        intro i hi
        have : i = l.length := by omega
        subst this
        refine iterW_inr ?_
        rw [read_L1, nltd, cond_false, List.drop_length]
        rfl
      | succ k ih =>
        intro i hi
        have hil : i < l.length := by omega
        have hF := read_L1 l 0 r p s (i : Int)
        rw [ltd l i hil, cond_true, inbN l i hil, req_true, req_true] at hF
        simp only [Int.toNat_natCast] at hF
        rw [gd_eq l i hil, hof i hil, Option.bind_some, decide_eq_false (show ¬ (i : Int) < 0 by omega), cond_false, w64_id (n := (i : Int) + 1) (by omega) (by omega)] at hF
        rw [List.drop_eq_getElem_cons hil]
        cases hc : ((moveT r p l[i]).toList == s.toList) with
        | true =>
          rw [hc] at hF
          rw [iterW_inr hF, List.find?_cons, hc]
        | false =>
          rw [hc] at hF
          rw [iterW_inl hF, List.find?_cons, hc]
          exact ih (i + 1) (by omega)
    have k0 := key l.length 0 (by omega)
    rw [List.drop_zero] at k0
    have k0' : iterW (movetextRead_L1 (l, (0, ())) r p s) (((0 : Int), ()), ()) = _ := k0
    rw [k0', Option.bind_some]
    cases l.find? (fun m => (moveT r p m).toList == s.toList) <;> rfl
  · simp only [if_neg c]
    rw [bne_t c, cond_true]
end Go.Proofs.YteiohidcgimjlaaGreatDoor
namespace Go.Proofs.YteiohidcgimjlaaGreatDoor
open Go.Den
set_option linter.unusedVariables false
set_option linter.unusedSimpArgs false
set_option maxRecDepth 100000

theorem step_0 {r : Rules} {s : List Place × List Mv} {m : Mv} (c : stepG r s m = 0) : gameRes r s.1 = 0 ∧ allowedB r (lastP s.1) m = true := by
  unfold stepG at c
  split at c
  · rename_i h1
    split at c
    · rename_i h2; exact ⟨h1, h2⟩
    · cases c
  · cases c
theorem gd_app1 (l l' : List Place) (j : Nat) (hj : j < l.length) : getD' (l ++ l') j dP = getD' l j dP := by simp [getD', List.getElem?_append_left hj]
theorem gd_app2 (l : List Place) (q : Place) : getD' (l ++ [q]) l.length dP = q := by simp [getD']
theorem run_pre {r : Rules} : ∀ (k : List Mv) (s s' : List Place × List Mv), runG r k s = .inl s' → s'.1.length = s.1.length + k.length ∧ ∀ j, j < s.1.length → getD' s'.1 j dP = getD' s.1 j dP
  | [], s, s', e => by cases e; exact ⟨by simp, fun _ _ => rfl⟩
  | m :: k, s, s', e => by
    unfold runG at e
    split at e
    · obtain ⟨a, b⟩ := run_pre k _ _ e
      have hn : (nextG r s m).1 = s.1 ++ [afterOf r (lastP s.1) m] := rfl
      rw [hn] at a b
      refine ⟨by rw [a]; simp; omega, fun j hj => ?_⟩
      rw [b j (by simp; omega), gd_app1 _ _ j hj]
    · cases e
theorem run_step {r : Rules} : ∀ (k : List Mv) (s s' : List Place × List Mv), 0 < s.1.length → runG r k s = .inl s' → ∀ i (hi : i < k.length),
    getD' s'.1 (s.1.length + i) dP = afterOf r (getD' s'.1 (s.1.length + i - 1) dP) k[i] ∧ allowedB r (getD' s'.1 (s.1.length + i - 1) dP) k[i] = true
  | [], s, s', h, e, i, hi => absurd hi (Nat.not_lt_zero _)
  | m :: k, s, s', h, e, i, hi => by
    unfold runG at e
    split at e
    · rename_i c
      have hn : (nextG r s m).1 = s.1 ++ [afterOf r (lastP s.1) m] := rfl
      have hnl : (nextG r s m).1.length = s.1.length + 1 := by rw [hn]; simp
      cases i with
      | zero =>
        obtain ⟨_, b⟩ := run_pre k _ _ e
        rw [hnl, hn] at b
        rw [Nat.add_zero, b _ (by omega), b _ (by omega), gd_app2, gd_app1 _ _ _ (by omega)]
        exact ⟨rfl, (step_0 c).2⟩
      | succ i =>
        have := run_step k _ _ (by omega) e i (by simpa using hi)
        rw [hnl] at this
        rw [show s.1.length + (i + 1) = s.1.length + 1 + i by omega]
        simpa using this
    · cases e
theorem cut_spec (l : List Mv) (h : l.length ≤ 9223372036854775807) : law3Cut l = some (l.take 40) := by
  unfold law3Cut
  by_cases c : 40 < l.length
  · rw [if_pos (by omega)]
    have : boundsI 0 40 l.length = true := by simp [boundsI]; omega
    rw [this, req_true]
    rfl
  · rw [if_neg (by omega)]
    have : boundsI 0 ((l.length : Nat) : Int) l.length = true := by simp [boundsI]
    rw [this, req_true, Int.toNat_natCast, List.drop_zero, List.take_length, List.take_of_length_le (by omega)]
end Go.Proofs.YteiohidcgimjlaaGreatDoor
namespace Go.Proofs.YteiohidcgimjlaaGreatDoor
open Go.Den
set_option linter.unusedVariables false
set_option linter.unusedSimpArgs false
set_option maxRecDepth 100000

theorem bt_ext {a b : ByteArray} (h : a.data.toList = b.data.toList) : a = b := by
  obtain ⟨⟨l⟩⟩ := a
  obtain ⟨⟨k⟩⟩ := b
  simp only at h
  rw [h]
theorem bt_app (a b : ByteArray) : (a ++ b).data.toList = a.data.toList ++ b.data.toList := by simp [ByteArray.data_append]
theorem bt_size (a : ByteArray) : a.size = a.data.toList.length := by
  rw [Array.length_toList]; rfl
theorem bt_cut (s : ByteArray) (a b : Nat) : (s.extract a b).data.toList = (s.data.toList.take b).drop a := by
  rw [ByteArray.data_extract, Array.toList_extract]
  rw [List.extract_eq_take_drop, List.drop_take]
def oneT (c : UInt8) : ByteArray := ByteArray.mk #[c]
/-- texts, joined by a byte -/
def joinB (c : UInt8) (l : List ByteArray) : ByteArray := ⟨(Go.Lib.join (l.map (·.data.toList)) [c]).toArray⟩
theorem joinB_nil (c : UInt8) : joinB c [] = ByteArray.mk #[] := rfl
theorem joinB_one (c : UInt8) (x : ByteArray) : joinB c [x] = x := bt_ext (by
  show Go.Lib.join [x.data.toList] [c] = _
  exact Go.Lib.join_one _ _)
theorem joinB_cons (c : UInt8) (x y : ByteArray) (l : List ByteArray) : joinB c (x :: y :: l) = (x ++ oneT c) ++ joinB c (y :: l) := bt_ext (by
  rw [bt_app, bt_app]
  show Go.Lib.join (x.data.toList :: y.data.toList :: l.map (·.data.toList)) [c] = (x.data.toList ++ [c]) ++ Go.Lib.join (y.data.toList :: l.map (·.data.toList)) [c]
  simp [Go.Lib.join, List.intercalate, List.intersperse])
theorem joinB_snoc (c : UInt8) (x : ByteArray) : ∀ l : List ByteArray, l ≠ [] → joinB c (l ++ [x]) = (joinB c l ++ oneT c) ++ x
  | [], h => absurd rfl h
  | [y], _ => by rw [List.singleton_append, joinB_cons, joinB_one, joinB_one]
  | y :: z :: l, _ => by
    have ih := joinB_snoc c x (z :: l) (by simp)
    rw [List.cons_append, List.cons_append, joinB_cons, ← List.cons_append, ih, joinB_cons]
    refine bt_ext ?_
    simp only [bt_app, List.append_assoc]
theorem joinB_size (c : UInt8) (m : Nat) : ∀ l : List ByteArray, (∀ x ∈ l, x.size ≤ m) → (joinB c l).size ≤ l.length * (m + 1)
  | [], _ => by rw [joinB_nil]; exact Nat.zero_le _
  | [x], h => by rw [joinB_one]; have := h x (by simp); simp; omega
  | x :: y :: l, h => by
    have ih := joinB_size c m (y :: l) (fun z hz => h z (List.mem_cons_of_mem _ hz))
    have := h x (by simp)
    rw [joinB_cons, bt_size, bt_app, bt_app, List.length_append, List.length_append, ← bt_size, ← bt_size]
    have : (oneT c).size = 1 := rfl
    rw [this, ← bt_size]
    simp only [List.length_cons, Nat.add_mul] at ih ⊢
    omega
theorem joinS_spec (c : UInt8) (l : List ByteArray) (h1 : l.length ≤ 140737488355328) (h2 : (joinB c l).size ≤ 140737488355328) : joinS l (ByteArray.mk #[c]) = some (joinB c l) := by
  unfold joinS
  have e : (Go.Lib.join (l.map (·.data.toList)) (ByteArray.mk #[c]).data.toList).length = (joinB c l).size := by rw [bt_size]; rfl
  rw [e, Nat.ble_eq_true_of_le h1, Nat.ble_eq_true_of_le h2]
  rfl
theorem ib_none (c : UInt8) : ∀ l : List UInt8, c ∉ l → Go.Lib.indexByte l c = -1
  | [], _ => rfl
  | b :: l, h => by
    have hb : (b == c) = false := by rw [beq_eq_false_iff_ne]; exact fun e => h (by simp [e])
    unfold Go.Lib.indexByte
    rw [hb, ib_none c l (fun e => h (List.mem_cons_of_mem _ e))]
    rfl
theorem ib_first (c : UInt8) (r : List UInt8) : ∀ l : List UInt8, c ∉ l → Go.Lib.indexByte (l ++ c :: r) c = l.length
  | [], _ => by simp [Go.Lib.indexByte]
  | b :: l, h => by
    have hb : (b == c) = false := by rw [beq_eq_false_iff_ne]; exact fun e => h (by simp [e])
    rw [List.cons_append]
    unfold Go.Lib.indexByte
    rw [hb, ib_first c r l (fun e => h (List.mem_cons_of_mem _ e))]
    have : ((l.length : Int) == -1) = false := by rw [beq_eq_false_iff_ne]; omega
    rw [this, if_neg (by decide), if_neg (by decide), List.length_cons]
    omega
theorem indexB_one (s : ByteArray) (c : UInt8) : Go.Lib.indexB s (oneT c) = Go.Lib.indexByte s.data.toList c := Go.Lib.index_one s.data.toList c
/-- a text is split at the byte that joined it -/
theorem split_join (c : UInt8) : ∀ l : List ByteArray, l ≠ [] → (∀ x ∈ l, c ∉ x.data.toList) → Go.Lib.countB (joinB c l) (oneT c) = l.length - 1 ∧ Go.Lib.splitB (oneT c) 0 (l.length - 1) (joinB c l) = l
  | [], h, _ => absurd rfl h
  | [x], _, h => by
    rw [joinB_one]
    exact ⟨Go.Lib.countB_miss _ _ (by rw [indexB_one]; exact ib_none c _ (h x (by simp))), rfl⟩
  | x :: y :: l, _, h => by
    have ih := split_join c (y :: l) (by simp) (fun z hz => h z (List.mem_cons_of_mem _ hz))
    have hs : (joinB c (x :: y :: l)).data.toList = x.data.toList ++ c :: (joinB c (y :: l)).data.toList := by
      rw [joinB_cons, bt_app, bt_app]
      simp [oneT]
    have hi : Go.Lib.indexB (joinB c (x :: y :: l)) (oneT c) = (x.data.toList.length : Nat) := by
      rw [indexB_one, hs]
      exact ib_first c _ _ (h x (by simp))
    have hrest : (joinB c (x :: y :: l)).extract (x.data.toList.length + (oneT c).size) (joinB c (x :: y :: l)).size = joinB c (y :: l) := bt_ext (by
      rw [bt_cut, List.take_of_length_le (by rw [bt_size]; exact Nat.le_refl _), hs]
      show List.drop (x.data.toList.length + 1) _ = _
      rw [← List.drop_drop, List.drop_left]
      rfl)
    have hfst : (joinB c (x :: y :: l)).extract 0 (x.data.toList.length + 0) = x := bt_ext (by
      rw [bt_cut, hs, Nat.add_zero, List.drop_zero, List.take_left])
    constructor
    · rw [Go.Lib.countB_hit _ (oneT c) _ (show 1 ≤ (oneT c).size from Nat.le_refl 1) hi, hrest, ih.1]
      simp only [List.length_cons]
      omega
    · have hl : (x :: y :: l).length - 1 = ((y :: l).length - 1) + 1 := by simp only [List.length_cons]; omega
      rw [hl, Go.Lib.splitB_hit _ _ _ _ _ hi, hrest, hfst, ih.2]
theorem splitS_join (c : UInt8) (l : List ByteArray) (h0 : l ≠ []) (h1 : (joinB c l).size ≤ 4294967280) (h : ∀ x ∈ l, c ∉ x.data.toList) : splitS (joinB c l) (ByteArray.mk #[c]) = some l := by
  have := split_join c l h0 h
  unfold splitS
  rw [Nat.ble_eq_true_of_le h1]
  show some (Go.Lib.splitB (oneT c) 0 (Go.Lib.countB (joinB c l) (oneT c)) (joinB c l)) = some l
  rw [this.1, this.2]
end Go.Proofs.YteiohidcgimjlaaGreatDoor
namespace Go.Proofs.YteiohidcgimjlaaGreatDoor
open Go.Den
set_option linter.unusedVariables false
set_option linter.unusedSimpArgs false
set_option maxRecDepth 100000

/-! ### the bytes of a move's text -/
theorem by8_ne {n : Int} (h : 49 ≤ n ∧ n ≤ 120) : ¬ by8 n = 32 := fun e => by
  have : n = 32 := by8_inj (by omega) (by omega) (e.trans (by decide : (32 : UInt8) = by8 32))
  omega
theorem sq_no {r : Rules} {n : Int} (hb : OnB r n) : (32 : UInt8) ∉ bl (sqT r n) := by
  rw [bl_sq]
  have hc := hb.c
  have hd := hb.d
  intro h
  rcases List.mem_cons.1 h with e | h
  · exact by8_ne (by omega) e.symm
  · rw [List.mem_singleton] at h
    exact by8_ne (by omega) h.symm
theorem mark_no {r : Rules} {p : Place} {m : Mv} (hb : OnB r m.1) : (32 : UInt8) ∉ bl (markT r p m) := by
  have hc := hb.c
  have hd := hb.d
  unfold markT
  split
  · intro h; cases h
  · split
    · intro h
      have : bl (colT (m.1.tmod r.width)) = [by8 (97 + m.1.tmod r.width)] := rfl
      rw [this, List.mem_singleton] at h
      exact by8_ne (by omega) h.symm
    · split
      · intro h
        have : bl (rowT (m.1.tdiv r.width)) = [by8 (49 + m.1.tdiv r.width)] := rfl
        rw [this, List.mem_singleton] at h
        exact by8_ne (by omega) h.symm
      · exact sq_no hb
theorem move_no {r : Rules} {p : Place} {m : Mv} (hl : Lets r) (h : Valid r p) (ha : allowedB r p m = true) : (32 : UInt8) ∉ (moveT r p m).data.toList := by
  show (32 : UInt8) ∉ bl (moveT r p m)
  have hrg := allowed_rng ha
  have hto := onB_cell h (n := m.2.1) hrg.2.1.1 hrg.2.1.2
  unfold moveT
  split
  · have hq := hl.rng _ hrg.2.2.1 hrg.2.2.2
    rw [bl_app, bl_app, bl_letter hl hrg.2.2.1 hrg.2.2.2]
    intro e
    rcases List.mem_append.1 e with e | e
    · rcases List.mem_append.1 e with e | e
      · rw [List.mem_singleton] at e
        exact by8_ne (by omega) e.symm
      · have : bl atT = [64] := rfl
        rw [this, List.mem_singleton] at e
        exact absurd e (by decide)
    · exact sq_no hto e
  · rename_i hm
    obtain ⟨hc, hc2⟩ := allowed_mine ha hm
    obtain ⟨k1, k2, k3⟩ := kind_rng h hc
    have hq := hl.rng _ k2 k3
    have hq2 := hl.rng _ hrg.2.2.1 hrg.2.2.2
    have hfr := onB_cell h (n := m.1) (by omega) hrg.1.2
    rw [bl_go hl h ha hm]
    unfold goB
    intro e
    rcases List.mem_cons.1 e with e | e
    · exact by8_ne (by omega) e.symm
    · rcases List.mem_append.1 e with e | e
      · rcases List.mem_append.1 e with e | e
        · rcases List.mem_append.1 e with e | e
          · exact mark_no hfr e
          · unfold xB at e
            split at e
            · cases e
            · rw [List.mem_singleton] at e
              exact absurd e (by decide)
        · exact sq_no hto e
      · unfold qB at e
        split at e
        · cases e
        · rcases List.mem_cons.1 e with e | e
          · exact absurd e (by decide)
          · rw [List.mem_singleton] at e
            exact by8_ne (by omega) e.symm
theorem move_size (r : Rules) (p : Place) (m : Mv) : (moveT r p m).size ≤ 20 := by
  have l1 := letter_size r m.2.2.1
  have l2 := letter_size r (kindOf (cellI p m.1))
  have l3 := mark_size r p m
  have l4 := sq_size r m.2.1
  have l5 : atT.size = 1 := rfl
  have l6 : xT.size = 1 := rfl
  have l7 : eqT.size = 1 := rfl
  unfold moveT goT
  split
  · simp only [ByteArray.size_append]; omega
  · cases (m.2.2.1 != kindOf (cellI p m.1)) <;> cases (cellI p m.2.1 != 0) <;> simp only [cond_true, cond_false, ByteArray.size_append] <;> omega
/-! ### the texts of a game -/
def textAt (r : Rules) (L : List Place) (k : List Mv) (i : Nat) : ByteArray := moveT r (getD' L i dP) (getD' k i d0)
def textsOf (r : Rules) (L : List Place) (k : List Mv) : List ByteArray := (List.range k.length).map (textAt r L k)
theorem texts_len (r : Rules) (L : List Place) (k : List Mv) : (textsOf r L k).length = k.length := by simp [textsOf]
theorem texts_take (r : Rules) (L : List Place) (k : List Mv) (i : Nat) (hi : i < k.length) : (textsOf r L k).take (i + 1) = (textsOf r L k).take i ++ [textAt r L k i] := by
  rw [List.take_succ_eq_append_getElem (by rw [texts_len]; exact hi)]
  congr 1
  simp [textsOf]
theorem texts_size (r : Rules) (L : List Place) (k : List Mv) (i : Nat) : (joinB 32 ((textsOf r L k).take i)).size ≤ k.length * 21 := by
  have h := joinB_size 32 20 ((textsOf r L k).take i) (fun x hx => by
    obtain ⟨j, _, rfl⟩ := List.mem_map.1 (List.mem_of_mem_take hx)
    exact move_size _ _ _)
  rw [List.length_take, texts_len] at h
  exact Nat.le_trans h (Nat.mul_le_mul_right _ (Nat.min_le_right _ _))
theorem err_neL {r : Rules} : ∀ (k : List Mv) (s : List Place × List Mv) (e : Int), runG r k s = .inr e → ¬ e = 0 := by
  intro k
  induction k with
  | nil => intro s e h; cases h
  | cons m k ih =>
    intro s e h
    unfold runG at h
    split at h
    · exact ih _ _ h
    · rename_i c; cases h; exact c
/-- what is known of a game that can be played -/
structure Played (r : Rules) (k : List Mv) (L : List Place) : Prop where
  ok : ruleErr r = 0
  len : L.length = k.length + 1
  val : ∀ p ∈ L, Valid r p
  fst : getD' L 0 dP = beginOf r
  nxt : ∀ i (hi : i < k.length), getD' L (i + 1) dP = afterOf r (getD' L i dP) k[i] ∧ allowedB r (getD' L i dP) k[i] = true
theorem played_of {r : Rules} {k : List Mv} {s : List Place × List Mv} (c : ruleErr r = 0) (h : gameOf r k = .inl s) : Played r k s.1 ∧ OKG r s ∧ s.2 = k := by
  obtain ⟨hok, h2⟩ := run_ok k _ _ (begin_okG c) h
  obtain ⟨p1, p2⟩ := run_pre k _ _ h
  have hs := run_step k _ _ (by simp) h
  rw [List.nil_append] at h2
  refine ⟨⟨c, by rw [p1]; simp; omega, hok.all, ?_, fun i hi => ?_⟩, hok, h2⟩
  · rw [p2 0 (by simp)]; rfl
  · have := hs i hi
    simp only [List.length_singleton] at this
    rw [show 1 + i - 1 = i by omega, show 1 + i = i + 1 by omega] at this
    exact this
theorem Played.at {r : Rules} {k : List Mv} {L : List Place} (h : Played r k L) {i : Nat} (hi : i ≤ k.length) : Valid r (getD' L i dP) := by
  have := h.len
  rw [gd_eq L i (by omega)]
  exact h.val _ (List.getElem_mem _)
/-! ### the line of a game -/
theorem mline_spec (r : Rules) (k : List Mv) (hr : Rng tyRules r) (hk : k.length ≤ 40) : movetextLine r k = some (if ruleErr r = 0 then (match gameOf r k with
    | .inl s => (joinB 32 (textsOf r s.1 k), (0, ()))
    | .inr e => (e0, (e, ()))) else (e0, (ruleErr r, ()))) := by
  have hL := letters_of hr
  unfold movetextLine
  rw [run_spec r k hr (by omega), Option.bind_some]
  unfold runRes
  by_cases c : ruleErr r = 0
  · simp only [if_pos c]
    cases hg : gameOf r k with
    | inr e =>
      simp only
      rw [bne_t (err_neL k _ e hg), cond_true]
      rfl
    | inl s =>
      obtain ⟨hp, hok, h2⟩ := played_of c hg
      simp only
      rw [bne_self_eq_false, cond_false, begin_spec r hr, Option.bind_some, if_pos c]
      have hI := iterW_states (f := movetextLine_L1 k r) k.length (fun i => (((textsOf r s.1 k).take i, (i : Int), ()), (flp (getD' s.1 i dP), ()))) ((textsOf r s.1 k, ()), (flp (getD' s.1 k.length dP), ())) (fun i hi => by
        have hv := hp.at (i := i) (by omega)
        have hn := hp.nxt i hi
        have hgd : getD' k i d0 = k[i] := gd_eq k i hi d0
        unfold movetextLine_L1
        simp only [ltd k i hi, cond_true]
        rw [at?_eq k _ (by omega) (by omega), Option.bind_some]
        simp only [Int.toNat_natCast]
        change (Option.bind (movesList r (getD' s.1 i dP)) fun r8 => Option.bind (movetextOf r (getD' s.1 i dP) r8 k[i]) fun r9 => req (room (((textsOf r s.1 k).take i).length + [r9].length) 16) (Option.bind (movesMake r (getD' s.1 i dP) k[i]) fun r10 => some (Sum.inl ((((textsOf r s.1 k).take i) ++ [r9], (w64 ((i : Int) + 1), ())), ((r10.1, (r10.2.1.1, (r10.2.1.2.1, r10.2.2))), ()))))) = _
        rw [list_spec hv, Option.bind_some, of_spec hL hv hn.2, Option.bind_some, room_ok (by rw [List.length_take, texts_len]; simp only [List.length_singleton]; omega), req_true, make_spec hv hn.2, Option.bind_some, w64_id (by omega) (by omega), texts_take r s.1 k i hi]
        unfold textAt
        rw [hgd, hn.1]
        rfl) (by
        unfold movetextLine_L1
        simp only [nltd, cond_false]
        rw [List.take_of_length_le (by rw [texts_len]; exact Nat.le_refl _)]
        try rfl)
      have hI' : iterW (movetextLine_L1 k r) ((([] : List ByteArray), (0 : Int), ()), (((beginOf r).1, ((beginOf r).2.1.1, ((beginOf r).2.1.2.1, (beginOf r).2.2))), ())) = some ((textsOf r s.1 k, ()), (flp (getD' s.1 k.length dP), ())) := by
        have : flp (getD' s.1 0 dP) = ((beginOf r).1, ((beginOf r).2.1.1, ((beginOf r).2.1.2.1, (beginOf r).2.2))) := by rw [hp.fst]; rfl
        rw [← this]
        exact hI
      rw [hI', Option.bind_some]
      have hsz := texts_size r s.1 k k.length
      rw [List.take_of_length_le (by rw [texts_len]; exact Nat.le_refl _)] at hsz
      rw [joinS_spec 32 (textsOf r s.1 k) (by rw [texts_len]; omega) (by omega), Option.bind_some]
  · simp only [if_neg c]
    rw [bne_t c, cond_true]
    rfl
/-! ### the game of a line -/
theorem gmoves_spec {r : Rules} {s : List Place × List Mv} (h : OKG r s) : plainGameMoves (r, (s.1, (s.2, ()))) = some s.2 := by
  have hm := h.most
  have hc : slicesClone_Move s.2 = some s.2 := by
    unfold slicesClone_Move
    cases hs : s.2 with
    | nil =>
      rw [show (([] : List Mv).isEmpty) = true from rfl, cond_true, room_ok (by simp), req_true]
      exact agree_self _
    | cons m l =>
      rw [hs] at hm
      rw [show (m :: l).isEmpty = false from rfl, cond_false, room_ok (by simp at hm ⊢; omega), req_true, List.nil_append]
  unfold plainGameMoves
  simp only [hc, Option.bind_some]
theorem reads_own {r : Rules} {p : Place} {m : Mv} (hl : Lets r) (h : Valid r p) (ha : allowedB r p m = true) : readOf r p (moveT r p m) = (m, (0, ())) := by
  unfold readOf
  have : (movesOf r p).find? (fun x => (moveT r p x).toList == (moveT r p m).toList) = some m := by
    have hmem := (movesOf_mem m).2 ha
    cases hf : (movesOf r p).find? (fun x => (moveT r p x).toList == (moveT r p m).toList) with
    | none =>
      have := List.find?_eq_none.1 hf m hmem
      simp at this
    | some x =>
      have h1 := List.find?_some hf
      have h2 := (movesOf_mem x).1 (List.mem_of_find?_eq_some hf)
      simp only [bytes_beq, decide_eq_true_eq] at h1
      rw [text_inj hl h h2 ha h1]
  rw [this]
theorem read_loop {r : Rules} {k : List Mv} {L : List Place} (hr : Rng tyRules r) (hp : Played r k L) (hk : k.length ≤ 40) (hsr : ∀ T : List ByteArray, T = textsOf r L k → T.length = k.length) : ∀ (n i : Nat) (s s' : List Place × List Mv), i + n = k.length → OKG r s → s.1.length = i + 1 → runG r (k.drop i) s = .inl s' → s'.1 = L →
    iterW (movetextReadLine_L2 (textsOf r L k) r) (((i : Int), ()), (flG (gm r s), ())) = some (.inl ((), (flG (gm r s'), ())))
  | 0, i, s, s', hi, h, hl, hg, hL => by
    have : i = k.length := by omega
    subst this
    rw [List.drop_length] at hg
    have : s = s' := Sum.inl.inj hg
    subst this
    refine iterW_inr ?_
    unfold movetextReadLine_L2
    simp only
    rw [decide_eq_false (by rw [texts_len]; omega), cond_false]
  | n + 1, i, s, s', hi, h, hl, hg, hL => by
    have hik : i < k.length := by omega
    have hm := h.most
    have hlL := hp.len
    rw [List.drop_eq_getElem_cons hik] at hg
    unfold runG at hg
    split at hg
    case isFalse => cases hg
    rename_i c
    obtain ⟨c1, c2⟩ := step_0 c
    have hn := next_ok h c
    have hlast : lastP s.1 = getD' L i dP := by
      obtain ⟨_, b⟩ := run_pre _ _ _ hg
      have hnl : (nextG r s k[i]).1 = s.1 ++ [afterOf r (lastP s.1) k[i]] := rfl
      have := b i (by rw [hnl, List.length_append]; omega)
      rw [hL, hnl, gd_app1 _ _ _ (by omega)] at this
      rw [this]
      unfold lastP
      rw [hl]
      rfl
    have hv := h.last
    have htx : (textsOf r L k)[i]'(by rw [texts_len]; exact hik) = moveT r (lastP s.1) k[i] := by
      simp only [textsOf, List.getElem_map, List.getElem_range, textAt]
      rw [hlast, gd_eq k i hik]
    have hF : movetextReadLine_L2 (textsOf r L k) r (((i : Int), ()), (flG (gm r s), ())) = some (.inl ((((i + 1 : Nat) : Int), ()), (flG (gm r (nextG r s k[i])), ()))) := by
      unfold movetextReadLine_L2
      simp only [agree_self]
      rw [decide_eq_true (show (i : Int) < (((textsOf r L k).length : Nat) : Int) by rw [texts_len]; omega), cond_true, at?_eq _ _ (by omega) (by rw [texts_len]; omega), Option.bind_some]
      simp only [Int.toNat_natCast]
      rw [htx]
      change (Option.bind (plainGameResult (r, (s.1, (s.2, ())))) fun r17 => bif (r17 != 0) then some (Sum.inr (Sum.inr (([] : List Mv), ((14 : Int), ())))) else Option.bind (Option.bind (plainGamePosition (r, (s.1, (s.2, ())))) fun r18 => Option.bind (movetextRead r (r18.1, ((r18.2.1.1, (r18.2.1.2.1, ())), r18.2.2)) (moveT r (lastP s.1) k[i])) fun r19 => some ((r19.1, (r19.2.1, ())), ())) fun x22 => bif (x22.1.2.1 != 0) then some (Sum.inr (Sum.inr (([] : List Mv), (x22.1.2.1, ())))) else Option.bind (plainGamePlay (r, (s.1, (s.2, ()))) x22.1.1) fun r23 => bif (r23.2 != 0) then some (Sum.inr (Sum.inr (([] : List Mv), (r23.2, ())))) else some (Sum.inl (((w64 ((i : Int) + 1), ()), (flG r23.1, ()))))) = _
      rw [gresult_spec h, Option.bind_some, c1, bne_self_eq_false, cond_false, gposition_spec h, Option.bind_some]
      simp only [pl_eta]
      have hpe := valid_ok hp.ok hv
      rw [read_spec r (lastP s.1) _ (letters_of hr) hr (by have := hv.cells; have h2 := hv.r0.area; have h3 : (((lastP s.1).1.length : Nat) : Int) = r.width * r.height := this; omega), if_pos hpe, reads_own (lets_of hp.ok) hv c2, Option.bind_some, Option.bind_some]
      simp only
      rw [bne_self_eq_false, cond_false, play_spec h, if_pos c, Option.bind_some]
      simp only
      rw [bne_self_eq_false, cond_false, w64_id (by omega) (by omega)]
      rfl
    rw [iterW_inl hF]
    exact read_loop hr hp hk hsr n (i + 1) (nextG r s k[i]) s' (by omega) hn (by show (s.1 ++ [_]).length = _; simp; omega) hg hL
theorem readLine_spec {r : Rules} {k : List Mv} {s : List Place × List Mv} (hr : Rng tyRules r) (hk : k.length ≤ 40) (c : ruleErr r = 0) (hg : gameOf r k = .inl s) : movetextReadLine r (joinB 32 (textsOf r s.1 k)) = some (k, (0, ())) := by
  obtain ⟨hp, hok, h2⟩ := played_of c hg
  have hsz := texts_size r s.1 k k.length
  rw [List.take_of_length_le (by rw [texts_len]; exact Nat.le_refl _)] at hsz
  unfold movetextReadLine
  rw [begin_spec r hr, Option.bind_some]
  simp only [if_pos c]
  rw [show ((0 : Int) != 0) = false from rfl, cond_false]
  simp only [agree_self]
  rw [rcopy_spec (rules_valid c), Option.bind_some, Option.bind_some]
  simp only
  rw [bne_self_eq_false, cond_false, decide_eq_false (show ¬ ((((joinB 32 (textsOf r s.1 k)).size : Nat) : Int) > 8192) by omega), cond_false, bytes_beq]
  by_cases h0 : k = []
  · subst h0
    rw [show textsOf r s.1 [] = [] from rfl, joinB_nil, decide_eq_true rfl, cond_true]
  · have hT0 : textsOf r s.1 k ≠ [] := fun e => h0 (List.eq_nil_of_length_eq_zero (by rw [← texts_len r s.1 k, e]; rfl))
    by_cases he : joinB 32 (textsOf r s.1 k) = ByteArray.mk #[]
    · exfalso
      have hpos : 0 < k.length := List.length_pos_iff.2 h0
      have hT : ∀ l : List ByteArray, l ≠ [] → (∀ x ∈ l, 0 < x.size) → 0 < (joinB 32 l).size := by
        intro l hl hx
        cases l with
        | nil => exact absurd rfl hl
        | cons x l =>
          have := hx x (by simp)
          cases l with
          | nil => rw [joinB_one]; exact this
          | cons y l => rw [joinB_cons, ByteArray.size_append, ByteArray.size_append]; omega
      have := hT _ hT0 (fun x hx => by
        obtain ⟨j, _, rfl⟩ := List.mem_map.1 hx
        unfold textAt moveT goT
        have := sq_size r (getD' k j d0).2.1
        split
        · simp only [ByteArray.size_append]; omega
        · cases ((getD' k j d0).2.2.1 != kindOf (cellI (getD' s.1 j dP) (getD' k j d0).1)) <;> cases (cellI (getD' s.1 j dP) (getD' k j d0).2.1 != 0) <;> simp only [cond_true, cond_false, ByteArray.size_append] <;> omega)
      rw [he] at this
      exact absurd this (by decide)
    · rw [decide_eq_false he, cond_false, splitS_join 32 _ hT0 (by omega) (fun x hx => by
        obtain ⟨j, hj, rfl⟩ := List.mem_map.1 hx
        have hj' : j < k.length := by simpa using hj
        unfold textAt
        rw [gd_eq k j hj']
        exact move_no (lets_of c) (hp.at (by omega)) (hp.nxt j hj').2), Option.bind_some]
      have hI := read_loop hr hp hk (fun T hT => by rw [hT, texts_len]) k.length 0 ([beginOf r], []) s (by omega) (begin_okG c) rfl (by rw [List.drop_zero]; exact hg) rfl
      have hI' : iterW (movetextReadLine_L2 (textsOf r s.1 k) r) (((0 : Int), ()), ((r.1, (r.2.1, (r.2.2.1, (r.2.2.2.1, (r.2.2.2.2.1, (r.2.2.2.2.2.1, (r.2.2.2.2.2.2.1, (r.2.2.2.2.2.2.2.1, (r.2.2.2.2.2.2.2.2.1, (r.2.2.2.2.2.2.2.2.2.1, (r.2.2.2.2.2.2.2.2.2.2.1, ([((beginOf r).1, (((beginOf r).2.1.1, ((beginOf r).2.1.2.1, ())), (beginOf r).2.2))], (([] : List Mv), ()))))))))))))), ())) = _ := hI
      rw [hI', Option.bind_some, Sum.elim_inl]
      change Option.bind (plainGameMoves (r, (s.1, (s.2, ())))) (fun r25 => some (r25, ((0 : Int), ()))) = _
      rw [gmoves_spec hok, Option.bind_some, h2]
/-! ### the law -/
theorem eqMvL (m : Mv) : ((m.1 == m.1 && (m.2.1 == m.2.1 && m.2.2.1 == m.2.2.1)) : Bool) = true := by simp
theorem want_loop {r : Rules} {k : List Mv} {L : List Place} (hr : Rng tyRules r) (hp : Played r k L) (hk : k.length ≤ 40) : iterW (law3MovetextLines_L1 k (L, ((0 : Int), ())) r) (((ByteArray.mk #[]), (0 : Int), ()), ()) = some ((joinB 32 (textsOf r L k), ()), ()) := by
  have hL := letters_of hr
  have hlen := hp.len
  have hI := iterW_states (f := law3MovetextLines_L1 k (L, ((0 : Int), ())) r) k.length (fun i => ((joinB 32 ((textsOf r L k).take i), (i : Int), ()), ())) ((joinB 32 (textsOf r L k), ()), ()) (fun i hi => by
    have hv := hp.at (i := i) (by omega)
    have hn := hp.nxt i hi
    have hgd : getD' k i d0 = k[i] := gd_eq k i hi d0
    have hsz := texts_size r L k i
    have hms := move_size r (getD' L i dP) k[i]
    unfold law3MovetextLines_L1
    simp only [ltd k i hi, cond_true]
    rw [at?_eq k _ (by omega) (by omega), Option.bind_some]
    simp only [Int.toNat_natCast]
    have hpe := valid_ok hp.ok hv
    have hrt : ref3MoveText r (getD' L i ((([] : List Int), ((([] : List Int), (([] : List Int), ())), ((0 : Int), ((0 : Int), ())))))) k[i] = some (moveT r (getD' L i dP) k[i]) := rtext_spec hL hr hv hpe hn.2
    rw [show inb (i : Int) L.length = true from inb_iff.2 ⟨by omega, by omega⟩]
    rw [texts_take r L k i hi]
    by_cases h0 : i = 0
    · subst h0
      rw [decide_eq_false (by omega), cond_false, Option.bind_some, req_true, hrt, Option.bind_some, List.take_zero, joinB_nil, List.nil_append, joinB_one, sroom (by show 0 ≤ _; omega) (by omega), req_true, w64_id (by omega) (by omega)]
      unfold textAt
      rw [hgd]
      rfl
    · have hne : (textsOf r L k).take i ≠ [] := fun e => by
        have := congrArg List.length e
        rw [List.length_take, texts_len] at this
        have h9 : min i k.length = 0 := this
        omega
      have h32 : (ByteArray.mk #[32]).size = 1 := rfl
      rw [decide_eq_true (show ((i : Int) > 0) by omega), cond_true, sroom (show (joinB 32 ((textsOf r L k).take i)).size ≤ 1000000 by omega) (show (ByteArray.mk #[32]).size ≤ 1000000 by rw [h32]; omega), req_true, Option.bind_some, req_true, hrt, Option.bind_some]
      simp only
      rw [sroom (show (joinB 32 ((textsOf r L k).take i) ++ ByteArray.mk #[32]).size ≤ 1000000 by rw [ByteArray.size_append, h32]; omega) (show (moveT r (getD' L i dP) k[i]).size ≤ 1000000 by omega), req_true, w64_id (by omega) (by omega), joinB_snoc _ _ _ hne]
      unfold textAt
      rw [hgd]
      rfl) (by
    unfold law3MovetextLines_L1
    simp only [nltd, cond_false]
    rw [List.take_of_length_le (by rw [texts_len]; exact Nat.le_refl _)])
  exact hI
theorem at_natL {A : Type} (l : List A) (i : Nat) (hi : i < l.length) : at? l (i : Int) = some l[i] := by
  rw [at?_eq l _ (by omega) (by omega)]
  simp
theorem sameLineL (a : List Mv) (ha : a.length ≤ 1000000000) : ref3SameLine a a = some true := by
  unfold ref3SameLine
  rw [bne_self_eq_false, cond_false]
  have hL := iterW_any a (fun _ => false) (ref3SameLine_L1 a a) (.inr false) (.inl ((), ())) (fun i hi => by
    unfold ref3SameLine_L1
    simp only [show decide ((i : Int) < ((a.length : Nat) : Int)) = true by simp; omega, cond_true]
    rw [at_natL a i hi, Option.bind_some, Option.bind_some, w64_id (n := (i : Int) + 1) (by omega) (by omega)]
    simp) (by unfold ref3SameLine_L1; simp)
  rw [hL, show a.any (fun _ => false) = false from List.any_eq_false.2 (fun _ _ h => by cases h)]
  rfl
theorem law3MovetextLines_true (r : Rules) (l : List Mv) (hr : Rng tyRules r) (hl : Rng (.sl (.st (.int .i64) (.st (.int .i64) (.st (.int .i64) .nil)))) l) : law3MovetextLines r l = some true := by
  have hlen : l.length ≤ 9223372036854775807 := hl.1
  unfold law3MovetextLines
  rw [writes_true, Option.bind_some, Bool.not_true, cond_false, cut_spec l hlen, Option.bind_some]
  have hk : (l.take 40).length ≤ 40 := by rw [List.length_take]; omega
  generalize l.take 40 = k at hk ⊢
  cases law3Great r with
  | true => rfl
  | false =>
    rw [cond_false, mline_spec r k hr hk, Option.bind_some, places_spec r k hr (by omega), Option.bind_some]
    unfold placesRes
    by_cases c : ruleErr r = 0
    · simp only [if_pos c]
      cases hg : gameOf r k with
      | inr e =>
        simp only
        rw [bne_t (err_neL k _ e hg), cond_true]
        simp [e0]
      | inl s =>
        obtain ⟨hp, hok, h2⟩ := played_of c hg
        simp only
        rw [bne_self_eq_false, cond_false, want_loop hr hp hk, Option.bind_some, readLine_spec hr hk c hg, Option.bind_some]
        simp [gopt, sameLineL k (by omega)]
    · simp only [if_neg c]
      rw [bne_t c, cond_true]
      simp [e0]
end Go.Proofs.YteiohidcgimjlaaGreatDoor
