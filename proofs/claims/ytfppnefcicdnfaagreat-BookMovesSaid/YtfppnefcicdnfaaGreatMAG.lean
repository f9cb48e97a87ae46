/- Several texts in one: The reference's moves; they are the program's. No condition of its own.; Results: what the program and the reference say of how a game stands. No condition of its own.; Results: the conditions, and what comes of them. No condition of its own.; The position after a move, as the program and the reference compute it. No condition of its own.; Comparisons, beginnings, and what the exported functions of moves give. No condition of its own.; Games by the rules, in plain Lean: what Play, Run and Repeats compute. No condition of its own.; What the exported functions of moves give. No condition of its own.; Games: what claims and the reference compute; three in a row. No condition of its own.; Books of openings: their order, their check, the search by halves, an entry in its place. No condition of its own.; Books of openings: an entry is added. No condition of its own.; Games, step by step. No condition of its own.; Keys of positions, as the program and the reference compute them. No condition of its own.; Books of openings: the first moves of a game are added. No condition of its own.; Books of openings: what they say of games and positions. No condition of its own.; Proved: the law of what books say. No condition of its own. -/
import Derived.Test.YtfppnefcicdnfaaGreatMAF
namespace Go.Proofs.YtfppnefcicdnfaaGreat
open Go.Den
set_option linter.unusedVariables false
set_option linter.unusedSimpArgs false
set_option maxRecDepth 100000

theorem iter_appO {A R : Type} (n B : Nat) (c : Int) (f : (((List A) × Int × Unit) × Unit) → Option ((((List A) × Int × Unit) × Unit) ⊕ R)) (F : Nat → List A) (fin : List A → R) (a0 : List A) (hF : ∀ i, i < n → (F i).length ≤ B)
    (hs : ∀ i, i < n → ∀ a : List A, a.length ≤ a0.length + i * B → f ((a, c + (i : Int), ()), ()) = some (.inl ((a ++ F i, c + (i : Int) + 1, ()), ()))) (he : ∀ a, f ((a, c + (n : Int), ()), ()) = some (.inr (fin a))) :
    iterW f ((a0, c, ()), ()) = some (fin (a0 ++ (List.range n).flatMap F)) := by
  have hl : ∀ i, i ≤ n → (a0 ++ (List.range i).flatMap F).length ≤ a0.length + i * B := fun i hi => by
    have := flatMap_len F B (List.range i) (fun x hx => hF x (by rw [List.mem_range] at hx; omega))
    rw [List.length_range] at this
    rw [List.length_append]
    omega
  have := iterW_states (f := f) n (fun i => ((a0 ++ (List.range i).flatMap F, c + (i : Int), ()), ())) (fin (a0 ++ (List.range n).flatMap F)) (fun i hi => by
    rw [hs i hi _ (hl i (by omega)), List.range_succ, List.flatMap_append, ← List.append_assoc]
    simp [Int.add_assoc]) (he _)
  simpa using this

def mvOk (r : Rules) (p : Place) (m : Mv) : Bool := decide ((-1 ≤ m.1 ∧ m.1 < ((p.1.length : Nat) : Int)) ∧ (0 ≤ m.2.1 ∧ m.2.1 < ((p.1.length : Nat) : Int)) ∧ (0 ≤ m.2.2.1 ∧ m.2.2.1 < ((r.pieces.length : Nat) : Int)))
def goOk (r : Rules) (p : Place) (m : Mv) : Bool := mineB p (cellI p m.1) && ((becomes r p (kindOf (cellI p m.1)) m.2.1 == m.2.2.1) && (pieceI r (kindOf (cellI p m.1))).2.2.2.1.any (fun w => decide (m.2.1 ∈ wayS r p m.1 w)))
def allowedB (r : Rules) (p : Place) (m : Mv) : Bool := mvOk r p m && (bif m.1 == -1 then decide (handI p m.2.2.1 > 0) && putOk r p m.2.1 else goOk r p m)
def colFrom (p : Place) (W x0 : Int) : Nat → Nat → Bool
  | _, 0 => true
  | i, n + 1 => (cellI p (x0 + (i : Int) * W) != 0) && colFrom p W x0 (i + 1) n
theorem colFrom_any (p : Place) (W x0 : Int) : ∀ n i, colFrom p W x0 i n = !((List.range n).any fun j => cellI p (x0 + ((i + j : Nat) : Int) * W) == 0)
  | 0, i => rfl
  | n + 1, i => by
    rw [colFrom, colFrom_any p W x0 n (i + 1), List.range_succ_eq_map, List.any_cons, List.any_map, Bool.not_or]
    have e : ((fun j => cellI p (x0 + ((i + j : Nat) : Int) * W) == 0) ∘ Nat.succ) = fun j => cellI p (x0 + ((i + 1 + j : Nat) : Int) * W) == 0 := by
      funext j
      simp only [Function.comp]
      rw [show i + j.succ = i + 1 + j by omega]
    rw [e]
    rfl
theorem colFrom_colF (p : Place) (W x0 : Int) (y : Nat) : colFrom p W x0 0 y = colF p W x0 y := by
  rw [colFrom_any, colF_any]
  simp
def at3 (r : Rules) (p : Place) (i j k : Nat) : List Mv := bif allowedB r p ((i : Int) - 1, ((j : Int), ((k : Int), ()))) then [((i : Int) - 1, ((j : Int), ((k : Int), ())))] else []
def at2 (r : Rules) (p : Place) (i j : Nat) : List Mv := (List.range r.2.2.2.1.length).flatMap (at3 r p i j)
def at1 (r : Rules) (p : Place) (i : Nat) : List Mv := (List.range p.1.length).flatMap (at2 r p i)
/-- the moves of a valid position -/
def movesOf (r : Rules) (p : Place) : List Mv := (List.range (p.1.length + 1)).flatMap (at1 r p)
theorem at3_len (r : Rules) (p : Place) (i j k : Nat) : (at3 r p i j k).length ≤ 1 := by unfold at3; cases allowedB r p ((i : Int) - 1, ((j : Int), ((k : Int), ()))) <;> simp
theorem at2_len {r : Rules} {p : Place} (h : Valid r p) (i j : Nat) : (at2 r p i j).length ≤ 6 := Nat.le_trans (fm_len1 _ _ (at3_len r p i j)) h.r0.t6
theorem at1_len {r : Rules} {p : Place} (h : Valid r p) (i : Nat) : (at1 r p i).length ≤ 384 := by
  refine Nat.le_trans (flatMap_len _ 6 _ fun j _ => at2_len h i j) ?_
  have := area_len h
  rw [List.length_range]; omega
theorem pw_range (n : Nat) (F : Nat → List Mv) (h1 : ∀ i, i < n → (F i).Pairwise (fun x y => mvLt x y = true)) (h2 : ∀ i j, i < j → ∀ x ∈ F i, ∀ y ∈ F j, mvLt x y = true) : ((List.range n).flatMap F).Pairwise (fun x y => mvLt x y = true) := by
  rw [List.pairwise_flatMap]
  exact ⟨fun i hi => h1 i (List.mem_range.1 hi), List.pairwise_lt_range.imp fun hij => h2 _ _ hij⟩
theorem at3_mem {r : Rules} {p : Place} {i j k : Nat} {x : Mv} (h : x ∈ at3 r p i j k) : x = ((i : Int) - 1, ((j : Int), ((k : Int), ()))) ∧ allowedB r p x = true := by
  unfold at3 at h
  cases hb : allowedB r p ((i : Int) - 1, ((j : Int), ((k : Int), ()))) with
  | false => simp [hb] at h
  | true =>
    rw [hb, cond_true, List.mem_singleton] at h
    rw [h]; exact ⟨rfl, hb⟩
theorem at2_mem {r : Rules} {p : Place} {i j : Nat} {x : Mv} (h : x ∈ at2 r p i j) : x.1 = (i : Int) - 1 ∧ x.2.1 = (j : Int) ∧ allowedB r p x = true := by
  obtain ⟨k, _, hk⟩ := List.mem_flatMap.1 h
  obtain ⟨e, h2⟩ := at3_mem hk
  refine ⟨by rw [e], by rw [e], h2⟩
theorem at1_mem {r : Rules} {p : Place} {i : Nat} {x : Mv} (h : x ∈ at1 r p i) : x.1 = (i : Int) - 1 ∧ allowedB r p x = true := by
  obtain ⟨j, _, hj⟩ := List.mem_flatMap.1 h
  obtain ⟨h1, _, h3⟩ := at2_mem hj
  exact ⟨h1, h3⟩
theorem movesOf_mem {r : Rules} {p : Place} (x : Mv) : x ∈ movesOf r p ↔ allowedB r p x = true := by
  constructor
  · intro h
    obtain ⟨i, _, hi⟩ := List.mem_flatMap.1 h
    exact (at1_mem hi).2
  · intro h
    have hok : mvOk r p x = true := by unfold allowedB at h; simp only [Bool.and_eq_true] at h; exact h.1
    unfold mvOk at hok
    rw [decide_eq_true_eq] at hok
    obtain ⟨⟨a1, a2⟩, ⟨b1, b2⟩, c1, c2⟩ := hok
    have c2' : x.2.2.1 < ((r.2.2.2.1.length : Nat) : Int) := c2
    have e : (((((x.1 + 1).toNat : Nat) : Int) - 1, (((x.2.1.toNat : Nat) : Int), (((x.2.2.1.toNat : Nat) : Int), ()))) : Mv) = x := mv_eq (by show (((x.1 + 1).toNat : Nat) : Int) - 1 = x.1; omega) (by show ((x.2.1.toNat : Nat) : Int) = x.2.1; omega) (by show ((x.2.2.1.toNat : Nat) : Int) = x.2.2.1; omega)
    refine List.mem_flatMap.2 ⟨(x.1 + 1).toNat, List.mem_range.2 (by omega), List.mem_flatMap.2 ⟨x.2.1.toNat, List.mem_range.2 (by omega), List.mem_flatMap.2 ⟨x.2.2.1.toNat, List.mem_range.2 (by omega), ?_⟩⟩⟩
    unfold at3
    rw [e, h, cond_true, List.mem_singleton]
theorem movesOf_lt (r : Rules) (p : Place) : (movesOf r p).Pairwise (fun x y => mvLt x y = true) := by
  refine pw_range _ _ (fun i _ => pw_range _ _ (fun j _ => pw_range _ _ (fun k _ => ?_) fun k k' hk x hx y hy => ?_) fun j j' hj x hx y hy => ?_) fun i i' hi x hx y hy => ?_
  · unfold at3
    cases allowedB r p ((i : Int) - 1, ((j : Int), ((k : Int), ()))) <;> simp
  · obtain ⟨ex, _⟩ := at3_mem hx
    obtain ⟨ey, _⟩ := at3_mem hy
    have e1 : x.1 = (i : Int) - 1 := by rw [ex]
    have e2 : x.2.1 = (j : Int) := by rw [ex]
    have e3 : x.2.2.1 = (k : Int) := by rw [ex]
    have f1 : y.1 = (i : Int) - 1 := by rw [ey]
    have f2 : y.2.1 = (j : Int) := by rw [ey]
    have f3 : y.2.2.1 = (k' : Int) := by rw [ey]
    rw [lt_iff]; omega
  · obtain ⟨e1, e2, _⟩ := at2_mem hx
    obtain ⟨f1, f2, _⟩ := at2_mem hy
    rw [lt_iff]; omega
  · obtain ⟨e1, _⟩ := at1_mem hx
    obtain ⟨f1, _⟩ := at1_mem hy
    rw [lt_iff]; omega
theorem raw_mem {r : Rules} {p : Place} (h : Valid r p) (x : Mv) : x ∈ movesRaw r p ↔ allowedB r p x = true := by
  have hr := h.r0
  have hlen : ((p.1.length : Nat) : Int) = r.width * r.height := h.cells
  have hh := hand_len h
  unfold movesRaw
  rw [List.mem_append]
  constructor
  · rintro (hx | hx)
    · obtain ⟨s, hs, hx⟩ := List.mem_flatMap.1 hx
      rw [List.mem_range] at hs
      unfold putsAt at hx
      cases hp : putOk r p (s : Int) with
      | false => simp [hp] at hx
      | true =>
        rw [hp, cond_true] at hx
        obtain ⟨k, hk, hx⟩ := List.mem_flatMap.1 hx
        rw [List.mem_range] at hk
        cases hd : decide (handI p (k : Int) > 0) with
        | false => simp [hd] at hx
        | true =>
          rw [hd, cond_true, List.mem_singleton] at hx
          have hok : mvOk r p x = true := by
            unfold mvOk
            rw [decide_eq_true_eq, hx]
            simp only
            omega
          unfold allowedB
          rw [hok, Bool.true_and, hx]
          simp only [beq_t rfl, cond_true, hd, hp, Bool.and_self]
    · obtain ⟨s, hs, hx⟩ := List.mem_flatMap.1 hx
      rw [List.mem_range] at hs
      unfold goAt at hx
      cases hm : mineB p (cellI p (s : Int)) with
      | false => simp [hm] at hx
      | true =>
        have hcp : cellI p (s : Int) > 0 := by unfold mineB at hm; simp at hm; exact hm.1
        have hk := kind_rng h hcp
        obtain ⟨hpa, hmem⟩ := at_piece (r := r) hk.2.1 hk.2.2
        rw [hm, cond_true] at hx
        obtain ⟨w, hw, hx⟩ := List.mem_flatMap.1 hx
        obtain ⟨t, ht, hx⟩ := List.mem_map.1 hx
        have htr : 0 ≤ t ∧ t < r.width * r.height := way_mem_rng hr ht
        have hpr := hr.prom _ hmem
        have hbr : 0 ≤ becomes r p (kindOf (cellI p (s : Int))) t ∧ becomes r p (kindOf (cellI p (s : Int))) t < ((r.pieces.length : Nat) : Int) := by
          unfold becomes
          cases hb : (decide ((pieceI r (kindOf (cellI p (s : Int)))).2.2.1 > 0) && lastB r p.turn t) with
          | false => exact hk.2
          | true =>
            simp only [Bool.and_eq_true, decide_eq_true_eq] at hb
            rw [cond_true]; omega
        have hok : mvOk r p x = true := by
          unfold mvOk
          rw [decide_eq_true_eq, ← hx]
          simp only
          omega
        unfold allowedB goOk
        rw [hok, Bool.true_and, ← hx]
        simp only
        rw [beq_f (by omega), cond_false, hm, Bool.true_and, beq_t rfl, Bool.true_and, List.any_eq_true]
        exact ⟨w, hw, by simpa using ht⟩
  · intro hx
    unfold allowedB at hx
    rw [Bool.and_eq_true] at hx
    obtain ⟨hok, hx⟩ := hx
    unfold mvOk at hok
    rw [decide_eq_true_eq] at hok
    obtain ⟨⟨a1, a2⟩, ⟨b1, b2⟩, c1, c2⟩ := hok
    by_cases hm : x.1 = -1
    · rw [beq_t hm, cond_true, Bool.and_eq_true] at hx
      left
      have e1 : ((x.2.1.toNat : Nat) : Int) = x.2.1 := by omega
      have e2 : ((x.2.2.1.toNat : Nat) : Int) = x.2.2.1 := by omega
      refine List.mem_flatMap.2 ⟨x.2.1.toNat, List.mem_range.2 (by omega), ?_⟩
      unfold putsAt
      rw [e1, hx.2, cond_true]
      refine List.mem_flatMap.2 ⟨x.2.2.1.toNat, List.mem_range.2 (by omega), ?_⟩
      rw [e2, hx.1, cond_true, List.mem_singleton]
      exact mv_eq hm rfl rfl
    · rw [beq_f hm, cond_false] at hx
      unfold goOk at hx
      simp only [Bool.and_eq_true, beq_iff_eq, List.any_eq_true, decide_eq_true_eq] at hx
      obtain ⟨h1, h2, w, hw, ht⟩ := hx
      right
      have e1 : ((x.1.toNat : Nat) : Int) = x.1 := by omega
      refine List.mem_flatMap.2 ⟨x.1.toNat, List.mem_range.2 (by omega), ?_⟩
      unfold goAt
      rw [e1, h1, cond_true]
      refine List.mem_flatMap.2 ⟨w, hw, List.mem_map.2 ⟨x.2.1, ht, ?_⟩⟩
      exact mv_eq rfl rfl h2
/-- THE PROGRAM's MOVES ARE THE REFERENCE's -/
theorem list_spec {r : Rules} {p : Place} (h : Valid r p) : movesList r p = some (movesOf r p) := by
  rw [list_dd h]
  congr 1
  refine lt_unique (dd_lt (sort_pw _)) (movesOf_lt r p) fun z => ?_
  rw [dd_mem, sort_mem, raw_mem h, movesOf_mem]
end Go.Proofs.YtfppnefcicdnfaaGreat
namespace Go.Proofs.YtfppnefcicdnfaaGreat
open Go.Den
set_option linter.unusedVariables false
set_option linter.unusedSimpArgs false
set_option maxRecDepth 100000

def own (r : Rules) (p : Place) (pl x y : Int) : Bool := onB r x y && (decide (cellI p (sq r x y) > 0) && ((cellI p (sq r x y) - 1).tmod 2 == pl))
def runB (r : Rules) (p : Place) (pl : Int) (n : Nat) (x y dx dy : Int) : Bool := (List.range n).all fun i => own r p pl (x + (i : Int) * dx) (y + (i : Int) * dy)
theorem runB_cons (r : Rules) (p : Place) (pl : Int) (n : Nat) (x y dx dy : Int) : runB r p pl (n + 1) x y dx dy = (own r p pl x y && runB r p pl n (x + dx) (y + dy) dx dy) := by
  unfold runB
  rw [List.range_succ_eq_map, List.all_cons, List.all_map]
  have e : ((fun i : Nat => own r p pl (x + (i : Int) * dx) (y + (i : Int) * dy)) ∘ Nat.succ) = fun i : Nat => own r p pl (x + dx + (i : Int) * dx) (y + dy + (i : Int) * dy) := by
    funext i
    simp only [Function.comp]
    have e1 : x + ((i.succ : Nat) : Int) * dx = x + dx + (i : Int) * dx := by rw [show ((i.succ : Nat) : Int) = (i : Int) + 1 by omega, Int.add_mul]; omega
    have e2 : y + ((i.succ : Nat) : Int) * dy = y + dy + (i : Int) * dy := by rw [show ((i.succ : Nat) : Int) = (i : Int) + 1 by omega, Int.add_mul]; omega
    rw [e1, e2]
  rw [e]
  simp
theorem runB_iff {r : Rules} {p : Place} {pl : Int} {n : Nat} {x y dx dy : Int} : runB r p pl n x y dx dy = true ↔ ∀ i : Nat, i < n → own r p pl (x + (i : Int) * dx) (y + (i : Int) * dy) = true := by
  unfold runB
  rw [List.all_eq_true]
  exact ⟨fun h i hi => h i (List.mem_range.2 hi), fun h i hi => h i (List.mem_range.1 hi)⟩
theorem runB_rev {r : Rules} {p : Place} {pl : Int} {n : Nat} {x y dx dy : Int} (h : runB r p pl n x y dx dy = true) : runB r p pl n (x + ((n : Int) - 1) * dx) (y + ((n : Int) - 1) * dy) (-dx) (-dy) = true := by
  rw [runB_iff] at *
  intro i hi
  have := h (n - 1 - i) (by omega)
  have e1 : x + ((n : Int) - 1) * dx + (i : Int) * (-dx) = x + ((n - 1 - i : Nat) : Int) * dx := by
    rw [show ((n - 1 - i : Nat) : Int) = (n : Int) - 1 - (i : Int) by omega, Int.sub_mul ((n : Int) - 1), Int.mul_neg]; omega
  have e2 : y + ((n : Int) - 1) * dy + (i : Int) * (-dy) = y + ((n - 1 - i : Nat) : Int) * dy := by
    rw [show ((n - 1 - i : Nat) : Int) = (n : Int) - 1 - (i : Int) by omega, Int.sub_mul ((n : Int) - 1), Int.mul_neg]; omega
  rw [e1, e2]; exact this
theorem own_on {r : Rules} {p : Place} {pl x y : Int} (h : own r p pl x y = true) : onB r x y = true := by unfold own at h; rw [Bool.and_eq_true] at h; exact h.1
abbrev dX (d : Nat) : Int := getD' [(1 : Int), (0 : Int), (1 : Int), (1 : Int)] d 0
abbrev dY (d : Nat) : Int := getD' [(0 : Int), (1 : Int), (1 : Int), (-1 : Int)] d 0
abbrev eX (d : Nat) : Int := getD' [(-1 : Int), (0 : Int), (-1 : Int), (1 : Int)] d 0
abbrev eY (d : Nat) : Int := getD' [(0 : Int), (-1 : Int), (-1 : Int), (-1 : Int)] d 0
def lineB (r : Rules) (p : Place) (pl c : Int) : Bool := (List.range p.1.length).any fun s => (List.range 4).any fun d => runB r p pl c.toNat ((s : Int).tmod r.width) ((s : Int).tdiv r.width) (dX d) (dY d)
def linedB (r : Rules) (p : Place) (pl c : Int) : Bool := (List.range r.height.toNat).any fun y => (List.range r.width.toNat).any fun x => (List.range 4).any fun d => runB r p pl c.toNat (x : Int) (y : Int) (eX d) (eY d)
theorem sq_div {r : Rules} {x y : Int} (h : onB r x y = true) : (sq r x y).tmod r.width = x ∧ (sq r x y).tdiv r.width = y := by
  obtain ⟨h1, h2, h3, h4⟩ := onB_iff.1 h
  have h0 : 0 ≤ sq r x y := by unfold sq; have := Int.mul_nonneg h3 (show 0 ≤ r.width by omega); omega
  rw [Int.tmod_eq_emod_of_nonneg h0, Int.tdiv_eq_ediv_of_nonneg h0]
  unfold sq
  rw [Int.add_comm, Int.add_mul_emod_self_right, Int.add_mul_ediv_right _ _ (by omega), Int.emod_eq_of_lt h1 h2, Int.ediv_eq_zero_of_lt h1 h2]
  omega
theorem lineB_of {r : Rules} {p : Place} (h : Valid r p) {pl c x y : Int} {d : Nat} (hc : 1 ≤ c) (hd : d < 4) (hr : runB r p pl c.toNat x y (dX d) (dY d) = true) : lineB r p pl c = true := by
  have hon : onB r x y = true := by
    have := runB_iff.1 hr 0 (by omega)
    exact own_on (by simpa using this)
  have hs := sq_rng h.r0 hon
  have hlen : ((p.1.length : Nat) : Int) = r.width * r.height := h.cells
  unfold lineB
  rw [List.any_eq_true]
  refine ⟨(sq r x y).toNat, List.mem_range.2 (by omega), ?_⟩
  rw [List.any_eq_true]
  refine ⟨d, List.mem_range.2 hd, ?_⟩
  rw [Int.toNat_of_nonneg hs.1, (sq_div hon).1, (sq_div hon).2]
  exact hr
theorem linedB_of {r : Rules} {p : Place} (h : Valid r p) {pl c x y : Int} {d : Nat} (hc : 1 ≤ c) (hd : d < 4) (hr : runB r p pl c.toNat x y (eX d) (eY d) = true) : linedB r p pl c = true := by
  have hon : onB r x y = true := by
    have := runB_iff.1 hr 0 (by omega)
    exact own_on (by simpa using this)
  obtain ⟨h1, h2, h3, h4⟩ := onB_iff.1 hon
  unfold linedB
  rw [List.any_eq_true]
  refine ⟨y.toNat, List.mem_range.2 (by omega), ?_⟩
  rw [List.any_eq_true]
  refine ⟨x.toNat, List.mem_range.2 (by omega), ?_⟩
  rw [List.any_eq_true]
  refine ⟨d, List.mem_range.2 hd, ?_⟩
  rw [Int.toNat_of_nonneg h1, Int.toNat_of_nonneg h3]
  exact hr
theorem lined_line {r : Rules} {p : Place} (h : Valid r p) {pl c : Int} (hc : 1 ≤ c) : linedB r p pl c = lineB r p pl c := by
  rw [Bool.eq_iff_iff]
  constructor
  · intro hl
    unfold linedB at hl
    simp only [List.any_eq_true, List.mem_range] at hl
    obtain ⟨y, _, x, _, d, hd, hr⟩ := hl
    have h4 : d = 0 ∨ d = 1 ∨ d = 2 ∨ d = 3 := by omega
    rcases h4 with rfl | rfl | rfl | rfl
    · exact lineB_of h (d := 0) hc (by omega) (runB_rev hr)
    · exact lineB_of h (d := 1) hc (by omega) (runB_rev hr)
    · exact lineB_of h (d := 2) hc (by omega) (runB_rev hr)
    · exact lineB_of h (d := 3) hc (by omega) hr
  · intro hl
    unfold lineB at hl
    simp only [List.any_eq_true, List.mem_range] at hl
    obtain ⟨s, _, d, hd, hr⟩ := hl
    have h4 : d = 0 ∨ d = 1 ∨ d = 2 ∨ d = 3 := by omega
    rcases h4 with rfl | rfl | rfl | rfl
    · exact linedB_of h (d := 0) hc (by omega) (runB_rev hr)
    · exact linedB_of h (d := 1) hc (by omega) (runB_rev hr)
    · exact linedB_of h (d := 2) hc (by omega) (runB_rev hr)
    · exact linedB_of h (d := 3) hc (by omega) hr
theorem dX_rng (d : Nat) : -1 ≤ dX d ∧ dX d ≤ 1 := by
  match d with
  | 0 => decide
  | 1 => decide
  | 2 => decide
  | 3 => decide
  | n + 4 => simp [dX, getD']
theorem dY_rng (d : Nat) : -1 ≤ dY d ∧ dY d ≤ 1 := by
  match d with
  | 0 => decide
  | 1 => decide
  | 2 => decide
  | 3 => decide
  | n + 4 => simp [dY, getD']
theorem line3 {r : Rules} {p : Place} (h : Valid r p) {pl c : Int} (d : Nat) (hc : c ≤ 64) : ∀ (m : Nat) (x y n : Int), 0 ≤ n → n + m = c → (-1 ≤ x ∧ x ≤ 8) → (-1 ≤ y ∧ y ≤ 8) →
    ∃ n', iterW (endsLine_L3 c r p pl (((d : Int), ()), ())) ((x, y, n, ()), ()) = some ((n', ()), ()) ∧ (n' == c) = runB r p pl m x y (dX d) (dY d)
  | 0, x, y, n, h0, hn, hx, hy => by
    refine ⟨n, iterW_inr ?_, ?_⟩
    · unfold endsLine_L3
      have : decide (n < c) = false := by simp; omega
      simp only [this, cond_false, Option.bind_some]
    · rw [beq_t (by omega)]; rfl
  | m + 1, x, y, n, h0, hn, hx, hy => by
    have hr := h.r0
    have := hr.w8; have := hr.h8; have := hr.w1; have := hr.h1
    have ha := hr.area
    have hlt : decide (n < c) = true := by simp; omega
    have hoff : ((((decide (x < (0 : Int))) || (decide (x ≥ r.2.1))) || (decide (y < (0 : Int)))) || (decide (y ≥ r.2.2.1))) = !onB r x y := by
      rw [Bool.eq_iff_iff]
      simp only [Bool.or_eq_true, decide_eq_true_eq, Bool.not_eq_true', onB, decide_eq_false_iff_not]
      show ((x < 0 ∨ x ≥ r.width) ∨ y < 0) ∨ y ≥ r.height ↔ _
      omega
    have hown : (bif (decide (n < c)) then (bif ((((decide (x < (0 : Int))) || (decide (x ≥ r.2.1))) || (decide (y < (0 : Int)))) || (decide (y ≥ r.2.2.1))) then some ((false, ()), ())
        else Option.bind (at? p.1 (w64 ((w64 (y * r.2.1)) + x))) fun d4 =>
        req (imp (decide (d4 > (0 : Int))) true) (some ((((decide (d4 > (0 : Int))) && (((w64 (d4 - (1 : Int))).tmod (2 : Int)) == pl)), ()), ())))
        else some ((false, ()), ())) = some ((own r p pl x y, ()), ()) := by
      rw [hlt, cond_true, hoff]
      unfold own
      cases hb : onB r x y with
      | false => rfl
      | true =>
        have hs := sq_rng hr hb
        obtain ⟨b1, b2, b3, b4⟩ := onB_iff.1 hb
        have hmul := mul_rng (show 0 ≤ r.width by omega) b3 b4
        have w1 : w64 (y * r.2.1) = y * r.2.1 := w64_id (by show _ ≤ y * r.width; omega) (by show y * r.width ≤ _; omega)
        have w2 : w64 (y * r.2.1 + x) = sq r x y := w64_id (by show _ ≤ sq r x y; omega) (by show sq r x y ≤ _; omega)
        have hcs := cell_small h (sq r x y)
        rw [w1, w2, at_cell (p := p) hs.1 (by rw [h.cells]; exact hs.2)]
        simp only [Bool.not_true, cond_false, Option.bind_some, show ∀ b, imp b true = true from fun b => by cases b <;> rfl, req_true, Bool.true_and]
        rw [w64_id (n := cellI p (sq r x y) - 1) (by omega) (by omega)]
    rw [runB_cons]
    cases ho : own r p pl x y with
    | false =>
      refine ⟨n, iterW_inr ?_, ?_⟩
      · unfold endsLine_L3
        rw [hown, ho]
        rfl
      · rw [beq_f (by omega)]; rfl
    | true =>
      obtain ⟨b1, b2, b3, b4⟩ := onB_iff.1 (own_on ho)
      have r1 := dX_rng d
      have r2 := dY_rng d
      obtain ⟨n', e1, e2⟩ := line3 h (pl := pl) d hc m (x + dX d) (y + dY d) (n + 1) (by omega) (by omega) (by omega) (by omega)
      refine ⟨n', ?_, by rw [e2]; simp⟩
      rw [iterW_inl (y := ((x + dX d, y + dY d, n + 1, ()), ())) (by
        unfold endsLine_L3
        rw [hown, ho]
        simp only [Option.bind_some, cond_true, Int.toNat_natCast]
        rw [w64_id (n := x + dX d) (by omega) (by omega), w64_id (n := y + dY d) (by omega) (by omega), w64_id (n := n + 1) (by omega) (by omega)])]
      exact e1
theorem line_spec {r : Rules} {p : Place} (h : Valid r p) (pl : Int) {c : Int} (hc1 : 1 ≤ c) (hc : c ≤ 64) : endsLine r p pl c = some (lineB r p pl c) := by
  have hr := h.r0
  have := hr.w8; have := hr.h8; have := hr.w1; have := hr.h1
  have ha := hr.area
  have hlen : ((p.1.length : Nat) : Int) = r.width * r.height := h.cells
  have hq : (r.2.1 != 0) = true := bne_t (by show ¬ r.width = 0; omega)
  unfold endsLine
  have hL := iterW_any (List.range p.1.length) (fun s => (List.range 4).any fun d => runB r p pl c.toNat ((s : Int).tmod r.width) ((s : Int).tdiv r.width) (dX d) (dY d)) (endsLine_L1 p r c pl) (.inr true) (.inl ((), ())) (fun s hs => by
    have hs' : s < p.1.length := by simpa using hs
    have hdv := div_rng hr (show (0 : Int) ≤ (s : Int) by omega) (show (s : Int) < r.width * r.height by omega)
    have hL2 := iterW_any (List.range 4) (fun d => runB r p pl c.toNat ((s : Int).tmod r.width) ((s : Int).tdiv r.width) (dX d) (dY d)) (endsLine_L2 r c p pl (((s : Int), ()), ())) (.inr (.inr (.inr (.inr true)))) (.inl ((), ())) (fun d hd => by
      have hd' : d < 4 := by simpa using hd
      have w1 : w64 ((s : Int).tdiv r.2.1) = (s : Int).tdiv r.width := w64_id (by show _ ≤ (s : Int).tdiv r.width; omega) (by show (s : Int).tdiv r.width ≤ _; omega)
      obtain ⟨n', e1, e2⟩ := line3 h (pl := pl) (c := c) d hc c.toNat ((s : Int).tmod r.width) ((s : Int).tdiv r.width) 0 (by omega) (by omega) (by omega) (by omega)
      unfold endsLine_L2
      simp only [show decide ((d : Int) < 4) = true by simp; omega, cond_true, show inb (d : Int) 4 = true from inb_iff.2 ⟨by omega, by omega⟩, req_true, hq, w1]
      rw [show ((s : Int).tmod r.2.1) = (s : Int).tmod r.width from rfl, e1, Option.bind_some]
      simp only [List.getElem_range]
      rw [← e2, w64_id (n := (d : Int) + 1) (by omega) (by omega)]
      cases (n' == c) <;> rfl) (by
      unfold endsLine_L2
      rfl)
    unfold endsLine_L1
    simp only [show decide ((s : Int) < ((p.1.length : Nat) : Int)) = true by simp; omega, cond_true, List.getElem_range]
    rw [hL2, w64_id (n := (s : Int) + 1) (by omega) (by omega)]
    cases (List.range 4).any (fun d => runB r p pl c.toNat ((s : Int).tmod r.width) ((s : Int).tdiv r.width) (dX d) (dY d)) <;> rfl) (by
    unfold endsLine_L1
    simp)
  rw [hL]
  unfold lineB
  cases (List.range p.1.length).any (fun s => (List.range 4).any fun d => runB r p pl c.toNat ((s : Int).tmod r.width) ((s : Int).tdiv r.width) (dX d) (dY d)) <;> rfl
theorem eXY_rng (d : Nat) (hd : d < 4) : (-1 ≤ eX d ∧ eX d ≤ 1) ∧ (-1 ≤ eY d ∧ eY d ≤ 1) ∧ ¬ (eX d = 0 ∧ eY d = 0) := by
  have h4 : d = 0 ∨ d = 1 ∨ d = 2 ∨ d = 3 := by omega
  rcases h4 with rfl | rfl | rfl | rfl <;> decide
theorem small_mul {n d : Int} (h0 : 0 ≤ n) (h1 : -1 ≤ d) (h2 : d ≤ 1) : (d = 0 ∧ n * d = 0) ∨ (d = 1 ∧ n * d = n) ∨ (d = -1 ∧ n * d = -n) := by
  have : d = 0 ∨ d = 1 ∨ d = -1 := by omega
  rcases this with rfl | rfl | rfl <;> simp
end Go.Proofs.YtfppnefcicdnfaaGreat
namespace Go.Proofs.YtfppnefcicdnfaaGreat
open Go.Den
set_option linter.unusedVariables false
set_option linter.unusedSimpArgs false
set_option maxRecDepth 100000

def reachB (r : Rules) (p : Place) (x : End) (mover : Int) : Bool := (List.range p.1.length).any fun s => (cellI p (s : Int) == 2 * x.2.1 + mover + 1) && lastB r mover (s : Int)
def fewOf (p : Place) (x : End) (mover : Int) : Int := ((p.1.countP (fun c => c == 2 * x.2.1 + 1 - mover + 1) : Nat) : Int)
def metB (r : Rules) (p : Place) (x : End) (mover : Int) : Bool := bif x.1 == 0 then lineB r p mover x.2.2.1 else bif x.1 == 1 then reachB r p x mover else decide (fewOf p x mover < x.2.2.1)
structure EndOk (r : Rules) (x : End) : Prop where
  kind : 0 ≤ x.1 ∧ x.1 ≤ 2
  cnt : x.1 = 0 → 1 ≤ x.2.2.1 ∧ x.2.2.1 ≤ 64
  pc : 0 ≤ x.2.1 ∧ x.2.1 ≤ 6
theorem Valid.endOk {r : Rules} {p : Place} (h : Valid r p) {x : End} (hx : x ∈ r.ends) : EndOk r x := by
  obtain ⟨h1, h2, h3⟩ := h.r0.ends x hx
  have ht := h.r0.t6
  refine ⟨h1, fun e => ?_, ?_⟩
  · rw [if_neg (by omega)] at h2; exact h2
  · split at h3 <;> omega
theorem cell_get (p : Place) (i : Nat) (hi : i < p.1.length) : cellI p (i : Int) = p.1[i] := by
  unfold cellI
  rw [List.getD_eq_getElem?_getD, Int.toNat_natCast]
  simp [hi]
theorem holds_spec {r : Rules} {p : Place} (h : Valid r p) {x : End} (hx : EndOk r x) {mover : Int} (hm : mover = 0 ∨ mover = 1) : endsHolds r p x mover = some (metB r p x mover) := by
  have hr := h.r0
  have ha := hr.area
  have h64 := area_len h
  have hlen : ((p.1.length : Nat) : Int) = r.width * r.height := h.cells
  have hp := hx.pc
  unfold endsHolds metB
  by_cases k0 : x.1 = 0
  · rw [beq_t k0, cond_true, cond_true, line_spec h mover (hx.cnt k0).1 (hx.cnt k0).2]
    rfl
  · rw [beq_f k0, cond_false, cond_false]
    by_cases k1 : x.1 = 1
    · rw [beq_t k1, cond_true, cond_true]
      have hL := iterW_any (List.range p.1.length) (fun s => (cellI p (s : Int) == 2 * x.2.1 + mover + 1) && lastB r mover (s : Int)) (endsHolds_L1 p x mover r) (.inr (.inr true)) (.inl ((), ())) (fun s hs => by
        have hs' : s < p.1.length := by simpa using hs
        unfold endsHolds_L1
        simp only [show decide ((s : Int) < ((p.1.length : Nat) : Int)) = true by simp; omega, cond_true, List.getElem_range]
        rw [at_cell (p := p) (s := (s : Int)) (by omega) (by show (s : Int) < ((p.1.length : Nat) : Int); omega), Option.bind_some, isLast_spec hr mover (by omega) (by omega)]
        rw [w64_id (n := 2 * x.2.1) (by omega) (by omega), w64_id (n := 2 * x.2.1 + mover) (by omega) (by omega), w64_id (n := 2 * x.2.1 + mover + 1) (by omega) (by omega), w64_id (n := (s : Int) + 1) (by omega) (by omega)]
        cases (cellI p (s : Int) == 2 * x.2.1 + mover + 1) <;> cases lastB r mover (s : Int) <;> rfl) (by
        unfold endsHolds_L1
        simp)
      rw [hL]
      unfold reachB
      cases (List.range p.1.length).any (fun s => (cellI p (s : Int) == 2 * x.2.1 + mover + 1) && lastB r mover (s : Int)) <;> rfl
    · rw [beq_f k1, cond_false, cond_false, Option.bind_some, Sum.elim_inl]
      have hL := iter_count p.1 (fun c => c == 2 * x.2.1 + 1 - mover + 1) (endsHolds_L2 p x mover) (fun c => ((c, ()), ())) (fun i hi c c0 ci => by
        unfold endsHolds_L2
        simp only [show decide ((i : Int) < ((p.1.length : Nat) : Int)) = true by simp; omega, cond_true]
        rw [at_cell (p := p) (s := (i : Int)) (by omega) (by show (i : Int) < ((p.1.length : Nat) : Int); omega), Option.bind_some, cell_get p i hi]
        rw [w64_id (n := 2 * x.2.1) (by omega) (by omega), w64_id (n := 2 * x.2.1 + 1) (by omega) (by omega), w64_id (n := 2 * x.2.1 + 1 - mover) (by omega) (by omega), w64_id (n := 2 * x.2.1 + 1 - mover + 1) (by omega) (by omega), w64_id (n := (i : Int) + 1) (by omega) (by omega), w64_id (n := c + 1) (by omega) (by omega)]
        cases (p.1[i] == 2 * x.2.1 + 1 - mover + 1) <;> rfl) (fun c => by
        unfold endsHolds_L2
        simp)
      rw [hL]
      rfl
/-- the answer of a condition that is met -/
def endE (r : Rules) (p : Place) (i : Nat) : Option (((Unit) × (Unit)) ⊕ Int) := match r.2.2.2.2.2.2.2.1[i]? with
  | some x => bif metB r p x (1 - p.turn) then some (.inr (bif x.2.2.2.1 then 1 + p.turn else 1 + (1 - p.turn))) else none
  | none => none
def blockedV (r : Rules) (p : Place) : Int := bif r.blocked == 0 then 1 + (1 - p.turn) else bif r.blocked == 1 then 1 + p.turn else 3
def resultOf (r : Rules) (p : Place) : Int := match scan (endE r p) (.inl ((), ())) 0 r.2.2.2.2.2.2.2.1.length with
  | .inl _ => bif (r.quiet != 0) && decide (p.quiet ≥ r.quiet) then 3 else bif decide ((((movesOf r p).length : Nat) : Int) > 0) then 0 else blockedV r p
  | .inr v => v
theorem turn_w {r : Rules} {p : Place} (h : Valid r p) : w64 ((1 : Int) - p.2.2.1) = 1 - p.turn ∧ w64 ((1 : Int) + p.2.2.1) = 1 + p.turn ∧ w64 (1 + (1 - p.turn)) = 1 + (1 - p.turn) ∧ w64 (1 + p.turn) = 1 + p.turn := by
  have ht := h.turn
  refine ⟨w64_id (by show _ ≤ 1 - p.turn; omega) (by show 1 - p.turn ≤ _; omega), w64_id (by show _ ≤ 1 + p.turn; omega) (by show 1 + p.turn ≤ _; omega), w64_id (by omega) (by omega), w64_id (by omega) (by omega)⟩
theorem result_spec {r : Rules} {p : Place} (h : Valid r p) : endsResult r p = some (resultOf r p) := by
  have ht := h.turn
  obtain ⟨t1, t2, t3, t4⟩ := turn_w h
  have h6 : r.2.2.2.2.2.2.2.1.length ≤ 6 := h.r0.ends6
  unfold endsResult resultOf
  have hL := iterW_scan r.2.2.2.2.2.2.2.1.length (endsResult_L1 r p) (endE r p) (.inl ((), ())) (fun i hi => by
    unfold endsResult_L1 endE
    rw [List.getElem?_eq_getElem hi]
    simp only [show decide ((i : Int) < ((r.2.2.2.2.2.2.2.1.length : Nat) : Int)) = true by simp; omega, cond_true]
    rw [at?_eq r.2.2.2.2.2.2.2.1 (i : Int) (by omega) (by omega), Option.bind_some, t1]
    simp only [Int.toNat_natCast]
    rw [holds_spec h (h.endOk (List.getElem_mem hi)) (by omega), Option.bind_some]
    cases metB r p r.2.2.2.2.2.2.2.1[i] (1 - p.turn)
    · simp only [cond_false]
      rw [w64_id (n := (i : Int) + 1) (by omega) (by omega)]
      rfl
    · simp only [cond_true, show decide ((i : Int) ≥ 0) = true by simp, Option.bind_some]
      unfold endsWins
      rw [t3, show p.2.2.1 = p.turn from rfl, t4]
      cases (r.2.2.2.2.2.2.2.1[i]).2.2.2.1 <;> rfl) (by
    unfold endsResult_L1
    simp)
  rw [hL, Option.bind_some]
  cases scan (endE r p) (.inl ((), ())) 0 r.2.2.2.2.2.2.2.1.length with
  | inr v => rfl
  | inl u =>
    simp only [Sum.elim_inl]
    rw [show ((r.2.2.2.2.2.2.2.2.2.1 != (0 : Int)) && (decide (p.2.2.2.1 ≥ r.2.2.2.2.2.2.2.2.2.1))) = ((r.quiet != 0) && decide (p.quiet ≥ r.quiet)) from rfl]
    cases ((r.quiet != 0) && decide (p.quiet ≥ r.quiet))
    · rw [cond_false, cond_false, list_spec h, Option.bind_some]
      cases decide ((((movesOf r p).length : Nat) : Int) > 0)
      · rw [cond_false, cond_false, t1]
        unfold blockedV endsWins
        rw [t3, show p.2.2.1 = p.turn from rfl, t4, show r.2.2.2.2.2.2.2.2.1 = r.blocked from rfl]
        cases (r.blocked == 0) <;> cases (r.blocked == 1) <;> rfl
      · rfl
    · rfl
theorem iter_fold2 {A C R : Type} (n : Nat) (f : ((A × C × Int × Unit) × Unit) → Option (((A × C × Int × Unit) × Unit) ⊕ R)) (a : Nat → A) (c : Nat → C) (res : R)
    (hs : ∀ i, i < n → f ((a i, c i, (i : Int), ()), ()) = some (.inl ((a (i + 1), c (i + 1), ((i : Int) + 1), ()), ()))) (he : f ((a n, c n, (n : Int), ()), ()) = some (.inr res)) :
    iterW f ((a 0, c 0, (0 : Int), ()), ()) = some res :=
  iterW_states (f := f) n (fun i => ((a i, c i, (i : Int), ()), ())) res (fun i hi => by rw [hs i hi]; rfl) he
end Go.Proofs.YtfppnefcicdnfaaGreat
namespace Go.Proofs.YtfppnefcicdnfaaGreat
open Go.Den
set_option linter.unusedVariables false
set_option linter.unusedSimpArgs false
set_option maxRecDepth 100000

def pieceV (p : Place) (m : Mv) : Int := 2 * m.2.2.1 + p.turn + 1
def cellsA (p : Place) (m : Mv) : List Int := (bif decide (m.1 ≥ 0) then p.1.set m.1.toNat 0 else p.1).set m.2.1.toNat (pieceV p m)
def handD (m : Mv) (h : List Int) : List Int := bif decide (m.1 ≥ 0) then h else h.set m.2.2.1.toNat (h.getD m.2.2.1.toNat 0 - 1)
def handK (r : Rules) (c : Int) (h : List Int) : List Int := bif decide (c > 0) && r.keeps then h.set (kindOf c).toNat (if 1000 < h.getD (kindOf c).toNat 0 + 1 then 1000 else h.getD (kindOf c).toNat 0 + 1) else h
def handA (r : Rules) (p : Place) (m : Mv) (h : List Int) : List Int := handK r (cellI p m.2.1) (handD m h)
def quietA (p : Place) (m : Mv) : Int := bif decide (cellI p m.2.1 > 0) || decide (m.1 < 0) then 0 else if 200 < p.quiet + 1 then 200 else p.quiet + 1
/-- the position after a move -/
def afterOf (r : Rules) (p : Place) (m : Mv) : Place := (cellsA p m, ((bif p.turn == 0 then handA r p m p.2.1.1 else p.2.1.1), (bif p.turn == 0 then p.2.1.2.1 else handA r p m p.2.1.2.1), ()), 1 - p.turn, quietA p m, ())
theorem copy_spec {r : Rules} {p : Place} (h : Valid r p) : placeCopy p = some p := by
  have h64 := area_len h
  have ht := h.r0.t6
  have a0 : p.2.1.1.length = r.pieces.length := h.l0
  have a1 : p.2.1.2.1.length = r.pieces.length := h.l1
  unfold placeCopy
  rw [clone_ok p.1 (by omega), clone_ok p.2.1.1 (by omega), clone_ok p.2.1.2.1 (by omega)]
  simp only [Option.bind_some, agree_self]
theorem allowed_rng {r : Rules} {p : Place} {m : Mv} (ha : allowedB r p m = true) : (-1 ≤ m.1 ∧ m.1 < ((p.1.length : Nat) : Int)) ∧ (0 ≤ m.2.1 ∧ m.2.1 < ((p.1.length : Nat) : Int)) ∧ (0 ≤ m.2.2.1 ∧ m.2.2.1 < ((r.pieces.length : Nat) : Int)) := by
  unfold allowedB mvOk at ha
  rw [Bool.and_eq_true, decide_eq_true_eq] at ha
  exact ha.1
theorem allowed_put {r : Rules} {p : Place} {m : Mv} (ha : allowedB r p m = true) (hm : m.1 = -1) : handI p m.2.2.1 > 0 ∧ cellI p m.2.1 = 0 := by
  unfold allowedB putOk at ha
  rw [beq_t hm, cond_true] at ha
  simp only [Bool.and_eq_true, decide_eq_true_eq, beq_iff_eq] at ha
  exact ⟨ha.2.1, ha.2.2.1⟩
theorem handD_len (m : Mv) (h : List Int) : (handD m h).length = h.length := by unfold handD; cases decide (m.1 ≥ 0) <;> simp
theorem handK_len (r : Rules) (c : Int) (h : List Int) : (handK r c h).length = h.length := by unfold handK; cases (decide (c > 0) && r.keeps) <;> simp
theorem getD_rng {l : List Int} {b : Int} (hb : 0 ≤ b) (h : ∀ c ∈ l, 0 ≤ c ∧ c ≤ b) (i : Nat) : 0 ≤ l.getD i 0 ∧ l.getD i 0 ≤ b := by
  rw [List.getD_eq_getElem?_getD]
  cases e : l[i]? with
  | none => simp; exact hb
  | some c => exact h c (List.mem_of_getElem? e)
theorem handD_rng {r : Rules} {p : Place} {m : Mv} (h : Valid r p) (ha : allowedB r p m = true) : ∀ c ∈ handD m (handOf p), 0 ≤ c ∧ c ≤ 1000 := by
  have hr := hand_rng h
  unfold handD
  cases hd : decide (m.1 ≥ 0) with
  | true => exact hr
  | false =>
    intro c hc
    rw [cond_false] at hc
    have hm : m.1 = -1 := by have := (allowed_rng ha).1.1; simp at hd; omega
    have hp := (allowed_put ha hm).1
    have hg := getD_rng (by omega) hr m.2.2.1.toNat
    rcases List.mem_or_eq_of_mem_set hc with h1 | h1
    · exact hr c h1
    · unfold handI at hp; omega
theorem handK_rng {r : Rules} {c : Int} {h : List Int} (hh : ∀ x ∈ h, 0 ≤ x ∧ x ≤ 1000) : ∀ x ∈ handK r c h, 0 ≤ x ∧ x ≤ 1000 := by
  unfold handK
  cases (decide (c > 0) && r.keeps) with
  | false => exact hh
  | true =>
    intro x hx
    have hg := getD_rng (by omega) hh (kindOf c).toNat
    rcases List.mem_or_eq_of_mem_set hx with h1 | h1
    · exact hh x h1
    · rw [h1]; split <;> omega
theorem make_hand {r : Rules} {p : Place} {m : Mv} (hv : Valid r p) (ha : allowedB r p m = true) (l : List Int) (hl : l = handOf p) :
    (decide (m.1 ≥ 0) = false → inb m.2.2.1 l.length = true ∧ w64 (getD' l m.2.2.1.toNat 0 - 1) = l.getD m.2.2.1.toNat 0 - 1) ∧
    (decide (cellI p m.2.1 > 0) = true → inb (kindOf (cellI p m.2.1)) (handD m l).length = true ∧ w64 (getD' (handD m l) (kindOf (cellI p m.2.1)).toNat 0 + 1) = (handD m l).getD (kindOf (cellI p m.2.1)).toNat 0 + 1) := by
  subst hl
  have hr := hand_rng hv
  have hl := hand_len hv
  obtain ⟨r1, r2, r3⟩ := allowed_rng ha
  refine ⟨fun _ => ⟨inb_iff.2 ⟨r3.1, by rw [hl]; exact r3.2⟩, ?_⟩, fun hc => ⟨?_, ?_⟩⟩
  · have := getD_rng (by omega) hr m.2.2.1.toNat
    exact w64_id (by show _ ≤ (handOf p).getD m.2.2.1.toNat 0 - 1; omega) (by show (handOf p).getD m.2.2.1.toNat 0 - 1 ≤ _; omega)
  · have hk := kind_rng hv (of_decide_eq_true hc)
    exact inb_iff.2 ⟨hk.2.1, by rw [handD_len, hl]; exact hk.2.2⟩
  · have := getD_rng (by omega) (handD_rng hv ha) (kindOf (cellI p m.2.1)).toNat
    exact w64_id (by show _ ≤ (handD m (handOf p)).getD (kindOf (cellI p m.2.1)).toNat 0 + 1; omega) (by show (handD m (handOf p)).getD (kindOf (cellI p m.2.1)).toNat 0 + 1 ≤ _; omega)
theorem make_spec {r : Rules} {p : Place} {m : Mv} (h : Valid r p) (ha : allowedB r p m = true) : movesMake r p m = some (afterOf r p m) := by
  obtain ⟨r1, r2, r3⟩ := allowed_rng ha
  have ht6 := h.r0.t6
  have hq := h.quiet
  have htn := h.turn
  have h64 := area_len h
  have hto : inb m.2.1 p.1.length = true := inb_iff.2 r2
  have wv : w64 (w64 (w64 (2 * m.2.2.1) + p.2.2.1) + 1) = pieceV p m := by
    unfold pieceV
    rw [show p.2.2.1 = p.turn from rfl, w64_id (n := 2 * m.2.2.1) (by omega) (by omega), w64_id (n := 2 * m.2.2.1 + p.turn) (by omega) (by omega), w64_id (by omega) (by omega)]
  have wq : w64 (p.2.2.2.1 + 1) = p.quiet + 1 := w64_id (by show _ ≤ p.quiet + 1; omega) (by show p.quiet + 1 ≤ _; omega)
  have wt : w64 (1 - p.2.2.1) = 1 - p.turn := (turn_w h).1
  have hcell : getD' p.1 m.2.1.toNat 0 = cellI p m.2.1 := rfl
  have hin : inb p.2.2.1 2 = true := inb_iff.2 (by show 0 ≤ p.turn ∧ p.turn < ((2 : Nat) : Int); omega)
  have wk : decide (cellI p m.2.1 > 0) = true → w64 ((w64 (cellI p m.2.1 - 1)).tdiv 2) = kindOf (cellI p m.2.1) := fun hc => (kind_rng h (of_decide_eq_true hc)).1
  have hho : handOf p = if p.turn = 0 then p.2.1.1 else p.2.1.2.1 := handOf_eq h
  have hneg : decide (m.1 < 0) = !decide (m.1 ≥ 0) := by
    rw [Bool.eq_iff_iff]
    simp only [decide_eq_true_eq, Bool.not_eq_true', decide_eq_false_iff_not]
    omega
  unfold movesMake afterOf
  rw [copy_spec h, Option.bind_some]
  simp only [hcell, hto, req_true, wv, wq, wt, hin, hneg]
  rcases htn with e | e
  · have e' : p.2.2.1 = 0 := e
    rw [if_pos e] at hho
    obtain ⟨k1, k2⟩ := make_hand h ha p.2.1.1 hho.symm
    simp only [e', e, show ((0 : Int) == 0) = true from rfl, cond_true]
    unfold handA cellsA quietA handK
    simp only [hneg]
    cases hd : decide (m.1 ≥ 0) with
    | true =>
      have hf : inb m.1 p.1.length = true := inb_iff.2 ⟨of_decide_eq_true hd, r1.2⟩
      have hD : handD m p.2.1.1 = p.2.1.1 := by unfold handD; rw [hd]; rfl
      rw [hD] at k2 ⊢
      simp only [cond_true, hf, req_true, Option.bind_some, List.length_set, hto]
      cases hc : decide (cellI p m.2.1 > 0) with
      | false => rfl
      | true =>
        obtain ⟨k3, k4⟩ := k2 hc
        cases hk : r.2.2.2.2.2.2.1 with
        | false => rw [show r.keeps = false from hk]; rfl
        | true =>
          rw [show r.keeps = true from hk]
          simp only [Bool.true_and, cond_true, wk hc, k3, req_true, k4, Option.bind_some]
          rfl
    | false =>
      obtain ⟨k5, k6⟩ := k1 hd
      have hD : handD m p.2.1.1 = p.2.1.1.set m.2.2.1.toNat (p.2.1.1.getD m.2.2.1.toNat 0 - 1) := by unfold handD; rw [hd]; rfl
      have hz : decide (cellI p m.2.1 > 0) = false := by
        have := (allowed_put ha (by simp at hd; omega)).2
        rw [this]; rfl
      rw [hD]
      simp only [cond_false, k5, k6, req_true, Option.bind_some, hz, Bool.false_and, hto]
      rfl
  · have e' : p.2.2.1 = 1 := e
    rw [if_neg (by omega)] at hho
    obtain ⟨k1, k2⟩ := make_hand h ha p.2.1.2.1 hho.symm
    simp only [e', e, show ((1 : Int) == 0) = false from rfl, cond_false]
    unfold handA cellsA quietA handK
    simp only [hneg]
    cases hd : decide (m.1 ≥ 0) with
    | true =>
      have hf : inb m.1 p.1.length = true := inb_iff.2 ⟨of_decide_eq_true hd, r1.2⟩
      have hD : handD m p.2.1.2.1 = p.2.1.2.1 := by unfold handD; rw [hd]; rfl
      rw [hD] at k2 ⊢
      simp only [cond_true, hf, req_true, Option.bind_some, List.length_set, hto]
      cases hc : decide (cellI p m.2.1 > 0) with
      | false => rfl
      | true =>
        obtain ⟨k3, k4⟩ := k2 hc
        cases hk : r.2.2.2.2.2.2.1 with
        | false => rw [show r.keeps = false from hk]; rfl
        | true =>
          rw [show r.keeps = true from hk]
          simp only [Bool.true_and, cond_true, wk hc, k3, req_true, k4, Option.bind_some]
          rfl
    | false =>
      obtain ⟨k5, k6⟩ := k1 hd
      have hD : handD m p.2.1.2.1 = p.2.1.2.1.set m.2.2.1.toNat (p.2.1.2.1.getD m.2.2.1.toNat 0 - 1) := by unfold handD; rw [hd]; rfl
      have hz : decide (cellI p m.2.1 > 0) = false := by
        have := (allowed_put ha (by simp at hd; omega)).2
        rw [this]; rfl
      rw [hD]
      simp only [cond_false, k5, k6, req_true, Option.bind_some, hz, Bool.false_and, hto]
      rfl
theorem after_valid {r : Rules} {p : Place} {m : Mv} (h : Valid r p) (ha : allowedB r p m = true) : Valid r (afterOf r p m) := by
  obtain ⟨r1, r2, r3⟩ := allowed_rng ha
  have htn := h.turn
  have hq := h.quiet
  have hK := handK_rng (r := r) (c := cellI p m.2.1) (handD_rng h ha)
  have hho := handOf_eq h
  refine ⟨h.r0, ?_, ?_, ?_, ?_, ?_, ?_, ?_, ?_⟩
  · show ((((bif decide (m.1 ≥ 0) then p.1.set m.1.toNat 0 else p.1).set m.2.1.toNat (pieceV p m)).length : Nat) : Int) = _
    have : ((bif decide (m.1 ≥ 0) then p.1.set m.1.toNat 0 else p.1).set m.2.1.toNat (pieceV p m)).length = p.1.length := by cases decide (m.1 ≥ 0) <;> simp
    rw [this]; exact h.cells
  · show (bif p.turn == 0 then handA r p m p.2.1.1 else p.2.1.1).length = _
    cases (p.turn == 0)
    · exact h.l0
    · rw [cond_true]; unfold handA; rw [handK_len, handD_len]; exact h.l0
  · show (bif p.turn == 0 then p.2.1.2.1 else handA r p m p.2.1.2.1).length = _
    cases (p.turn == 0)
    · rw [cond_false]; unfold handA; rw [handK_len, handD_len]; exact h.l1
    · exact h.l1
  · intro c hc
    have hc : c ∈ (bif decide (m.1 ≥ 0) then p.1.set m.1.toNat 0 else p.1).set m.2.1.toNat (pieceV p m) := hc
    rcases List.mem_or_eq_of_mem_set hc with h1 | h1
    · cases hd : decide (m.1 ≥ 0) with
      | false => rw [hd, cond_false] at h1; exact h.cell c h1
      | true =>
        rw [hd, cond_true] at h1
        rcases List.mem_or_eq_of_mem_set h1 with h2 | h2
        · exact h.cell c h2
        · have := h.r0.t1; omega
    · rw [h1]; unfold pieceV; omega
  · intro c hc
    have hc : c ∈ (bif p.turn == 0 then handA r p m p.2.1.1 else p.2.1.1) := hc
    rcases htn with e | e
    · rw [beq_t e, cond_true] at hc
      rw [if_pos e] at hho
      have hc : c ∈ handK r (cellI p m.2.1) (handD m p.h0) := hc
      rw [← hho] at hc
      exact hK c hc
    · rw [beq_f (by omega), cond_false] at hc; exact h.hand0 c hc
  · intro c hc
    have hc : c ∈ (bif p.turn == 0 then p.2.1.2.1 else handA r p m p.2.1.2.1) := hc
    rcases htn with e | e
    · rw [beq_t e, cond_true] at hc; exact h.hand1 c hc
    · rw [beq_f (by omega), cond_false] at hc
      rw [if_neg (by omega)] at hho
      have hc : c ∈ handK r (cellI p m.2.1) (handD m p.h1) := hc
      rw [← hho] at hc
      exact hK c hc
  · show 1 - p.turn = 0 ∨ 1 - p.turn = 1
    omega
  · show 0 ≤ quietA p m ∧ quietA p m ≤ 200
    unfold quietA
    cases (decide (cellI p m.2.1 > 0) || decide (m.1 < 0))
    · rw [cond_false]; split <;> omega
    · simp
/-! ### the reference -/
def newC (p : Place) (m : Mv) (i : Nat) : Int := bif ((i : Int) == m.2.1) then pieceV p m else bif ((i : Int) == m.1) then 0 else p.1.getD i 0
theorem newC_list {p : Place} {m : Mv} (h1 : -1 ≤ m.1) (h2 : 0 ≤ m.2.1 ∧ m.2.1 < ((p.1.length : Nat) : Int)) : (List.range p.1.length).map (newC p m) = cellsA p m := by
  have hl : (cellsA p m).length = p.1.length := by unfold cellsA; cases decide (m.1 ≥ 0) <;> simp
  apply List.ext_getElem?
  intro i
  by_cases hi : i < p.1.length
  · rw [List.getElem?_map, List.getElem?_range hi, Option.map_some]
    unfold newC cellsA
    have hg : p.1[i]? = some (p.1.getD i 0) := by rw [List.getD_eq_getElem?_getD, List.getElem?_eq_getElem hi]; rfl
    have hl2 : (bif decide (m.1 ≥ 0) then p.1.set m.1.toNat 0 else p.1).length = p.1.length := by cases decide (m.1 ≥ 0) <;> simp
    rw [List.getElem?_set]
    by_cases e : (i : Int) = m.2.1
    · rw [beq_t e, cond_true, if_pos (by omega), if_pos (by rw [hl2]; omega)]
    · rw [beq_f e, cond_false, if_neg (by omega)]
      by_cases c : m.1 ≥ 0
      · rw [show decide (m.1 ≥ 0) = true by simp; omega, cond_true, List.getElem?_set]
        by_cases e2 : (i : Int) = m.1
        · rw [beq_t e2, cond_true, if_pos (by omega), if_pos (by omega)]
        · rw [beq_f e2, cond_false, if_neg (by omega), hg]
      · rw [show decide (m.1 ≥ 0) = false by simp; omega, cond_false, beq_f (by omega), cond_false, hg]
  · rw [List.getElem?_eq_none (by simp; omega), List.getElem?_eq_none (by rw [hl]; omega)]
def newH (r : Rules) (p : Place) (m : Mv) (h : List Int) (i : Nat) : Int :=
  let n := bif (m.1 == -1) && ((i : Int) == m.2.2.1) then h.getD i 0 - 1 else h.getD i 0
  bif ((r.keeps && decide (cellI p m.2.1 > 0)) && ((i : Int) == kindOf (cellI p m.2.1))) && decide (n < 1000) then n + 1 else n
theorem newH_list {r : Rules} {p : Place} {m : Mv} (hv : Valid r p) (ha : allowedB r p m = true) (l : List Int) (hl : l = handOf p) : (List.range l.length).map (newH r p m l) = handA r p m l := by
  obtain ⟨r1, r2, r3⟩ := allowed_rng ha
  have hlen : (handA r p m l).length = l.length := by unfold handA; rw [handK_len, handD_len]
  have hDr : ∀ c ∈ handD m l, 0 ≤ c ∧ c ≤ 1000 := by rw [hl]; exact handD_rng hv ha
  have hDl := handD_len m l
  have hgD : ∀ (xs : List Int) (i : Nat), i < xs.length → xs[i]? = some (xs.getD i 0) := fun xs i hi => by rw [List.getD_eq_getElem?_getD, List.getElem?_eq_getElem hi]; rfl
  have hd : ∀ i, i < l.length → (handD m l).getD i 0 = bif (m.1 == -1) && ((i : Int) == m.2.2.1) then l.getD i 0 - 1 else l.getD i 0 := fun i hi => by
    by_cases c : m.1 ≥ 0
    · have : handD m l = l := by unfold handD; rw [show decide (m.1 ≥ 0) = true by simp; omega]; rfl
      rw [this, beq_f (by omega), Bool.false_and, cond_false]
    · have : handD m l = l.set m.2.2.1.toNat (l.getD m.2.2.1.toNat 0 - 1) := by unfold handD; rw [show decide (m.1 ≥ 0) = false by simp; omega]; rfl
      rw [this, beq_t (by omega), Bool.true_and, List.getD_eq_getElem?_getD, List.getElem?_set]
      by_cases e : (i : Int) = m.2.2.1
      · rw [beq_t e, cond_true, if_pos (by omega), if_pos (by omega), show m.2.2.1.toNat = i by omega]; rfl
      · rw [beq_f e, cond_false, if_neg (by omega), ← List.getD_eq_getElem?_getD]
  apply List.ext_getElem?
  intro i
  by_cases hi : i < l.length
  · rw [List.getElem?_map, List.getElem?_range hi, Option.map_some]
    unfold newH
    simp only
    rw [← hd i hi]
    have hb := getD_rng (by omega) hDr i
    unfold handA
    obtain ⟨D0, hD0⟩ : ∃ D0, handD m l = D0 := ⟨_, rfl⟩
    rw [hD0] at hb hDl ⊢
    unfold handK
    cases hc : decide (cellI p m.2.1 > 0) with
    | false => simp only [Bool.and_false, Bool.false_and, cond_false]; exact (hgD D0 i (by omega)).symm
    | true =>
      have hk := kind_rng hv (of_decide_eq_true hc)
      cases hkp : r.keeps with
      | false => simp only [Bool.and_false, Bool.false_and, cond_false]; exact (hgD D0 i (by omega)).symm
      | true =>
        simp only [Bool.true_and, cond_true]
        rw [List.getElem?_set]
        by_cases e : (i : Int) = kindOf (cellI p m.2.1)
        · have ei : (kindOf (cellI p m.2.1)).toNat = i := by omega
          rw [beq_t e, Bool.true_and, if_pos ei, ei, if_pos (by omega)]
          by_cases c : D0.getD i 0 < 1000
          · rw [show decide (D0.getD i 0 < 1000) = true by simp; simpa using c, cond_true, if_neg (by omega)]
          · rw [show decide (D0.getD i 0 < 1000) = false by simp; simpa using c, cond_false, if_pos (by omega)]
            congr 1; omega
        · rw [beq_f e, Bool.false_and, cond_false, if_neg (by omega), hgD D0 i (by omega)]
  · rw [List.getElem?_eq_none (by simp; omega), List.getElem?_eq_none (by rw [hlen]; omega)]
theorem map_succ {A : Type} (F : Nat → A) (i : Nat) : (List.range (i + 1)).map F = (List.range i).map F ++ [F i] := by rw [List.range_succ, List.map_append]; rfl
end Go.Proofs.YtfppnefcicdnfaaGreat
namespace Go.Proofs.YtfppnefcicdnfaaGreat
open Go.Den
set_option linter.unusedVariables false
set_option linter.unusedSimpArgs false
set_option maxRecDepth 100000

theorem place_eta (p q : Place) (h1 : p.1 = q.1) (h2 : p.2.1.1 = q.2.1.1) (h3 : p.2.1.2.1 = q.2.1.2.1) (h4 : p.2.2.1 = q.2.2.1) (h5 : p.2.2.2.1 = q.2.2.2.1) : p = q := by
  obtain ⟨a, ⟨b, c, ⟨⟩⟩, d, e, ⟨⟩⟩ := p
  obtain ⟨a', ⟨b', c', ⟨⟩⟩, d', e', ⟨⟩⟩ := q
  simp only at h1 h2 h3 h4 h5
  subst h1 h2 h3 h4 h5
  rfl
def handsOf (r : Rules) : List Int := r.2.2.2.1.map fun x => x.2.1
def beginOf (r : Rules) : Place := (r.2.2.2.2.1, (handsOf r, handsOf r, ()), 0, 0, ())
theorem begin_valid {r : Rules} (h : VR0 r) : Valid r (beginOf r) := by
  have hh : ∀ c ∈ handsOf r, 0 ≤ c ∧ c ≤ 1000 := fun c hc => by
    obtain ⟨x, hx, rfl⟩ := List.mem_map.1 hc
    have := h.hand x hx
    omega
  have hl : (handsOf r).length = r.pieces.length := by unfold handsOf; simp
  exact ⟨h, h.start, hl, hl, h.startC, hh, hh, .inl rfl, by show (0 : Int) ≤ 0 ∧ (0 : Int) ≤ 200; omega⟩
theorem map_take {A B : Type} (l : List A) (f : A → B) (i : Nat) (hi : i < l.length) : (l.take (i + 1)).map f = (l.take i).map f ++ [f l[i]] := by
  rw [List.take_succ_eq_append_getElem hi, List.map_append]; rfl
theorem begin_spec (r : Rules) (hr : Rng tyRules r) : placeBegin r = some (if ruleErr r = 0 then (beginOf r, 0, ()) else (([], ([], [], ()), 0, 0, ()), ruleErr r, ())) := by
  unfold placeBegin
  rw [check_spec r hr, Option.bind_some]
  by_cases c : ruleErr r = 0
  · have h := rules_valid c
    have hs : ((r.2.2.2.2.1.length : Nat) : Int) = r.width * r.height := h.start
    have ha := h.area
    have ht : r.2.2.2.1.length ≤ 6 := h.t6
    rw [bne_f c, cond_false, if_pos c, clone_ok _ (by omega), Option.bind_some]
    have hL := iterW_states (f := placeBegin_L1 r) r.2.2.2.1.length (fun i => (((i : Int), ()), ((r.2.2.2.2.1, ((r.2.2.2.1.take i).map (fun x => x.2.1), ((r.2.2.2.1.take i).map (fun x => x.2.1), ((0 : Int), ((0 : Int), ()))))), ()))) ((), ((r.2.2.2.2.1, (handsOf r, (handsOf r, ((0 : Int), ((0 : Int), ()))))), ())) (fun i hi => by
      unfold placeBegin_L1
      simp only [show decide ((i : Int) < ((r.2.2.2.1.length : Nat) : Int)) = true by simp; omega, cond_true]
      rw [at?_eq _ _ (by omega) (by omega), Option.bind_some]
      simp only [Int.toNat_natCast]
      have hroom : ∀ z : Int, room (((r.2.2.2.1.take i).map (fun x => x.2.1)).length + [z].length) 8 = true := fun z => room_ok (by simp; omega)
      simp only [hroom, req_true, agree_self, Option.bind_some]
      rw [w64_id (n := (i : Int) + 1) (by omega) (by omega), map_take _ _ i hi]
      rfl) (by
      unfold placeBegin_L1
      simp only [show decide (((r.2.2.2.1.length : Nat) : Int) < ((r.2.2.2.1.length : Nat) : Int)) = false by simp, cond_false, List.take_length]
      rfl)
    have hL' : iterW (placeBegin_L1 r) (((0 : Int), ()), ((r.2.2.2.2.1, (([] : List Int), (([] : List Int), ((0 : Int), ((0 : Int), ()))))), ())) = _ := hL
    rw [hL', Option.bind_some]
    rfl
  · rw [bne_t c, cond_true, if_neg c]
theorem index_spec (s : List Mv) (v : Mv) (hs : s.length ≤ 1000000000) : slicesContains_Move s v = some (decide (v ∈ s)) := by
  unfold slicesContains_Move slicesIndex_Move
  have hL := iterW_scan s.length (slicesIndex_Move_L1 s v) (fun i => if v = s.getD i d0 then some (.inr (i : Int)) else none) (.inl ((), ())) (fun i hi => by
    unfold slicesIndex_Move_L1
    simp only [show decide ((i : Int) < ((s.length : Nat) : Int)) = true by simp; omega, cond_true]
    rw [at?_eq s _ (by omega) (by omega), Option.bind_some, w64_id (n := (i : Int) + 1) (by omega) (by omega)]
    simp only [Int.toNat_natCast, List.getD_eq_getElem?_getD, List.getElem?_eq_getElem hi, Option.getD_some, mv_beq]
    by_cases e : v = s[i]
    · simp [e]
    · simp [e]) (by unfold slicesIndex_Move_L1; simp)
  rw [hL]
  have key : ∀ k i, i + k = s.length → (Option.bind (Option.bind (some (scan (fun i => if v = s.getD i d0 then some (Sum.inr (i : Int)) else none) (Sum.inl ((), ())) i k)) (Sum.elim (fun _ : Unit × Unit => some (-1 : Int)) some)) fun r2 => some (decide (r2 ≥ (0 : Int)))) = some (decide (v ∈ s.drop i)) := by
    intro k
    induction k with
    | zero =>
      intro i hi
      rw [show i = s.length by omega, List.drop_length]
      simp [scan]
    | succ k ih =>
      intro i hi
      have hil : i < s.length := by omega
      have hmem : (v ∈ s.drop i) ↔ v = s[i] ∨ v ∈ s.drop (i + 1) := by rw [List.drop_eq_getElem_cons hil, List.mem_cons]
      unfold scan
      have hg : s.getD i d0 = s[i] := by simp [List.getD_eq_getElem?_getD, hil]
      by_cases e : v = s[i]
      · rw [decide_eq_true (hmem.2 (.inl e))]
        simp only [hg, if_pos e, Option.bind_some, Sum.elim_inr]
        simp
      · simp only [hg, if_neg e]
        rw [ih (i + 1) (by omega)]
        have h2 : (v ∈ s.drop (i + 1)) ↔ v ∈ s.drop i := ⟨fun h => hmem.2 (.inr h), fun h => (hmem.1 h).resolve_left e⟩
        simp only [h2]
  have := key s.length 0 (by omega)
  simpa using this
theorem movesOf_len {r : Rules} {p : Place} (h : Valid r p) : (movesOf r p).length ≤ 100000 := by
  have h64 := area_len h
  refine Nat.le_trans (flatMap_len _ 384 _ fun i _ => at1_len h i) ?_
  rw [List.length_range]
  omega
end Go.Proofs.YtfppnefcicdnfaaGreat
namespace Go.Proofs.YtfppnefcicdnfaaGreat
open Go.Den
set_option linter.unusedVariables false
set_option linter.unusedSimpArgs false
set_option maxRecDepth 100000

theorem rep_eta (r : Rules) : (r.1, (r.2.1, (r.2.2.1, (r.2.2.2.1, (r.2.2.2.2.1, (r.2.2.2.2.2.1, (r.2.2.2.2.2.2.1, (r.2.2.2.2.2.2.2.1, (r.2.2.2.2.2.2.2.2.1, (r.2.2.2.2.2.2.2.2.2.1, (r.2.2.2.2.2.2.2.2.2.2.1, ()))))))))))) = r := rfl
theorem pl_eta (p : Place) : (p.1, ((p.2.1.1, (p.2.1.2.1, ())), p.2.2)) = p := rfl
theorem gd_eq {A : Type} (xs : List A) (i : Nat) (hi : i < xs.length) (d : A) : getD' xs i d = xs[i] := by simp [getD', hi]
theorem ltd {A : Type} (xs : List A) (i : Nat) (hi : i < xs.length) : decide ((i : Int) < ((xs.length : Nat) : Int)) = true := by simp; omega
theorem nltd {A : Type} (xs : List A) : decide (((xs.length : Nat) : Int) < ((xs.length : Nat) : Int)) = false := by simp
theorem inbN {A : Type} (xs : List A) (i : Nat) (hi : i < xs.length) : inb (i : Int) xs.length = true := inb_iff.2 ⟨by omega, by omega⟩
theorem eq_ints (a b : List Int) (ha : a.length ≤ 1000000000) : slicesEqual_int a b = some (decide (a = b)) := by
  unfold slicesEqual_int
  by_cases hl : a.length = b.length
  · have e : (((a.length : Nat) : Int) != ((b.length : Nat) : Int)) = false := bne_f (by omega)
    rw [e, cond_false]
    have hL := iterW_any (List.range a.length) (fun i => a.getD i 0 != b.getD i 0) (slicesEqual_int_L1 a b) (.inr false) (.inl ((), ())) (fun i hi => by
      have hi' : i < a.length := by simpa using hi
      unfold slicesEqual_int_L1
      simp only [show decide ((i : Int) < ((a.length : Nat) : Int)) = true by simp; omega, cond_true, List.getElem_range]
      rw [at?_eq a _ (by omega) (by omega), at?_eq b _ (by omega) (by omega), Option.bind_some, Option.bind_some, w64_id (n := (i : Int) + 1) (by omega) (by omega)]
      simp only [Int.toNat_natCast, List.getD_eq_getElem?_getD, List.getElem?_eq_getElem hi', List.getElem?_eq_getElem (show i < b.length by omega), Option.getD_some]
      cases (a[i] != b[i]) <;> rfl) (by unfold slicesEqual_int_L1; simp)
    rw [hL]
    cases hany : (List.range a.length).any (fun i => a.getD i 0 != b.getD i 0) with
    | true =>
      rw [List.any_eq_true] at hany
      obtain ⟨i, _, h⟩ := hany
      have : ¬ a = b := fun e => by subst e; simp at h
      simp [this]
    | false =>
      rw [List.any_eq_false] at hany
      have : a = b := by
        apply List.ext_getElem hl
        intro i h1 h2
        have := hany i (List.mem_range.2 h1)
        simpa [List.getD_eq_getElem?_getD, h1, h2] using this
      simp [this]
  · have e : (((a.length : Nat) : Int) != ((b.length : Nat) : Int)) = true := bne_t (by omega)
    rw [e, cond_true]
    have : ¬ a = b := fun h => hl (by rw [h])
    simp [this]
/-- the same position, but for Quiet -/
def same0 (p q : Place) : Bool := ((decide (p.1 = q.1) && decide (p.2.1.1 = q.2.1.1)) && decide (p.2.1.2.1 = q.2.1.2.1)) && (p.2.2.1 == q.2.2.1)
theorem same_spec {r : Rules} {p q : Place} (h : Valid r p) : placeSame p q = some (same0 p q) := by
  have h64 := area_len h
  have t6 := h.r0.t6
  have l0 : p.2.1.1.length = r.pieces.length := h.l0
  have l1 : p.2.1.2.1.length = r.pieces.length := h.l1
  unfold placeSame same0
  rw [eq_ints _ _ (by omega), eq_ints _ _ (by omega), eq_ints _ _ (by omega)]
  have hg : ∀ b c : Bool, gopt b false (some c) = some (b && c) := fun b c => by cases b <;> rfl
  simp only [hg, Option.bind_some, Option.some.injEq]
  cases decide (p.1 = q.1) <;> cases decide (p.2.1.1 = q.2.1.1) <;> cases decide (p.2.1.2.1 = q.2.1.2.1) <;> cases (p.2.2.1 == q.2.2.1) <;> rfl
theorem pcopy_spec {r : Rules} {p : Place} (h : Valid r p) : placeCopy p = some p := by
  have h64 := area_len h
  have t6 := h.r0.t6
  have l0 : p.2.1.1.length = r.pieces.length := h.l0
  have l1 : p.2.1.2.1.length = r.pieces.length := h.l1
  unfold placeCopy
  simp only [agree_self]
  rw [clone_ok _ (by omega), Option.bind_some, clone_ok _ (by omega), Option.bind_some, clone_ok _ (by omega)]
  rfl
theorem clone_ways (s : List (Int × Int × Int × Int × Unit)) (h : s.length ≤ 1000000) : slicesClone_RuleWay s = some s := by
  unfold slicesClone_RuleWay
  have : room (([] : List (Int × Int × Int × Int × Unit)).length + s.length) 32 = true := room_ok (by simp; omega)
  rw [this]
  cases s with
  | nil => simp [req_true, agree_self]
  | cons a l => simp [req_true]
theorem clone_ends (s : List (Int × Int × Int × Bool × Unit)) (h : s.length ≤ 1000000) : slicesClone_RuleEnd s = some s := by
  unfold slicesClone_RuleEnd
  have : room (([] : List (Int × Int × Int × Bool × Unit)).length + s.length) 32 = true := room_ok (by simp; omega)
  rw [this]
  cases s with
  | nil => simp [req_true, agree_self]
  | cons a l => simp [req_true]
theorem rcopy_spec {r : Rules} (h : VR0 r) : rulesCopy r = some r := by
  have t6 : r.2.2.2.1.length ≤ 6 := h.t6
  have e6 : r.2.2.2.2.2.2.2.1.length ≤ 6 := h.ends6
  have hs : ((r.2.2.2.2.1.length : Nat) : Int) = r.width * r.height := h.start
  have ha := h.area
  unfold rulesCopy
  simp only [agree_self]
  have hL := iterW_states (f := rulesCopy_L1 r) r.2.2.2.1.length (fun i => (((i : Int), ()), ((r.1, (r.2.1, (r.2.2.1, (r.2.2.2.1.take i, r.2.2.2.2)))), ()))) ((), ((r.1, (r.2.1, (r.2.2.1, (r.2.2.2.1, r.2.2.2.2)))), ())) (fun i hi => by
    unfold rulesCopy_L1
    simp only [show decide ((i : Int) < ((r.2.2.2.1.length : Nat) : Int)) = true by simp; omega, cond_true]
    rw [at?_eq _ _ (by omega) (by omega), Option.bind_some]
    simp only [Int.toNat_natCast]
    rw [clone_ways _ (by have : r.2.2.2.1[i].2.2.2.1.length ≤ 16 := h.ways _ (List.getElem_mem hi); omega), Option.bind_some]
    have hroom : ∀ z : Piece, room ((r.2.2.2.1.take i).length + [z].length) 48 = true := fun z => room_ok (by simp; omega)
    rw [hroom, req_true, w64_id (n := (i : Int) + 1) (by omega) (by omega), List.take_succ_eq_append_getElem hi]
    rfl) (by
    unfold rulesCopy_L1
    simp only [show decide (((r.2.2.2.1.length : Nat) : Int) < ((r.2.2.2.1.length : Nat) : Int)) = false by simp, cond_false, List.take_length])
  have hL' : iterW (rulesCopy_L1 r) (((0 : Int), ()), ((r.1, (r.2.1, (r.2.2.1, (([] : List Piece), r.2.2.2.2)))), ())) = _ := hL
  rw [hL', Option.bind_some, clone_ok _ (by omega), Option.bind_some, clone_ends _ (by omega)]
  rfl
theorem valid_ok {r : Rules} {p : Place} (c : ruleErr r = 0) (h : Valid r p) : placeErr r p = 0 := by
  unfold placeErr
  rw [if_neg (by simp [c])]
  have h1 : formBad r p = false := by
    unfold formBad
    rw [bne_f h.cells, bne_f (by have := h.l0; omega), bne_f (by have := h.l1; omega)]
    rfl
  have h2 : placeBad r p = false := by
    unfold placeBad
    have a1 : p.cells.any (outC r) = false := by
      rw [List.any_eq_false]
      intro x hx
      have := h.cell x hx
      simp [outC]; omega
    have a2 : (p.h0 ++ p.h1).any outH = false := by
      rw [List.any_eq_false]
      intro x hx
      have : 0 ≤ x ∧ x ≤ 1000 := (List.mem_append.1 hx).elim (h.hand0 x) (h.hand1 x)
      simp [outH]; omega
    have a3 : outT p = false := by
      have hq := h.quiet
      have ht := h.turn
      simp [outT]; omega
    rw [a1, a2, a3]
    rfl
  rw [h1, h2]
  rfl
/-! ### games -/
def dP : Place := ([], (([], ([], ())), ((0 : Int), ((0 : Int), ()))))
def lastP (l : List Place) : Place := getD' l (l.length - 1) dP
/-- how often the last position occurs -/
def timesOf (l : List Place) : Nat := l.countP fun p => same0 p (lastP l)
/-- the result of a game -/
def gameRes (r : Rules) (l : List Place) : Int := bif ((resultOf r (lastP l) == 0) && (r.repeats != 0)) && decide (((timesOf l : Nat) : Int) ≥ r.repeats) then 3 else resultOf r (lastP l)
structure OKG (r : Rules) (s : List Place × List Mv) : Prop where
  ok : ruleErr r = 0
  all : ∀ p ∈ s.1, Valid r p
  len : s.1.length = s.2.length + 1
  most : s.2.length ≤ 400
theorem last_mem {l : List Place} (h : 0 < l.length) : lastP l ∈ l := by
  unfold lastP
  rw [gd_eq l (l.length - 1) (by omega)]
  exact List.getElem_mem _
theorem OKG.last {r : Rules} {s : List Place × List Mv} (h : OKG r s) : Valid r (lastP s.1) := h.all _ (last_mem (by have := h.len; omega))
/-- one more move: its error -/
def stepG (r : Rules) (s : List Place × List Mv) (m : Mv) : Int := if gameRes r s.1 = 0 then if allowedB r (lastP s.1) m = true then if s.2.length = 400 then 9 else 0 else 13 else 14
def nextG (r : Rules) (s : List Place × List Mv) (m : Mv) : List Place × List Mv := (s.1 ++ [afterOf r (lastP s.1) m], s.2 ++ [m])
theorem next_ok {r : Rules} {s : List Place × List Mv} {m : Mv} (h : OKG r s) (c : stepG r s m = 0) : OKG r (nextG r s m) := by
  unfold stepG at c
  by_cases c1 : gameRes r s.1 = 0
  · rw [if_pos c1] at c
    by_cases c2 : allowedB r (lastP s.1) m = true
    · rw [if_pos c2] at c
      by_cases c3 : s.2.length = 400
      · rw [if_pos c3] at c; cases c
      · have hl := h.len
        have hm := h.most
        refine ⟨h.ok, fun p hp => ?_, by unfold nextG; simp; omega, by unfold nextG; simp; omega⟩
        rcases List.mem_append.1 hp with hp | hp
        · exact h.all p hp
        · rw [List.mem_singleton.1 hp]; exact after_valid h.last c2
    · rw [if_neg c2] at c; cases c
  · rw [if_neg c1] at c; cases c
/-- a round of a loop that counts how often the last position occurs -/
noncomputable def cntF (L : List Place) (c i : Int) : Option (((Int × Int × Unit) × Unit) ⊕ ((Int × Unit) × Unit)) :=
  bif (decide (i < ((L.length : Nat) : Int))) then (req (inb i L.length) (Option.bind (req (inb (w64 (((L.length : Nat) : Int) - 1)) L.length) (Option.bind (placeSame (getD' L i.toNat dP) (getD' L (w64 (((L.length : Nat) : Int) - 1)).toNat dP)) fun x => some ((x, ()), ()))) fun x : (Bool × Unit) × Unit =>
    Option.bind (bif x.1.1 then some ((w64 (c + 1), ()), ()) else some ((c, ()), ())) fun y : (Int × Unit) × Unit => some (Sum.inl ((y.1.1, w64 (i + 1), ()), ()))))
  else some (Sum.inr ((c, ()), ()))
theorem w_last {A : Type} {L : List A} (h0 : 0 < L.length) (h : L.length ≤ 1000000000) : w64 (((L.length : Nat) : Int) - 1) = ((L.length - 1 : Nat) : Int) := by
  rw [w64_id (by omega) (by omega)]; omega
theorem cnt_loop {r : Rules} {L : List Place} (hv : ∀ p ∈ L, Valid r p) (h0 : 0 < L.length) (h1 : L.length ≤ 1000000) (f : ((Int × Int × Unit) × Unit) → Option (((Int × Int × Unit) × Unit) ⊕ ((Int × Unit) × Unit)))
    (hf : ∀ c i, f ((c, i, ()), ()) = cntF L c i) : iterW f (((0 : Int), (0 : Int), ()), ()) = some ((((timesOf L : Nat) : Int), ()), ()) := by
  have hw := w_last h0 (by omega)
  have := iter_count L (fun p => same0 p (lastP L)) f (fun c => ((c, ()), ())) (fun i hi c hc0 hc1 => by
    rw [hf]
    unfold cntF
    rw [ltd L i hi, cond_true, inbN L i hi, req_true, hw, inbN L _ (by omega), req_true, Int.toNat_natCast, Int.toNat_natCast, gd_eq L i hi, same_spec (hv _ (List.getElem_mem hi)), Option.bind_some, Option.bind_some]
    show Option.bind (bif same0 L[i] (lastP L) then _ else _) _ = _
    rw [w64_id (n := c + 1) (by omega) (by omega), w64_id (n := (i : Int) + 1) (by omega) (by omega)]
    cases same0 L[i] (lastP L) <;> rfl) (fun c => by
    rw [hf]
    unfold cntF
    rw [nltd, cond_false])
  rw [this]
  rfl
abbrev Game := Rules × List Place × List Mv × Unit
theorem atP {L : List Place} (h0 : 0 < L.length) : at? L ((L.length - 1 : Nat) : Int) = some (lastP L) := by
  rw [at?_eq _ _ (by omega) (by omega)]
  unfold lastP
  rw [gd_eq L _ (by omega)]
  simp
/-- the methods of games that only read -/
theorem gcount_spec {r : Rules} {s : List Place × List Mv} (h : OKG r s) : plainGameCount (r, (s.1, (s.2, ()))) = some ((timesOf s.1 : Nat) : Int) := by
  obtain ⟨l, ms⟩ := s
  have hl : l.length = ms.length + 1 := h.len
  have hm : ms.length ≤ 400 := h.most
  have hw := w_last (L := l) (by omega) (by omega)
  have := iter_count l (fun p => same0 p (lastP l)) (plainGameCount_L1 (r, (l, (ms, ())))) (fun c => ((c, ()), ())) (fun i hi c hc0 hc1 => by
    unfold plainGameCount_L1
    simp only [agree_self]
    rw [ltd l i hi, cond_true, at?_eq l _ (by omega) (by omega), Option.bind_some, hw, atP (by omega), Option.bind_some]
    simp only [Int.toNat_natCast]
    rw [same_spec (h.all _ (List.getElem_mem hi)), Option.bind_some, Option.bind_some]
    show Option.bind (bif same0 l[i] (lastP l) then _ else _) _ = _
    rw [w64_id (n := c + 1) (by omega) (by omega), w64_id (n := (i : Int) + 1) (by omega) (by omega)]
    cases same0 l[i] (lastP l) <;> rfl) (fun c => by
    unfold plainGameCount_L1
    simp only
    rw [nltd, cond_false])
  unfold plainGameCount
  rw [this]
  rfl
theorem gresult_spec {r : Rules} {s : List Place × List Mv} (h : OKG r s) : plainGameResult (r, (s.1, (s.2, ()))) = some (gameRes r s.1) := by
  have hl := h.len
  have hm := h.most
  have hw := w_last (L := s.1) (by omega) (by omega)
  have hrep : r.2.2.2.2.2.2.2.2.2.2.1 = r.repeats := rfl
  unfold plainGameResult
  simp only [agree_self, hw, atP (show 0 < s.1.length by omega), result_spec h.last, Option.bind_some, gcount_spec h, hrep]
  unfold gameRes
  cases hc : ((resultOf r (lastP s.1) == 0) && (r.repeats != 0)) with
  | true =>
    simp only [gopt, cond_true, Option.bind_some, Bool.true_and]
    cases decide (((timesOf s.1 : Nat) : Int) ≥ r.repeats) <;> rfl
  | false => rfl
theorem gposition_spec {r : Rules} {s : List Place × List Mv} (h : OKG r s) : plainGamePosition (r, (s.1, (s.2, ()))) = some (lastP s.1) := by
  have hl := h.len
  have hm := h.most
  have hw := w_last (L := s.1) (by omega) (by omega)
  unfold plainGamePosition
  simp only [hw, atP (show 0 < s.1.length by omega), pcopy_spec h.last, Option.bind_some, pl_eta]
theorem play_spec {r : Rules} {s : List Place × List Mv} (h : OKG r s) (m : Mv) : plainGamePlay (r, (s.1, (s.2, ()))) m = some (if stepG r s m = 0 then ((r, ((nextG r s m).1, ((nextG r s m).2, ()))), 0) else ((r, (s.1, (s.2, ()))), stepG r s m)) := by
  obtain ⟨l, ms⟩ := s
  have hl : l.length = ms.length + 1 := h.len
  have hm : ms.length ≤ 400 := h.most
  have hv := h.last
  simp only at hv
  have hw := w_last (L := l) (by omega) (by omega)
  have hi := inbN l (l.length - 1) (by omega)
  have hla : getD' l (l.length - 1) (([], (([], ([], ())), ((0 : Int), ((0 : Int), ())))) : Place) = lastP l := rfl
  have hres := gresult_spec h
  simp only at hres
  unfold plainGamePlay
  simp only [agree_self, hw, hi, req_true, Int.toNat_natCast, hla, hres, Option.bind_some]
  unfold stepG
  by_cases c1 : gameRes r l = 0
  · rw [bne_f c1, cond_false]
    simp only [if_pos c1]
    rw [list_spec hv, Option.bind_some, index_spec _ _ (by have := movesOf_len hv; omega), Option.bind_some, Option.bind_some]
    have hmem : decide (m ∈ movesOf r (lastP l)) = allowedB r (lastP l) m := by rw [Bool.eq_iff_iff, decide_eq_true_eq, movesOf_mem]
    rw [hmem]
    by_cases c2 : allowedB r (lastP l) m = true
    · simp only [if_pos c2]
      rw [c2, Bool.not_true, cond_false]
      by_cases c3 : ms.length = 400
      · rw [beq_t (by omega), cond_true]
        simp only [if_pos c3]
        rfl
      · rw [beq_f (by omega), cond_false, make_spec hv c2, Option.bind_some]
        simp only [if_neg c3, if_true]
        have hroom : ∀ z : Place, room (l.length + [z].length) 88 = true := fun z => room_ok (by simp; omega)
        have hroom2 : room (ms.length + [m].length) 24 = true := room_ok (by simp; omega)
        rw [hroom, req_true, Option.bind_some]
        simp only
        rw [hroom2, req_true]
        rfl
    · simp only [if_neg c2]
      rw [show allowedB r (lastP l) m = false by simpa using c2]
      rfl
  · rw [bne_t c1, cond_true]
    simp only [if_neg c1]
    rfl
/-- moves, one after the other -/
def runG (r : Rules) : List Mv → List Place × List Mv → (List Place × List Mv) ⊕ Int
  | [], s => .inl s
  | m :: k, s => if stepG r s m = 0 then runG r k (nextG r s m) else .inr (stepG r s m)
theorem run_ok {r : Rules} : ∀ (k : List Mv) (s s' : List Place × List Mv), OKG r s → runG r k s = .inl s' → OKG r s' ∧ s'.2 = s.2 ++ k
  | [], s, s', h, e => by cases e; exact ⟨h, by simp⟩
  | m :: k, s, s', h, e => by
    unfold runG at e
    split at e
    · rename_i c
      obtain ⟨a, b⟩ := run_ok k _ _ (next_ok h c) e
      refine ⟨a, ?_⟩
      rw [b]
      unfold nextG
      simp
    · cases e
def flG (g : Game) : ByteArray × Int × Int × (List (Int × Int × Int × (List (Int × Int × Int × Int × Unit)) × Unit)) × (List Int) × Bool × Bool × (List (Int × Int × Int × Bool × Unit)) × Int × Int × Int × (List Place) × (List Mv) × Unit :=
  (g.1.1, (g.1.2.1, (g.1.2.2.1, (g.1.2.2.2.1, (g.1.2.2.2.2.1, (g.1.2.2.2.2.2.1, (g.1.2.2.2.2.2.2.1, (g.1.2.2.2.2.2.2.2.1, (g.1.2.2.2.2.2.2.2.2.1, (g.1.2.2.2.2.2.2.2.2.2.1, (g.1.2.2.2.2.2.2.2.2.2.2.1, (g.2.1, (g.2.2.1, ())))))))))))))
def gm (r : Rules) (s : List Place × List Mv) : Game := (r, (s.1, (s.2, ())))
/-- a loop over moves that plays them -/
theorem play_loop {r : Rules} {T R : Type} (l : List Mv) (hlen : l.length ≤ 1000000000) (f : T → Option (T ⊕ R)) (st : Int → Game → T) (bad : Int → R) (fin : List Place × List Mv → R)
    (hf : ∀ i s, f (st i (gm r s)) = bif (decide (i < ((l.length : Nat) : Int))) then (Option.bind (at? l i) fun m => Option.bind (plainGamePlay (r, (s.1, (s.2, ()))) m) fun x => bif (x.2 != 0) then some (.inr (bad x.2)) else some (.inl (st (w64 (i + 1)) x.1))) else some (.inr (fin s))) :
    ∀ (k : Nat) (i : Nat) (s : List Place × List Mv), i + k = l.length → OKG r s → iterW f (st (i : Int) (gm r s)) = some (match runG r (l.drop i) s with
      | .inl s' => fin s'
      | .inr e => bad e)
  | 0, i, s, hi, h => by
    have : i = l.length := by omega
    subst this
    refine iterW_inr ?_
    rw [hf, nltd, cond_false, List.drop_length]
    rfl
  | k + 1, i, s, hi, h => by
    have hil : i < l.length := by omega
    have hL := hf (i : Int) s
    rw [ltd l i hil, cond_true, at?_eq l _ (by omega) (by omega), Option.bind_some, play_spec h, Option.bind_some] at hL
    simp only [Int.toNat_natCast] at hL
    rw [List.drop_eq_getElem_cons hil]
    unfold runG
    by_cases c : stepG r s l[i] = 0
    · rw [if_pos c] at hL
      simp only [bne_self_eq_false, cond_false] at hL
      rw [w64_id (by omega) (by omega)] at hL
      rw [iterW_inl hL, if_pos c]
      exact play_loop l hlen f st bad fin hf k (i + 1) _ (by omega) (next_ok h c)
    · rw [if_neg c] at hL
      simp only [bne_t c, cond_true] at hL
      rw [iterW_inr hL, if_neg c]
theorem begin_okG {r : Rules} (c : ruleErr r = 0) : OKG r ([beginOf r], []) := ⟨c, fun p hp => by rw [List.mem_singleton.1 hp]; exact begin_valid (rules_valid c), rfl, by simp⟩
/-- a game out of the moves of its beginning -/
def gameOf (r : Rules) (l : List Mv) : (List Place × List Mv) ⊕ Int := runG r l ([beginOf r], [])
abbrev FlP := List Int × List Int × List Int × Int × Int × Unit
def flp (p : Place) : FlP := (p.1, (p.2.1.1, (p.2.1.2.1, p.2.2)))
def runRes (r : Rules) (l : List Mv) : Place × Int × Int × Unit := if ruleErr r = 0 then (match gameOf r l with
    | .inl s => (lastP s.1, (gameRes r s.1, (0, ())))
    | .inr e => (dP, (0, (e, ())))) else (dP, (0, (ruleErr r, ())))
theorem run_spec (r : Rules) (l : List Mv) (hr : Rng tyRules r) (hl : l.length ≤ 1000000000) : plainRun r l = some (runRes r l) := by
  unfold plainRun runRes
  rw [begin_spec r hr, Option.bind_some]
  by_cases c : ruleErr r = 0
  · simp only [if_pos c]
    rw [show ((0 : Int) != 0) = false from rfl, cond_false]
    simp only [agree_self]
    rw [rcopy_spec (rules_valid c), Option.bind_some]
    have hP := play_loop (r := r) l hl (plainRun_L2 l) (fun i g => ((i, ()), (flp dP, (flG g, ())))) (fun e => .inr (dP, (0, (e, ())))) (fun s => .inl ((), (flp dP, (flG (gm r s), ()))))
      (fun i s => by rfl) l.length 0 ([beginOf r], []) (by omega) (begin_okG c)
    rw [List.drop_zero] at hP
    have hP' : iterW (plainRun_L2 l) (((0 : Int), ()), ((([] : List Int), (([] : List Int), (([] : List Int), ((0 : Int), ((0 : Int), ()))))), (r.1, (r.2.1, (r.2.2.1, (r.2.2.2.1, (r.2.2.2.2.1, (r.2.2.2.2.2.1, (r.2.2.2.2.2.2.1, (r.2.2.2.2.2.2.2.1, (r.2.2.2.2.2.2.2.2.1, (r.2.2.2.2.2.2.2.2.2.1, (r.2.2.2.2.2.2.2.2.2.2.1, ([((beginOf r).1, (((beginOf r).2.1.1, ((beginOf r).2.1.2.1, ())), (beginOf r).2.2))], (([] : List Mv), ()))))))))))))), ())) = _ := hP
    try simp only [Option.bind_some, bne_self_eq_false, cond_false]
    rw [hP', Option.bind_some]
    unfold gameOf
    cases hg : runG r l ([beginOf r], []) with
    | inr e => rfl
    | inl s =>
      have hok := (run_ok l _ _ (begin_okG c) hg).1
      simp only [Sum.elim_inl]
      change Option.bind (plainGamePosition (r, (s.1, (s.2, ())))) (fun r16 => Option.bind (plainGameResult (r, (s.1, (s.2, ())))) fun r17 => some ((r16.1, ((r16.2.1.1, (r16.2.1.2.1, ())), r16.2.2)), (r17, ((0 : Int), ())))) = _
      rw [gposition_spec hok, Option.bind_some, gresult_spec hok, Option.bind_some]
  · simp only [if_neg c]
    rw [bne_t c, cond_true, cond_true]
    rfl
end Go.Proofs.YtfppnefcicdnfaaGreat
namespace Go.Proofs.YtfppnefcicdnfaaGreat
open Go.Den
set_option linter.unusedVariables false
set_option linter.unusedSimpArgs false
set_option maxRecDepth 100000

theorem all_spec (r : Rules) (p : Place) (hr : Rng tyRules r) (hn : p.1.length ≤ 9223372036854775807) : movesAll r p = some (if placeErr r p = 0 then movesOf r p else [], placeErr r p, ()) := by
  unfold movesAll
  rw [place_spec r p hr hn, Option.bind_some]
  by_cases c : placeErr r p = 0
  · rw [bne_f c, cond_false, if_pos c, list_spec (valid_of c), c]; rfl
  · rw [bne_t c, cond_true, if_neg c]
theorem legal_spec (r : Rules) (p : Place) (m : Mv) (hr : Rng tyRules r) (hn : p.1.length ≤ 9223372036854775807) : movesLegal r p m = some (if placeErr r p = 0 then allowedB r p m else false, placeErr r p, ()) := by
  unfold movesLegal
  rw [all_spec r p hr hn, Option.bind_some]
  by_cases c : placeErr r p = 0
  · have hv := valid_of c
    simp only [if_pos c]
    rw [index_spec _ _ (by have := movesOf_len hv; omega), Option.bind_some]
    have : decide (m ∈ movesOf r p) = allowedB r p m := by
      rw [Bool.eq_iff_iff, decide_eq_true_eq, movesOf_mem]
    rw [this]
  · simp only [if_neg c]
    rw [index_spec _ _ (by simp)]
    simp
def emptyP : Place := ([], ([], [], ()), 0, 0, ())
theorem after_spec (r : Rules) (p : Place) (m : Mv) (hr : Rng tyRules r) (hn : p.1.length ≤ 9223372036854775807) : movesAfter r p m = some (if placeErr r p = 0 then if allowedB r p m = true then (afterOf r p m, 0, ()) else (emptyP, 13, ()) else (emptyP, placeErr r p, ())) := by
  unfold movesAfter
  rw [legal_spec r p m hr hn, Option.bind_some]
  by_cases c : placeErr r p = 0
  · have hv := valid_of c
    simp only [if_pos c]
    rw [c, show ((0 : Int) != 0) = false from rfl, cond_false]
    cases ha : allowedB r p m with
    | false => rfl
    | true =>
      rw [Bool.not_true, cond_false, make_spec hv ha, Option.bind_some]
      rfl
  · simp only [if_neg c]
    rw [bne_t c, cond_true]
    rfl
end Go.Proofs.YtfppnefcicdnfaaGreat
namespace Go.Proofs.YtfppnefcicdnfaaGreat
open Go.Den
set_option linter.unusedVariables false
set_option linter.unusedSimpArgs false
set_option maxRecDepth 100000

theorem endsOf_spec (r : Rules) (p : Place) (hr : Rng tyRules r) (hn : p.1.length ≤ 9223372036854775807) : endsOf r p = some (if placeErr r p = 0 then resultOf r p else 0, placeErr r p, ()) := by
  unfold endsOf
  rw [place_spec r p hr hn, Option.bind_some]
  by_cases c : placeErr r p = 0
  · rw [bne_f c, cond_false, if_pos c, result_spec (valid_of c), c]; rfl
  · rw [bne_t c, cond_true, if_neg c]
/-! ### claims -/
def repRes (r : Rules) (l : List Mv) : Int × Int × Unit := if ruleErr r = 0 then (match gameOf r l with
    | .inl s => (((timesOf s.1 : Nat) : Int), (0, ()))
    | .inr e => (0, (e, ()))) else (0, (ruleErr r, ()))
def quietRes (r : Rules) (l : List Mv) : Int × Int × Unit := ((runRes r l).1.quiet, (runRes r l).2.2)
theorem tic_rng : Rng tyRules law3Tic := rngB_ok _ _ (by decide +kernel)
theorem tic_ok : ruleErr law3Tic = 0 := by decide +kernel
/-! ### the reference -/
theorem times_L1 (L : List Place) (h0 : 0 < L.length) (h1 : L.length ≤ 1000000) (hv : ∀ r' : Unit, True) (i : Nat) (c : Int) : ref3Times_L1 L ((c, (i : Int), ()), ()) = cntF L c (i : Int) := by
  have e : ref3Times_L1 L ((c, (i : Int), ()), ()) = bif (decide ((i : Int) < ((L.length : Nat) : Int))) then (Option.bind (at? L (i : Int)) fun a => Option.bind (at? L (w64 (((L.length : Nat) : Int) - 1))) fun b => Option.bind (placeSame a b) fun x => Option.bind (bif x then some ((w64 (c + 1), ()), ()) else some ((c, ()), ())) fun y : (Int × Unit) × Unit => some (Sum.inl ((y.1.1, w64 ((i : Int) + 1), ()), ()))) else some (Sum.inr ((c, ()), ())) := rfl
  rw [e]
  unfold cntF
  have hw := w_last h0 (by omega)
  by_cases hi : i < L.length
  · rw [ltd L i hi, cond_true, cond_true, hw, inbN L i hi, inbN L _ (by omega), req_true, req_true]
    rw [at?_eq L _ (by omega) (by omega), at?_eq L ((L.length - 1 : Nat) : Int) (by omega) (by omega), Option.bind_some, Option.bind_some]
    simp only [Int.toNat_natCast]
    rw [gd_eq L i hi, gd_eq L _ (by omega)]
    cases placeSame L[i] (L[L.length - 1]'(by omega)) <;> rfl
  · rw [decide_eq_false (by omega), cond_false, cond_false]
theorem times3_spec {r : Rules} {L : List Place} (hv : ∀ p ∈ L, Valid r p) (h0 : 0 < L.length) (h1 : L.length ≤ 1000000) : ref3Times L = some ((timesOf L : Nat) : Int) := by
  have hw := w_last h0 (by omega)
  unfold ref3Times
  have := iter_count L (fun p => same0 p (lastP L)) (ref3Times_L1 L) (fun c => ((c, ()), ())) (fun i hi c hc0 hc1 => by
    rw [times_L1 L h0 h1 (fun _ => trivial)]
    unfold cntF
    rw [ltd L i hi, cond_true, inbN L i hi, req_true, hw, inbN L _ (by omega), req_true, Int.toNat_natCast, Int.toNat_natCast, gd_eq L i hi, same_spec (hv _ (List.getElem_mem hi)), Option.bind_some, Option.bind_some]
    show Option.bind (bif same0 L[i] (lastP L) then _ else _) _ = _
    rw [w64_id (n := c + 1) (by omega) (by omega), w64_id (n := (i : Int) + 1) (by omega) (by omega)]
    cases same0 L[i] (lastP L) <;> rfl) (fun c => by
    rw [times_L1 L h0 h1 (fun _ => trivial)]
    unfold cntF
    rw [nltd, cond_false])
  rw [this]
  rfl
theorem res3_spec {r : Rules} {L : List Place} (c : ruleErr r = 0) (hr : Rng tyRules r) (hv : ∀ p ∈ L, Valid r p) (h0 : 0 < L.length) (h1 : L.length ≤ 1000000) : ref3Result r L = some (gameRes r L) := by
  have hw := w_last h0 (by omega)
  have hl := hv _ (last_mem h0)
  have h64 := area_len hl
  have hrep := (rules_valid c).repeats
  unfold ref3Result
  rw [hw, at?_eq L _ (by omega) (by omega), Option.bind_some]
  simp only [Int.toNat_natCast]
  have hla : L[L.length - 1]'(by omega) = lastP L := by unfold lastP; rw [gd_eq L (L.length - 1) (by omega)]
  rw [hla, endsOf_spec r _ hr (by omega), valid_ok c hl, Option.bind_some, times3_spec hv h0 h1]
  unfold gameRes
  simp only [if_true, beq_self_eq_true, Bool.true_and]
  have hq : decide (r.2.2.2.2.2.2.2.2.2.2.1 > 0) = (r.repeats != 0) := by
    rw [Bool.eq_iff_iff]
    simp only [decide_eq_true_eq, bne_iff_ne]
    show r.repeats > 0 ↔ r.repeats ≠ 0
    omega
  rw [hq]
  show Option.bind (gopt ((resultOf r (lastP L) == 0) && (r.repeats != 0)) 0 (some ((timesOf L : Nat) : Int))) (fun x => bif ((resultOf r (lastP L) == 0) && (r.repeats != 0)) && decide (x ≥ r.repeats) then some 3 else some (resultOf r (lastP L))) = _
  cases ((resultOf r (lastP L) == 0) && (r.repeats != 0)) with
  | false => rfl
  | true =>
    simp only [gopt, cond_true, Option.bind_some, Bool.true_and]
    cases decide (((timesOf L : Nat) : Int) ≥ r.repeats) <;> rfl
def placesRes (r : Rules) (l : List Mv) : List Place × Int × Unit := if ruleErr r = 0 then (match gameOf r l with
    | .inl s => (s.1, (0, ()))
    | .inr e => ([], (e, ()))) else ([], (ruleErr r, ()))
theorem places_L1 (l : List Mv) (r : Rules) (ps : List Place) (i : Int) : ref3Places_L1 l r ((ps, i, ()), ()) = bif (decide (i < ((l.length : Nat) : Int))) then (Option.bind (at? l i) fun m => Option.bind (ref3Result r ps) fun x => bif (x != 0) then some (Sum.inr (Sum.inr (([] : List Place), (14, ()))))
    else req (inb (w64 (((ps.length : Nat) : Int) - 1)) ps.length) (Option.bind (movesAfter r (getD' ps (w64 (((ps.length : Nat) : Int) - 1)).toNat dP) m) fun z => bif (z.2.1 != 0) then some (Sum.inr (Sum.inr (([] : List Place), (13, ())))) else bif (decide (((ps.length : Nat) : Int) > 400)) then some (Sum.inr (Sum.inr (([] : List Place), (9, ()))))
      else req (room (ps.length + 1) 88) (some (Sum.inl ((ps ++ [z.1], w64 (i + 1), ()), ())))))
    else some (Sum.inr (Sum.inl ((ps, ()), ()))) := by
  unfold ref3Places_L1
  simp only [agree_self]
  first
  | rfl
  | cases decide (i < ((l.length : Nat) : Int)) with
    | false => rfl
    | true =>
      simp only [cond_true]
      congr 1
      funext m
      congr 1
      funext x
      cases (x != 0) with
      | true => rfl
      | false =>
        simp only [cond_false]
        cases inb (w64 (((ps.length : Nat) : Int) - 1)) ps.length with
        | false => rfl
        | true =>
          simp only [req_true]
          show Option.bind (Option.bind (movesAfter r (getD' ps (w64 (((ps.length : Nat) : Int) - 1)).toNat dP) m) _) _ = _
          cases movesAfter r (getD' ps (w64 (((ps.length : Nat) : Int) - 1)).toNat dP) m <;> rfl
theorem places_iter {r : Rules} (hr : Rng tyRules r) (l : List Mv) (hlen : l.length ≤ 1000000000) : ∀ (k : Nat) (i : Nat) (s : List Place × List Mv), i + k = l.length → OKG r s → iterW (ref3Places_L1 l r) ((s.1, (i : Int), ()), ()) = some (match runG r (l.drop i) s with
      | .inl s' => .inl ((s'.1, ()), ())
      | .inr e => .inr (([] : List Place), (e, ())))
  | 0, i, s, hi, h => by
    have : i = l.length := by omega
    subst this
    refine iterW_inr ?_
    rw [places_L1, nltd, cond_false, List.drop_length]
    rfl
  | k + 1, i, s, hi, h => by
    have hil : i < l.length := by omega
    have hl := h.len
    have hm := h.most
    have hv := h.last
    have h64 := area_len hv
    have hw := w_last (L := s.1) (by omega) (by omega)
    have hL := places_L1 l r s.1 (i : Int)
    rw [ltd l i hil, cond_true, at?_eq l _ (by omega) (by omega), Option.bind_some, res3_spec h.ok hr h.all (by omega) (by omega), Option.bind_some, hw, inbN s.1 _ (by omega), req_true] at hL
    simp only [Int.toNat_natCast] at hL
    have hla : getD' s.1 (s.1.length - 1) dP = lastP s.1 := rfl
    rw [hla, after_spec r _ _ hr (by omega), if_pos (valid_ok h.ok hv), Option.bind_some] at hL
    rw [List.drop_eq_getElem_cons hil]
    unfold runG
    by_cases c1 : gameRes r s.1 = 0
    · rw [bne_f c1, cond_false] at hL
      by_cases c2 : allowedB r (lastP s.1) l[i] = true
      · rw [if_pos c2] at hL
        simp only [bne_self_eq_false, cond_false] at hL
        by_cases c3 : s.2.length = 400
        · have e : stepG r s l[i] = 9 := by unfold stepG; rw [if_pos c1, if_pos c2, if_pos c3]
          rw [decide_eq_true (by omega), cond_true] at hL
          rw [iterW_inr hL, e, if_neg (by decide)]
        · have e : stepG r s l[i] = 0 := by unfold stepG; rw [if_pos c1, if_pos c2, if_neg c3]
          rw [decide_eq_false (by omega), cond_false, room_ok (n := s.1.length + 1) (by omega), req_true, w64_id (by omega) (by omega)] at hL
          rw [iterW_inl hL, if_pos e]
          exact places_iter hr l hlen k (i + 1) (nextG r s l[i]) (by omega) (next_ok h e)
      · have e : stepG r s l[i] = 13 := by unfold stepG; rw [if_pos c1, if_neg c2]
        rw [if_neg c2] at hL
        simp only [bne_t (show ¬ (13 : Int) = 0 by decide), cond_true] at hL
        rw [iterW_inr hL, e, if_neg (by decide)]
    · have e : stepG r s l[i] = 14 := by unfold stepG; rw [if_neg c1]
      rw [bne_t c1, cond_true] at hL
      rw [iterW_inr hL, e, if_neg (by decide)]
theorem places_spec (r : Rules) (l : List Mv) (hr : Rng tyRules r) (hl : l.length ≤ 1000000000) : ref3Places r l = some (placesRes r l) := by
  unfold ref3Places placesRes
  rw [begin_spec r hr, Option.bind_some]
  by_cases c : ruleErr r = 0
  · simp only [if_pos c]
    rw [show ((0 : Int) != 0) = false from rfl, cond_false]
    have hP := places_iter hr l hl l.length 0 ([beginOf r], []) (by omega) (begin_okG c)
    rw [List.drop_zero] at hP
    have hP' : iterW (ref3Places_L1 l r) ((([((beginOf r).1, (((beginOf r).2.1.1, ((beginOf r).2.1.2.1, ())), (beginOf r).2.2))]), (0 : Int), ()), ()) = _ := hP
    rw [hP', Option.bind_some]
    unfold gameOf
    cases runG r l ([beginOf r], []) <;> rfl
  · simp only [if_neg c]
    rw [bne_t c, cond_true]
end Go.Proofs.YtfppnefcicdnfaaGreat
namespace Go.Proofs.YtfppnefcicdnfaaGreat
open Go.Den
set_option linter.unusedVariables false
set_option linter.unusedSimpArgs false
set_option maxRecDepth 100000

abbrev BE := Int × Mv × Int × Unit
abbrev dBE : BE := (0, ((0, (0, (0, ()))), (0, ())))
def bc3 (a b : Int) : Int := if a < b then -1 else if b < a then 1 else 0
theorem bc3_0 (a b : Int) : bc3 a b = 0 ↔ a = b := by
  unfold bc3
  split
  · constructor <;> intro h <;> omega
  · split <;> constructor <;> intro h <;> omega
theorem bc3_lt (a b : Int) : bc3 a b < 0 ↔ a < b := by
  unfold bc3
  split
  · constructor <;> intro h <;> omega
  · split <;> constructor <;> intro h <;> omega
theorem bcmp_eq (a b : Int) : cmpCompare_int a b = bc3 a b := by
  unfold cmpCompare_int cmpIsNaN_int bc3
  by_cases h : a < b
  · simp [h]
  · by_cases h2 : b < a <;> simp [h, h2]
theorem bcmpu_eq (a b : Int) : cmpCompare_uint64 a b = bc3 a b := by
  unfold cmpCompare_uint64 cmpIsNaN_uint64 bc3
  by_cases h : a < b
  · simp [h]
  · by_cases h2 : b < a <;> simp [h, h2]
theorem bor_spec (a b c d : Int) : cmpOr_int [a, b, c, d] = some (if a = 0 then if b = 0 then if c = 0 then d else c else b else a) := by
  unfold cmpOr_int
  by_cases ha : a = 0
  · subst ha
    rw [iterW_inl (y := ((1, ()), ())) (by simp [cmpOr_int_L1, at?, w64_id])]
    by_cases hb : b = 0
    · subst hb
      rw [iterW_inl (y := ((2, ()), ())) (by simp [cmpOr_int_L1, at?, w64_id])]
      by_cases hc : c = 0
      · subst hc
        rw [iterW_inl (y := ((3, ()), ())) (by simp [cmpOr_int_L1, at?, w64_id])]
        by_cases hd : d = 0
        · subst hd
          rw [iterW_inl (y := ((4, ()), ())) (by simp [cmpOr_int_L1, at?, w64_id])]
          rw [iterW_inr (r := .inl ((), ())) (by simp [cmpOr_int_L1])]
          rfl
        · rw [iterW_inr (r := .inr d) (by simp [cmpOr_int_L1, at?, bne_t hd])]
          simp
      · rw [iterW_inr (r := .inr c) (by simp [cmpOr_int_L1, at?, bne_t hc])]
        simp [hc]
    · rw [iterW_inr (r := .inr b) (by simp [cmpOr_int_L1, at?, bne_t hb])]
      simp [hb]
  · rw [iterW_inr (r := .inr a) (by simp [cmpOr_int_L1, at?, bne_t ha])]
    simp [ha]
def ltE (a b : BE) : Bool := decide (a.1 < b.1) || (a.1 == b.1 && mvLt a.2.1 b.2.1)
def keyE (a : BE) : Int × Mv := (a.1, a.2.1)
def ordE (a b : BE) : Int := if bc3 a.1 b.1 = 0 then if bc3 a.2.1.1 b.2.1.1 = 0 then if bc3 a.2.1.2.1 b.2.1.2.1 = 0 then bc3 a.2.1.2.2.1 b.2.1.2.2.1 else bc3 a.2.1.2.1 b.2.1.2.1 else bc3 a.2.1.1 b.2.1.1 else bc3 a.1 b.1
theorem order_spec (a b : BE) : bookOrder a b = some (ordE a b) := by
  unfold bookOrder ordE
  rw [bcmpu_eq, bcmp_eq, bcmp_eq, bcmp_eq, bor_spec]
  rfl
theorem ltE_iff (a b : BE) : ltE a b = true ↔ a.1 < b.1 ∨ a.1 = b.1 ∧ (a.2.1.1 < b.2.1.1 ∨ a.2.1.1 = b.2.1.1 ∧ (a.2.1.2.1 < b.2.1.2.1 ∨ a.2.1.2.1 = b.2.1.2.1 ∧ a.2.1.2.2.1 < b.2.1.2.2.1)) := by simp [ltE, mvLt]
theorem ltE_f (a b : BE) : ltE a b = false ↔ ¬ (a.1 < b.1 ∨ a.1 = b.1 ∧ (a.2.1.1 < b.2.1.1 ∨ a.2.1.1 = b.2.1.1 ∧ (a.2.1.2.1 < b.2.1.2.1 ∨ a.2.1.2.1 = b.2.1.2.1 ∧ a.2.1.2.2.1 < b.2.1.2.2.1))) := by rw [← ltE_iff, Bool.not_eq_true]
theorem keyE_iff (a b : BE) : keyE a = keyE b ↔ a.1 = b.1 ∧ a.2.1.1 = b.2.1.1 ∧ a.2.1.2.1 = b.2.1.2.1 ∧ a.2.1.2.2.1 = b.2.1.2.2.1 := by
  unfold keyE
  simp only [Prod.mk.injEq]
  constructor
  · rintro ⟨h1, h2⟩; exact ⟨h1, by rw [h2], by rw [h2], by rw [h2]⟩
  · rintro ⟨h1, h2, h3, h4⟩; exact ⟨h1, mv_eq h2 h3 h4⟩
theorem ord_lt (a b : BE) : decide (ordE a b < 0) = ltE a b := by
  rw [Bool.eq_iff_iff, ltE_iff, decide_eq_true_eq]
  unfold ordE
  simp only [bc3_0]
  by_cases h1 : a.1 = b.1
  · rw [if_pos h1]
    by_cases h2 : a.2.1.1 = b.2.1.1
    · rw [if_pos h2]
      by_cases h3 : a.2.1.2.1 = b.2.1.2.1
      · rw [if_pos h3, bc3_lt]; omega
      · rw [if_neg h3, bc3_lt]; omega
    · rw [if_neg h2, bc3_lt]; omega
  · rw [if_neg h1, bc3_lt]; omega
theorem ord_0 (a b : BE) : (ordE a b == 0) = decide (keyE a = keyE b) := by
  rw [Bool.eq_iff_iff, decide_eq_true_eq, keyE_iff, beq_iff_eq]
  unfold ordE
  simp only [bc3_0]
  by_cases h1 : a.1 = b.1
  · rw [if_pos h1]
    by_cases h2 : a.2.1.1 = b.2.1.1
    · rw [if_pos h2]
      by_cases h3 : a.2.1.2.1 = b.2.1.2.1
      · rw [if_pos h3, bc3_0]
        exact ⟨fun h => ⟨h1, h2, h3, h⟩, fun h => h.2.2.2⟩
      · rw [if_neg h3, bc3_0]
        exact ⟨fun h => absurd h h3, fun h => h.2.2.1⟩
    · rw [if_neg h2, bc3_0]
      exact ⟨fun h => absurd h h2, fun h => h.2.1⟩
  · rw [if_neg h1, bc3_0]
    exact ⟨fun h => absurd h h1, fun h => h.1⟩
theorem ord_ge (a b : BE) : decide (ordE a b ≥ 0) = !ltE a b := by
  rw [← ord_lt, Bool.eq_iff_iff]
  simp
theorem ltE_trans {a b c : BE} (h1 : ltE a b = true) (h2 : ltE b c = true) : ltE a c = true := by rw [ltE_iff] at *; omega
theorem ltE_irr (a : BE) : ltE a a = false := by rw [ltE_f]; omega
theorem ltE_tot {a b : BE} (h1 : ltE a b = false) (h2 : ltE b a = false) : keyE a = keyE b := by rw [ltE_f] at *; rw [keyE_iff]; omega
theorem ltE_key {a a' b b' : BE} (h : keyE a = keyE a') (h' : keyE b = keyE b') : ltE a b = ltE a' b' := by
  rw [keyE_iff] at h h'
  rw [Bool.eq_iff_iff, ltE_iff, ltE_iff]
  omega
theorem ltE_asym {a b : BE} (h : ltE a b = true) : ltE b a = false := by rw [ltE_iff] at h; rw [ltE_f]; omega
theorem ltE_ne {a b : BE} (h : ltE a b = true) : keyE a ≠ keyE b := fun e => by rw [keyE_iff] at e; rw [ltE_iff] at h; omega
/-! the check -/
def bad4 (x : BE) : Bool := decide (x.2.2.1 < 1) || decide (x.2.2.1 > 1000000)
def errB (b : List BE) (i : Nat) : Int := if bad4 (b.getD i dBE) = true then 4 else if (decide (0 < i) && !ltE (b.getD (i - 1) dBE) (b.getD i dBE)) = true then 3 else 0
def chkB (b : List BE) : Int := firstNZ (errB b) b.length
theorem getD_atB (l : List BE) (i : Nat) (h : i < l.length) : l.getD i dBE = l[i] := by simp [List.getD_eq_getElem?_getD, h]
theorem at_natB {A : Type} (xs : List A) (i : Nat) (h : i < xs.length) : at? xs (i : Int) = some xs[i] := by
  rw [at?_eq xs _ (Int.natCast_nonneg i) (Int.ofNat_lt.2 h)]
  simp only [Int.toNat_natCast]
theorem check_specB (b : List BE) (hl : b.length ≤ 1000) : bookCheck b = some (chkB b) := by
  unfold bookCheck
  rw [show decide (((b.length : Nat) : Int) > 1000) = false by simp; omega, cond_false]
  rw [loopNZ b.length (bookCheck_L1 b) (errB b) ((), ()) (some 0) (fun i hi => ?_) (by unfold bookCheck_L1; simp)]
  · unfold chkB
    split
    · rename_i h; rw [h]
    · rfl
  · unfold bookCheck_L1 errB
    simp only [show decide ((i : Int) < ((b.length : Nat) : Int)) = true by simp; omega, cond_true]
    rw [at_natB b i hi, Option.bind_some, getD_atB b i hi]
    unfold bad4
    cases (decide (b[i].2.2.1 < 1) || decide (b[i].2.2.1 > 1000000))
    · simp only [cond_false]
      rw [w64_id (n := (i : Int) + 1) (by omega) (by omega), w64_id (n := (i : Int) - 1) (by omega) (by omega)]
      by_cases h0 : 0 < i
      · rw [show decide ((i : Int) > 0) = true by simp; omega, show decide (0 < i) = true by simp; omega]
        have h1 : i - 1 < b.length := by omega
        rw [show (i : Int) - 1 = ((i - 1 : Nat) : Int) by omega, getD_atB b (i - 1) h1]
        simp only [gat, gopt, cond_true, at_natB b (i - 1) h1, Option.bind_some, order_spec, ord_ge, Bool.true_and]
        cases ltE b[i - 1] b[i]
        · simp
        · simp
      · have : i = 0 := by omega
        subst this
        simp [gat, gopt]
    · simp
theorem chkB_ok {b : List BE} (h : chkB b = 0) : ∀ i (hi : i < b.length), (1 ≤ b[i].2.2.1 ∧ b[i].2.2.1 ≤ 1000000) ∧ (∀ h0 : 0 < i, ltE b[i - 1] b[i] = true) := by
  intro i hi
  have := firstNZ_zero h i hi
  unfold errB at this
  rw [getD_atB b i hi] at this
  split at this
  · cases this
  · rename_i h4
    split at this
    · cases this
    · rename_i h5
      refine ⟨by unfold bad4 at h4; simp at h4; omega, fun h0 => ?_⟩
      rw [getD_atB b (i - 1) (by omega)] at h5
      simp [h0] at h5
      exact h5
def OKW (l : List BE) : Prop := ∀ x ∈ l, 1 ≤ x.2.2.1 ∧ x.2.2.1 ≤ 1000000
abbrev Srt' (l : List BE) : Prop := l.Pairwise fun x y => ltE x y = true
theorem chkB_srt : ∀ {b : List BE}, (∀ i (hi : i < b.length) (h0 : 0 < i), ltE b[i - 1] b[i] = true) → Srt' b
  | [], _ => List.Pairwise.nil
  | [x], _ => by simp
  | x :: y :: l, h => by
    have ih : Srt' (y :: l) := chkB_srt fun i hi h0 => by
      have := h (i + 1) (by simpa using hi) (by omega)
      rcases i with _ | i
      · omega
      · simpa using this
    refine List.Pairwise.cons (fun z hz => ?_) ih
    have hxy : ltE x y = true := h 1 (by simp) (by omega)
    rcases List.mem_cons.1 hz with rfl | hz
    · exact hxy
    · exact ltE_trans hxy ((List.pairwise_cons.1 ih).1 z hz)
theorem chkB_all {b : List BE} (h : chkB b = 0) : OKW b ∧ Srt' b := by
  refine ⟨fun x hx => ?_, chkB_srt fun i hi h0 => (chkB_ok h i hi).2 h0⟩
  obtain ⟨i, hi, rfl⟩ := List.mem_iff_getElem.1 hx
  exact (chkB_ok h i hi).1
theorem chkB_vals (b : List BE) : chkB b = 0 ∨ chkB b = 3 ∨ chkB b = 4 := by
  have key : ∀ (k i : Nat), scan (fun i => nz (errB b i)) 0 i k = 0 ∨ scan (fun i => nz (errB b i)) 0 i k = 3 ∨ scan (fun i => nz (errB b i)) 0 i k = 4 := by
    intro k
    induction k with
    | zero => intro i; exact .inl rfl
    | succ k ih =>
      intro i
      unfold scan
      unfold nz
      by_cases h : errB b i = 0
      · rw [if_pos h]; exact ih (i + 1)
      · rw [if_neg h]
        show errB b i = 0 ∨ _
        unfold errB
        split
        · exact .inr (.inr rfl)
        · split
          · exact .inr (.inl rfl)
          · exact .inl rfl
  exact key b.length 0
/-! the search by halves -/
theorem mid_eq (a b : Nat) (h : a + b ≤ 1000000) : w64 (shK .shr .u64 (wu64 (w64 ((a : Int) + (b : Int)))) 1) = (((a + b) / 2 : Nat) : Int) := by
  rw [w64_id (n := (a : Int) + (b : Int)) (by omega) (by omega)]
  have e1 : wu64 ((a : Int) + (b : Int)) = (((a + b : Nat) : Nat) : Int) := by
    unfold wu64 IntKind.wrap
    simp only [IntKind.signed, IntKind.bits, Bool.false_and, Bool.false_eq_true, if_false]
    omega
  rw [e1]
  have e2 : shK .shr .u64 ((a + b : Nat) : Int) 1 = (((a + b) / 2 : Nat) : Int) := by
    show Int.fdiv ((a + b : Nat) : Int) (2 ^ 1) = _
    rw [Int.fdiv_eq_ediv_of_nonneg _ (by decide)]
    omega
  rw [e2, w64_id (by omega) (by omega)]
theorem half_loop {f : ((Int × Int × Unit) × Unit) → Option (((Int × Int × Unit) × Unit) ⊕ ((Int × Unit) × Unit))} (n : Nat) (p : Nat → Bool) (i0 : Nat) (hn : n ≤ 100000) (hp : ∀ k, k < n → p k = decide (k < i0)) (hi0 : i0 ≤ n)
    (hs : ∀ lo hi : Nat, lo < hi → hi ≤ n → f (((lo : Int), (hi : Int), ()), ()) = some (.inl (bif p ((lo + hi) / 2) then (((((lo + hi) / 2 + 1 : Nat) : Int), (hi : Int), ()), ()) else (((lo : Int), (((lo + hi) / 2 : Nat) : Int), ()), ()))))
    (he : ∀ lo : Nat, f (((lo : Int), (lo : Int), ()), ()) = some (.inr (((lo : Int), ()), ()))) : iterW f (((0 : Int), (n : Int), ()), ()) = some (((i0 : Int), ()), ()) := by
  have key : ∀ k lo hi : Nat, hi - lo ≤ k → lo ≤ i0 → i0 ≤ hi → hi ≤ n → iterW f (((lo : Int), (hi : Int), ()), ()) = some (((i0 : Int), ()), ()) := by
    intro k
    induction k with
    | zero =>
      intro lo hi h1 h2 h3 h4
      have e1 : lo = i0 := by omega
      have e2 : hi = lo := by omega
      rw [e2, iterW_inr (he lo), e1]
    | succ k ih =>
      intro lo hi h1 h2 h3 h4
      by_cases h5 : lo < hi
      · have h6 := hs lo hi h5 h4
        have h7 := hp ((lo + hi) / 2) (by omega)
        rw [iterW_inl h6, h7]
        by_cases h8 : (lo + hi) / 2 < i0
        · rw [decide_eq_true h8, cond_true]
          exact ih _ _ (by omega) (by omega) h3 h4
        · rw [decide_eq_false h8, cond_false]
          exact ih _ _ (by omega) h2 (by omega) (by omega)
      · have e1 : lo = i0 := by omega
        have e2 : hi = lo := by omega
        rw [e2, iterW_inr (he lo), e1]
  have := key n 0 n (by omega) (by omega) hi0 (Nat.le_refl _)
  exact this
/-- the place of an entry -/
def posE (l : List BE) (d : BE) : Nat := (l.takeWhile fun x => ltE x d).length
theorem posE_le (l : List BE) (d : BE) : posE l d ≤ l.length := by
  unfold posE
  exact (List.takeWhile_prefix _).length_le
theorem posE_iff (d : BE) : ∀ {l : List BE}, Srt' l → ∀ k (hk : k < l.length), ltE l[k] d = decide (k < posE l d)
  | [], _, k, hk => by simp at hk
  | x :: l, h, k, hk => by
    obtain ⟨h1, h2⟩ := List.pairwise_cons.1 h
    unfold posE
    rw [List.takeWhile_cons]
    cases hx : ltE x d
    · simp only [Bool.false_eq_true, if_false, List.length_nil, Nat.not_lt_zero, decide_false]
      rcases k with _ | k
      · simpa using hx
      · have : ltE x (x :: l)[k + 1] = true := h1 _ (List.getElem_mem _)
        cases hq : ltE (x :: l)[k + 1] d
        · rfl
        · rw [ltE_trans this hq] at hx; cases hx
    · simp only [if_true, List.length_cons]
      rcases k with _ | k
      · simpa using hx
      · have := posE_iff d h2 k (by simpa using hk)
        unfold posE at this
        simp only [List.getElem_cons_succ, this, Nat.add_lt_add_iff_right]
/-- one entry that takes another's weight -/
def addW (x d : BE) : BE := (x.1, (x.2.1, ((if x.2.2.1 + d.2.2.1 > 1000000 then 1000000 else x.2.2.1 + d.2.2.1), ())))
/-- an entry in its place -/
def insB : List BE → BE → List BE
  | [], d => [d]
  | x :: xs, d => if ltE x d = true then x :: insB xs d else if keyE x = keyE d then addW x d :: xs else d :: x :: xs
theorem insB_eq (d : BE) : ∀ l : List BE, insB l d = if h : posE l d < l.length ∧ keyE (l.getD (posE l d) dBE) = keyE d then l.set (posE l d) (addW (l.getD (posE l d) dBE) d) else l.take (posE l d) ++ ([d] ++ l.drop (posE l d))
  | [] => by
    rw [dif_neg (fun h => by simp at h)]
    rfl
  | x :: l => by
    unfold insB
    cases hx : ltE x d
    · have h0 : posE (x :: l) d = 0 := by unfold posE; rw [List.takeWhile_cons, hx]; rfl
      rw [if_neg (by decide), h0]
      by_cases hk : keyE x = keyE d
      · rw [if_pos hk, dif_pos ⟨by simp, by simpa using hk⟩]; rfl
      · rw [if_neg hk, dif_neg (fun h => hk (by simpa using h.2))]; rfl
    · have h0 : posE (x :: l) d = posE l d + 1 := by unfold posE; rw [List.takeWhile_cons, hx]; rfl
      rw [if_pos rfl, h0, insB_eq d l]
      have e1 : (x :: l).getD (posE l d + 1) dBE = l.getD (posE l d) dBE := rfl
      rw [e1]
      by_cases hk : posE l d < l.length ∧ keyE (l.getD (posE l d) dBE) = keyE d
      · rw [dif_pos hk, dif_pos ⟨by simpa using hk.1, hk.2⟩]; rfl
      · rw [dif_neg hk, dif_neg (fun h => hk ⟨by simpa using h.1, h.2⟩)]; rfl
theorem insB_len (d : BE) : ∀ l : List BE, (insB l d).length ≤ l.length + 1
  | [] => by simp [insB]
  | x :: l => by
    have := insB_len d l
    unfold insB
    split
    · simp only [List.length_cons]; omega
    · split <;> simp
theorem addW_key (x d : BE) : keyE (addW x d) = keyE x := rfl
theorem addW_ok {x d : BE} (hx : 1 ≤ x.2.2.1 ∧ x.2.2.1 ≤ 1000000) (hd : 1 ≤ d.2.2.1 ∧ d.2.2.1 ≤ 1000000) : 1 ≤ (addW x d).2.2.1 ∧ (addW x d).2.2.1 ≤ 1000000 := by
  unfold addW
  simp only
  split <;> omega
theorem insB_mem (d : BE) : ∀ {l : List BE} {z : BE}, z ∈ insB l d → z ∈ l ∨ z = d ∨ ∃ x ∈ l, z = addW x d ∧ keyE x = keyE d
  | [], z, h => .inr (.inl (by simpa [insB] using h))
  | x :: l, z, h => by
    unfold insB at h
    split at h
    · rcases List.mem_cons.1 h with rfl | h
      · exact .inl List.mem_cons_self
      · rcases insB_mem d h with h | h | ⟨y, hy, h⟩
        · exact .inl (List.mem_cons_of_mem _ h)
        · exact .inr (.inl h)
        · exact .inr (.inr ⟨y, List.mem_cons_of_mem _ hy, h⟩)
    · split at h
      · rename_i hk
        rcases List.mem_cons.1 h with rfl | h
        · exact .inr (.inr ⟨x, List.mem_cons_self, rfl, hk⟩)
        · exact .inl (List.mem_cons_of_mem _ h)
      · rcases List.mem_cons.1 h with rfl | h
        · exact .inr (.inl rfl)
        · exact .inl h
theorem insB_ok {l : List BE} {d : BE} (hl : OKW l) (hd : 1 ≤ d.2.2.1 ∧ d.2.2.1 ≤ 1000000) : OKW (insB l d) := fun z hz => by
  rcases insB_mem d hz with h | rfl | ⟨x, hx, rfl, _⟩
  · exact hl z h
  · exact hd
  · exact addW_ok (hl x hx) hd
theorem insB_srt (d : BE) : ∀ {l : List BE}, Srt' l → Srt' (insB l d)
  | [], _ => by simp [insB]
  | x :: l, h => by
    obtain ⟨h1, h2⟩ := List.pairwise_cons.1 h
    unfold insB
    split
    · rename_i hx
      refine List.Pairwise.cons (fun z hz => ?_) (insB_srt d h2)
      rcases insB_mem d hz with hz | rfl | ⟨y, hy, rfl, _⟩
      · exact h1 z hz
      · exact hx
      · exact (ltE_key rfl (addW_key y d)).trans (h1 y hy)
    · rename_i hx
      split
      · exact List.Pairwise.cons (fun z hz => (ltE_key (addW_key x d) rfl).trans (h1 z hz)) h2
      · rename_i hk
        have hdx : ltE d x = true := by
          cases hq : ltE d x
          · exact absurd (ltE_tot (Bool.eq_false_iff.2 hx) hq) hk
          · rfl
        refine List.Pairwise.cons (fun z hz => ?_) h
        rcases List.mem_cons.1 hz with rfl | hz
        · exact hdx
        · exact ltE_trans hdx (h1 z hz)
theorem cloneB (s : List BE) (h : s.length ≤ 100000) : slicesClone_BookEntry s = some s := by
  unfold slicesClone_BookEntry
  have : room (([] : List BE).length + s.length) 40 = true := room_ok (by simp; omega)
  rw [this]
  cases s with
  | nil => simp [req_true, agree_self]
  | cons a l => simp [req_true]
end Go.Proofs.YtfppnefcicdnfaaGreat
namespace Go.Proofs.YtfppnefcicdnfaaGreat
open Go.Den
set_option linter.unusedVariables false
set_option linter.unusedSimpArgs false
set_option maxRecDepth 100000

noncomputable def halfF (l : List BE) (d : BE) (x8 : (Int × Int × Unit) × (Unit)) : Option (((Int × Int × Unit) × (Unit)) ⊕ ((Int × Unit) × (Unit))) :=
  bif (decide (x8.1.1 < x8.1.2.1)) then (req (inb (w64 (shK .shr .u64 (wu64 (w64 (x8.1.1 + x8.1.2.1))) (1 : Int))) l.length) (Option.bind (bookOrder (getD' l (((w64 (shK .shr .u64 (wu64 (w64 (x8.1.1 + x8.1.2.1))) (1 : Int)))).toNat) dBE) d) fun r9 =>
  Option.bind (bif (decide (r9 < (0 : Int))) then some (((w64 ((w64 (shK .shr .u64 (wu64 (w64 (x8.1.1 + x8.1.2.1))) (1 : Int))) + (1 : Int))), x8.1.2.1, ()), ())
  else some ((x8.1.1, (w64 (shK .shr .u64 (wu64 (w64 (x8.1.1 + x8.1.2.1))) (1 : Int))), ()), ())) fun x10 =>
  some (Sum.inl ((x10.1.1, x10.1.2.1, ()), ()))))
  else some (Sum.inr ((x8.1.1, ()), ()))
noncomputable def addF (l : List BE) (d : BE) : Option ((List BE × Unit) × Unit) :=
  Option.bind (iterW (halfF l d) (((0 : Int), ((l.length : Nat) : Int), ()), ())) fun x11 =>
  Option.bind (req (imp (decide (x11.1.1 < ((l.length : Nat) : Int))) (inb x11.1.1 l.length)) (bif (decide (x11.1.1 < ((l.length : Nat) : Int))) then (Option.bind (bookOrder (getD' l ((x11.1.1).toNat) dBE) d) fun r12 =>
  some ((x11.1.1, (r12 == (0 : Int)), ()), ()))
  else some ((x11.1.1, false, ()), ()))) fun x13 =>
  bif (!x13.1.2.1) then req (decide (0 ≤ x13.1.1) && (decide (x13.1.1 ≤ ((l.length : Nat) : Int)) && (Nat.blt 0 ([d]).length && room (l.length + ([d]).length) 40))) (some (((l.take (x13.1.1).toNat ++ ([d] ++ l.drop (x13.1.1).toNat)), ()), ()))
  else req (inb x13.1.1 l.length) (req (inb x13.1.1 l.length) (some (((l.set ((x13.1.1).toNat) ((getD' l ((x13.1.1).toNat) dBE).1, (((((getD' l ((x13.1.1).toNat) dBE).2).1).1, (((((getD' l ((x13.1.1).toNat) dBE).2).1).2).1, ((((((getD' l ((x13.1.1).toNat) dBE).2).1).2).2).1, ()))), ((if (1000000 : Int) < (w64 ((((getD' l ((x13.1.1).toNat) dBE).2).2).1 + d.2.2.1)) then (1000000 : Int) else (w64 ((((getD' l ((x13.1.1).toNat) dBE).2).2).1 + d.2.2.1))), ())))), ()), ())))
theorem halfF_spec (l : List BE) (d : BE) (hl : l.length ≤ 2000) (hs : Srt' l) : iterW (halfF l d) (((0 : Int), ((l.length : Nat) : Int), ()), ()) = some ((((posE l d : Nat) : Int), ()), ()) := by
  refine half_loop l.length (fun k => ltE (l.getD k dBE) d) (posE l d) (by omega) (fun k hk => by rw [getD_atB l k hk, posE_iff d hs k hk]) (posE_le l d) (fun lo hi h1 h2 => ?_) (fun lo => by
    unfold halfF
    simp only [Int.lt_irrefl, decide_false, cond_false])
  unfold halfF
  simp only [show decide ((lo : Int) < (hi : Int)) = true by simp; omega, cond_true]
  rw [mid_eq lo hi (by omega), inb_iff.2 ⟨by omega, by omega⟩, req_true, Int.toNat_natCast, order_spec, Option.bind_some, ord_lt]
  have : getD' l ((lo + hi) / 2) dBE = l.getD ((lo + hi) / 2) dBE := rfl
  rw [this, w64_id (n := (((lo + hi) / 2 : Nat) : Int) + 1) (by omega) (by omega)]
  cases ltE (l.getD ((lo + hi) / 2) dBE) d
  · rfl
  · rfl
theorem addF_spec (l : List BE) (d : BE) (hl : l.length ≤ 2000) (hs : Srt' l) (hw : OKW l) (hd : 1 ≤ d.2.2.1 ∧ d.2.2.1 ≤ 1000000) : addF l d = some ((insB l d, ()), ()) := by
  unfold addF
  have hp := posE_le l d
  rw [halfF_spec l d hl hs, Option.bind_some, insB_eq]
  have hg : getD' l (posE l d) dBE = l.getD (posE l d) dBE := rfl
  have hroom : room (l.length + ([d] : List BE).length) 40 = true := room_ok (by simp; omega)
  have hblt : Nat.blt 0 ([d] : List BE).length = true := rfl
  by_cases h1 : posE l d < l.length
  · simp only [show decide (((posE l d : Nat) : Int) < ((l.length : Nat) : Int)) = true by simp; omega, cond_true, Int.toNat_natCast]
    rw [show inb ((posE l d : Nat) : Int) l.length = true from inb_iff.2 ⟨by omega, by omega⟩]
    simp only [imp, cond_true, req_true]
    rw [order_spec, Option.bind_some, Option.bind_some, ord_0, hg]
    by_cases h2 : keyE (l.getD (posE l d) dBE) = keyE d
    · rw [dif_pos ⟨h1, h2⟩]
      simp only [decide_eq_true h2, Bool.not_true, cond_false, Int.toNat_natCast, req_true]
      rw [show inb ((posE l d : Nat) : Int) l.length = true from inb_iff.2 ⟨by omega, by omega⟩]
      simp only [req_true, hg]
      have hx := hw (l.getD (posE l d) dBE) (by rw [getD_atB l _ h1]; exact List.getElem_mem h1)
      rw [w64_id (n := (l.getD (posE l d) dBE).2.2.1 + d.2.2.1) (by omega) (by omega)]
      have e1 : (if (1000000 : Int) < (l.getD (posE l d) dBE).2.2.1 + d.2.2.1 then (1000000 : Int) else (l.getD (posE l d) dBE).2.2.1 + d.2.2.1) = (if (l.getD (posE l d) dBE).2.2.1 + d.2.2.1 > 1000000 then 1000000 else (l.getD (posE l d) dBE).2.2.1 + d.2.2.1) := rfl
      rfl
    · rw [dif_neg (fun h => h2 h.2)]
      simp only [decide_eq_false h2, Bool.not_false, cond_true, Int.toNat_natCast]
      rw [hroom, hblt]
      simp only [show decide ((0 : Int) ≤ ((posE l d : Nat) : Int)) = true by simp, show decide (((posE l d : Nat) : Int) ≤ ((l.length : Nat) : Int)) = true by simp; omega, Bool.and_self, req_true]
  · rw [dif_neg (fun h => h1 h.1)]
    simp only [show decide (((posE l d : Nat) : Int) < ((l.length : Nat) : Int)) = false by simp; omega, cond_false]
    simp only [imp, cond_false, req_true, Option.bind_some, Bool.not_false, cond_true, Int.toNat_natCast]
    rw [hroom, hblt]
    simp only [show decide ((0 : Int) ≤ ((posE l d : Nat) : Int)) = true by simp, show decide (((posE l d : Nat) : Int) ≤ ((l.length : Nat) : Int)) = true by simp; omega, Bool.and_self, req_true]
/-- what is known of a book's entries -/
def lookE (l : List BE) (k : Int × Mv) : Option Int := (l.find? fun x => decide (keyE x = k)).map fun x => x.2.2.1
def capW (w d : Int) : Int := if w + d > 1000000 then 1000000 else w + d
def updE (f : Int × Mv → Option Int) (d : BE) : Int × Mv → Option Int := fun k => if k = keyE d then some (match f k with | none => d.2.2.1 | some w => capW w d.2.2.1) else f k
theorem lookE_none {l : List BE} {k : Int × Mv} (h : ∀ x ∈ l, keyE x ≠ k) : lookE l k = none := by
  unfold lookE
  rw [List.find?_eq_none.2 (fun x hx => by simpa using h x hx)]
  rfl
theorem lookE_cons (x : BE) (l : List BE) (k : Int × Mv) : lookE (x :: l) k = if keyE x = k then some x.2.2.1 else lookE l k := by
  unfold lookE
  rw [List.find?_cons]
  by_cases h : keyE x = k
  · rw [if_pos h, decide_eq_true h]; rfl
  · rw [if_neg h, decide_eq_false h]
theorem lookE_ins (d : BE) : ∀ {l : List BE}, Srt' l → lookE (insB l d) = updE (lookE l) d
  | [], _ => by
    funext k
    unfold insB updE
    rw [lookE_cons]
    by_cases h : k = keyE d
    · rw [if_pos h, if_pos h.symm]; rfl
    · rw [if_neg h, if_neg (fun e => h e.symm)]
  | x :: l, hs => by
    obtain ⟨h1, h2⟩ := List.pairwise_cons.1 hs
    have ih := lookE_ins d h2
    funext k
    have ihk := congrFun ih k
    unfold insB
    split
    · rename_i hx
      rw [lookE_cons, ihk]
      unfold updE
      rw [lookE_cons]
      by_cases hk : keyE x = k
      · rw [if_pos hk, if_pos hk, if_neg (fun e => ltE_ne hx (hk.trans e))]
      · rw [if_neg hk, if_neg hk]
    · rename_i hx
      split
      · rename_i hxd
        rw [lookE_cons, addW_key]
        unfold updE
        rw [lookE_cons]
        by_cases hk : keyE x = k
        · rw [if_pos hk, if_pos hk, if_pos (hk.symm.trans hxd)]
          rfl
        · rw [if_neg hk, if_neg hk, if_neg (fun e => hk (hxd.trans e.symm))]
      · rename_i hxd
        have hdx : ltE d x = true := by
          cases hq : ltE d x
          · exact absurd (ltE_tot (Bool.eq_false_iff.2 hx) hq) hxd
          · rfl
        rw [lookE_cons]
        unfold updE
        by_cases hk : keyE d = k
        · rw [if_pos hk, if_pos hk.symm, lookE_none (k := k) (l := x :: l) (fun y hy e => ?_)]
          rcases List.mem_cons.1 hy with rfl | hy
          · exact hxd (e.trans hk.symm)
          · exact ltE_ne (ltE_trans hdx (h1 y hy)) (hk.trans e.symm)
        · rw [if_neg hk, if_neg (fun e => hk e.symm)]
/-- entries whose keys differ -/
abbrev ND (l : List BE) : Prop := l.Pairwise fun x y => keyE x ≠ keyE y
theorem Srt'.nd {l : List BE} (h : Srt' l) : ND l := h.imp fun h => ltE_ne h
theorem be_eq {x y : BE} (h1 : keyE x = keyE y) (h2 : x.2.2.1 = y.2.2.1) : x = y := by
  obtain ⟨a, b, c, ⟨⟩⟩ := x
  obtain ⟨a', b', c', ⟨⟩⟩ := y
  simp only [keyE, Prod.mk.injEq] at h1
  obtain ⟨rfl, rfl⟩ := h1
  simp only at h2
  subst h2
  rfl
theorem lookE_mem : ∀ {l : List BE}, ND l → ∀ z : BE, z ∈ l ↔ lookE l (keyE z) = some z.2.2.1
  | [], _, z => by simp [lookE]
  | x :: l, h, z => by
    obtain ⟨h1, h2⟩ := List.pairwise_cons.1 h
    rw [lookE_cons, List.mem_cons]
    by_cases hk : keyE x = keyE z
    · rw [if_pos hk]
      constructor
      · rintro (rfl | hz)
        · rfl
        · exact absurd hk (h1 z hz)
      · intro e
        exact .inl (be_eq hk.symm (Option.some.inj e).symm)
    · rw [if_neg hk, ← lookE_mem h2 z]
      exact ⟨fun e => e.resolve_left (fun e => hk (by rw [e])), .inr⟩
theorem srt_unique : ∀ {l m : List BE}, Srt' l → Srt' m → (∀ z, z ∈ l ↔ z ∈ m) → l = m
  | [], [], _, _, _ => rfl
  | [], y :: m, _, _, h => absurd ((h y).2 List.mem_cons_self) (by simp)
  | x :: l, [], _, _, h => absurd ((h x).1 List.mem_cons_self) (by simp)
  | x :: l, y :: m, hl, hm, h => by
    obtain ⟨a1, a2⟩ := List.pairwise_cons.1 hl
    obtain ⟨b1, b2⟩ := List.pairwise_cons.1 hm
    have hxy : x = y := by
      rcases List.mem_cons.1 ((h x).1 List.mem_cons_self) with e | e
      · exact e
      · rcases List.mem_cons.1 ((h y).2 List.mem_cons_self) with e' | e'
        · exact e'.symm
        · have q1 := b1 x e
          have q2 := a1 y e'
          rw [ltE_asym q1] at q2; cases q2
    subst hxy
    congr 1
    refine srt_unique a2 b2 fun z => ?_
    constructor
    · intro hz
      rcases List.mem_cons.1 ((h z).1 (List.mem_cons_of_mem _ hz)) with e | e
      · subst e; have := a1 z hz; rw [ltE_irr] at this; cases this
      · exact e
    · intro hz
      rcases List.mem_cons.1 ((h z).2 (List.mem_cons_of_mem _ hz)) with e | e
      · subst e; have := b1 z hz; rw [ltE_irr] at this; cases this
      · exact e
theorem look_unique {l m : List BE} (hl : Srt' l) (hm : Srt' m) (h : lookE l = lookE m) : l = m :=
  srt_unique hl hm fun z => by rw [lookE_mem hl.nd, lookE_mem hm.nd, h]
theorem look_perm {l m : List BE} (hl : ND l) (hm : ND m) (h : ∀ z, z ∈ l ↔ z ∈ m) : lookE l = lookE m := by
  funext k
  cases hq : lookE l k with
  | some w =>
    have : ((k.1, (k.2, (w, ()))) : BE) ∈ l := (lookE_mem hl _).2 hq
    exact ((lookE_mem hm _).1 ((h _).1 this)).symm
  | none =>
    cases hr : lookE m k with
    | none => rfl
    | some w =>
      have : ((k.1, (k.2, (w, ()))) : BE) ∈ m := (lookE_mem hm _).2 hr
      have := (lookE_mem hl _).1 ((h _).2 this)
      rw [show keyE ((k.1, (k.2, (w, ()))) : BE) = k from rfl, hq] at this
      cases this
/-! many entries -/
theorem insL_all : ∀ (b : List BE) {a : List BE}, Srt' a → OKW a → OKW b → Srt' (b.foldl insB a) ∧ OKW (b.foldl insB a) ∧ (b.foldl insB a).length ≤ a.length + b.length ∧ lookE (b.foldl insB a) = b.foldl updE (lookE a)
  | [], a, h1, h2, _ => ⟨h1, h2, by simp, rfl⟩
  | d :: b, a, h1, h2, h3 => by
    have hd := h3 d List.mem_cons_self
    obtain ⟨q1, q2, q3, q4⟩ := insL_all b (insB_srt d h1) (insB_ok h2 hd) (fun x hx => h3 x (List.mem_cons_of_mem _ hx))
    refine ⟨q1, q2, ?_, ?_⟩
    · have := insB_len d a
      simp only [List.foldl_cons, List.length_cons]
      omega
    · rw [List.foldl_cons, q4, lookE_ins d h1]; rfl
end Go.Proofs.YtfppnefcicdnfaaGreat
namespace Go.Proofs.YtfppnefcicdnfaaGreat
open Go.Den
set_option linter.unusedVariables false
set_option linter.unusedSimpArgs false
set_option maxRecDepth 100000

theorem step_0 {r : Rules} {s : List Place × List Mv} {m : Mv} (c : stepG r s m = 0) : gameRes r s.1 = 0 ∧ allowedB r (lastP s.1) m = true := by
  unfold stepG at c
  split at c
  · rename_i h1
    split at c
    · rename_i h2; exact ⟨h1, h2⟩
    · cases c
  · cases c
theorem gd_app1 (l l' : List Place) (j : Nat) (hj : j < l.length) : getD' (l ++ l') j dP = getD' l j dP := by simp [getD', List.getElem?_append_left hj]
theorem gd_app2 (l : List Place) (q : Place) : getD' (l ++ [q]) l.length dP = q := by simp [getD']
theorem run_pre {r : Rules} : ∀ (k : List Mv) (s s' : List Place × List Mv), runG r k s = .inl s' → s'.1.length = s.1.length + k.length ∧ ∀ j, j < s.1.length → getD' s'.1 j dP = getD' s.1 j dP
  | [], s, s', e => by cases e; exact ⟨by simp, fun _ _ => rfl⟩
  | m :: k, s, s', e => by
    unfold runG at e
    split at e
    · obtain ⟨a, b⟩ := run_pre k _ _ e
      have hn : (nextG r s m).1 = s.1 ++ [afterOf r (lastP s.1) m] := rfl
      rw [hn] at a b
      refine ⟨by rw [a]; simp; omega, fun j hj => ?_⟩
      rw [b j (by simp; omega), gd_app1 _ _ j hj]
    · cases e
theorem run_step {r : Rules} : ∀ (k : List Mv) (s s' : List Place × List Mv), 0 < s.1.length → runG r k s = .inl s' → ∀ i (hi : i < k.length),
    getD' s'.1 (s.1.length + i) dP = afterOf r (getD' s'.1 (s.1.length + i - 1) dP) k[i] ∧ allowedB r (getD' s'.1 (s.1.length + i - 1) dP) k[i] = true
  | [], s, s', h, e, i, hi => absurd hi (Nat.not_lt_zero _)
  | m :: k, s, s', h, e, i, hi => by
    unfold runG at e
    split at e
    · rename_i c
      have hn : (nextG r s m).1 = s.1 ++ [afterOf r (lastP s.1) m] := rfl
      have hnl : (nextG r s m).1.length = s.1.length + 1 := by rw [hn]; simp
      cases i with
      | zero =>
        obtain ⟨_, b⟩ := run_pre k _ _ e
        rw [hnl, hn] at b
        rw [Nat.add_zero, b _ (by omega), b _ (by omega), gd_app2, gd_app1 _ _ _ (by omega)]
        exact ⟨rfl, (step_0 c).2⟩
      | succ i =>
        have := run_step k _ _ (by omega) e i (by simpa using hi)
        rw [hnl] at this
        rw [show s.1.length + (i + 1) = s.1.length + 1 + i by omega]
        simpa using this
    · cases e
theorem cut_spec (l : List Mv) (h : l.length ≤ 9223372036854775807) : law3Cut l = some (l.take 40) := by
  unfold law3Cut
  by_cases c : 40 < l.length
  · rw [if_pos (by omega)]
    have : boundsI 0 40 l.length = true := by simp [boundsI]; omega
    rw [this, req_true]
    rfl
  · rw [if_neg (by omega)]
    have : boundsI 0 ((l.length : Nat) : Int) l.length = true := by simp [boundsI]
    rw [this, req_true, Int.toNat_natCast, List.drop_zero, List.take_length, List.take_of_length_le (by omega)]
end Go.Proofs.YtfppnefcicdnfaaGreat
namespace Go.Proofs.YtfppnefcicdnfaaGreat
open Go.Den
set_option linter.unusedVariables false
set_option linter.unusedSimpArgs false
set_option maxRecDepth 100000

theorem wu_eq (n : Int) : wu64 n = n % 18446744073709551616 := by
  simp [wu64, IntKind.wrap, IntKind.signed, IntKind.bits]
theorem shr_eq (a : Int) (h0 : 0 ≤ a) (h1 : a < 18446744073709551616) (k : Nat) (hk : k ≤ 64) (c : Int) (hc : c = 2 ^ k) (hc1 : 1 ≤ c) : shK .shr .u64 a (k : Int) = wu64 (a.tdiv c) := by
  have e : shK .shr .u64 a (k : Int) = a.fdiv c := by
    unfold shK
    rw [hc, Int.toNat_natCast, show min k (IntKind.bits .u64) = k from Nat.min_eq_left hk]
  rw [e, wu_eq, Int.fdiv_eq_ediv_of_nonneg _ (by omega), Int.tdiv_eq_ediv_of_nonneg h0]
  have h2 := Int.ediv_nonneg h0 (show 0 ≤ c by omega)
  have h3 : a / c ≤ a := Int.ediv_le_self _ h0
  rw [Int.emod_eq_of_lt h2 (by omega)]
theorem wu_rng (n : Int) : 0 ≤ wu64 n ∧ wu64 n < 18446744073709551616 := by rw [wu_eq]; omega
def k1 (p : Place) (i : Nat) (a : Int) : Int := bif p.1.getD i 0 != 0 then wu64 (a + zobMix (16 * (i : Int) + p.1.getD i 0)) else a
def k2 (o : Int) (l : List Int) (i : Nat) (a : Int) : Int := wu64 (a + wu64 (zobMix (2000 + 8 * o + (i : Int)) * wu64 (l.getD i 0)))
/-- the key of a position -/
def keyOf (p : Place) : Int := bif p.turn == 1 then wu64 (foldN (k2 1 p.2.1.2.1) p.2.1.2.1.length (foldN (k2 0 p.2.1.1) p.2.1.1.length (foldN (k1 p) p.1.length 0)) + zobMix 3000) else foldN (k2 1 p.2.1.2.1) p.2.1.2.1.length (foldN (k2 0 p.2.1.1) p.2.1.1.length (foldN (k1 p) p.1.length 0))
abbrev R64 (a : Int) : Prop := 0 ≤ a ∧ a < 18446744073709551616
theorem k1_rng {p : Place} {i : Nat} {a : Int} (h : R64 a) : R64 (k1 p i a) := by
  unfold k1
  cases (p.1.getD i 0 != 0)
  · exact h
  · exact wu_rng _
theorem fold_rng {g : Nat → Int → Int} (hg : ∀ i a, R64 a → R64 (g i a)) : ∀ (n : Nat) (a : Int), R64 a → R64 (foldN g n a)
  | 0, a, h => h
  | n + 1, a, h => hg n _ (fold_rng hg n a h)
theorem key1 {r : Rules} {p : Place} (h : Valid r p) : iterW (zobOf_L1 p) (((0 : Int), (0 : Int), ()), ()) = some ((foldN (k1 p) p.1.length 0, ()), ()) := by
  have h64 := area_len h
  refine iter_fold p.1.length (zobOf_L1 p) (k1 p) (fun a => ((a, ()), ())) (fun _ _ => True) 0 trivial (fun i hi a _ => ⟨?_, trivial⟩) (fun a _ => ?_)
  · unfold zobOf_L1
    have hc := cell_small h (i : Int)
    simp only [show decide ((i : Int) < ((p.1.length : Nat) : Int)) = true by simp; omega, cond_true]
    rw [at_cell (p := p) (s := (i : Int)) (by omega) (by show (i : Int) < ((p.1.length : Nat) : Int); omega), Option.bind_some, w64_id (n := 16 * (i : Int)) (by omega) (by omega), w64_id (n := 16 * (i : Int) + cellI p (i : Int)) (by omega) (by omega), w64_id (n := (i : Int) + 1) (by omega) (by omega)]
    unfold k1
    rw [show p.1.getD i 0 = cellI p (i : Int) from rfl]
    cases (cellI p (i : Int) != 0) <;> rfl
  · unfold zobOf_L1; simp
theorem key3 {p : Place} (o : Nat) (ho : o < 2) (l : List Int) (hl : l = getD' [p.2.1.1, p.2.1.2.1] o []) (h6 : l.length ≤ 6) (a0 b0 : Int) : iterW (zobOf_L3 p ((b0, (o : Int), ()), ())) ((a0, (0 : Int), ()), ()) = some ((foldN (k2 (o : Int) l) l.length a0, ()), ()) := by
  refine iter_fold l.length (zobOf_L3 p ((b0, (o : Int), ()), ())) (k2 (o : Int) l) (fun a => ((a, ()), ())) (fun _ _ => True) a0 trivial (fun i hi a _ => ⟨?_, trivial⟩) (fun a _ => ?_)
  · unfold zobOf_L3
    simp only [Int.toNat_natCast, ← hl]
    simp only [show decide ((i : Int) < ((l.length : Nat) : Int)) = true by simp; omega, cond_true]
    rw [at?_eq l _ (by omega) (by omega), Option.bind_some, w64_id (n := 8 * (o : Int)) (by omega) (by omega), w64_id (n := 2000 + 8 * (o : Int)) (by omega) (by omega), w64_id (n := 2000 + 8 * (o : Int) + (i : Int)) (by omega) (by omega), w64_id (n := (i : Int) + 1) (by omega) (by omega)]
    unfold k2
    simp only [Int.toNat_natCast, List.getD_eq_getElem?_getD, List.getElem?_eq_getElem hi, Option.getD_some]
  · unfold zobOf_L3
    simp only [Int.toNat_natCast, ← hl]
    simp
theorem k2_rng {o : Int} {l : List Int} (i : Nat) (a : Int) (h : R64 a) : R64 (k2 o l i a) := wu_rng _
theorem key_spec {r : Rules} {p : Place} (h : Valid r p) : zobOf p = some (keyOf p) := by
  have ht := h.r0.t6
  have a0 : p.2.1.1.length = r.pieces.length := h.l0
  have a1 : p.2.1.2.1.length = r.pieces.length := h.l1
  unfold zobOf keyOf
  rw [key1 h, Option.bind_some]
  generalize foldN (k1 p) p.1.length 0 = a
  have hL : iterW (zobOf_L2 p) ((a, (0 : Int), ()), ()) = some ((foldN (k2 1 p.2.1.2.1) p.2.1.2.1.length (foldN (k2 0 p.2.1.1) p.2.1.1.length a), ()), ()) := by
    rw [iterW_inl (y := ((foldN (k2 0 p.2.1.1) p.2.1.1.length a, (1 : Int), ()), ())) (by
      unfold zobOf_L2
      have := key3 (p := p) 0 (by omega) p.2.1.1 rfl (by omega) a a
      simp only [show decide ((0 : Int) < 2) = true from rfl, cond_true, show inb (0 : Int) 2 = true from rfl, req_true]
      rw [show iterW (zobOf_L3 p ((a, (0 : Int), ()), ())) ((a, (0 : Int), ()), ()) = _ from this]
      rfl)]
    rw [iterW_inl (y := ((foldN (k2 1 p.2.1.2.1) p.2.1.2.1.length (foldN (k2 0 p.2.1.1) p.2.1.1.length a), (2 : Int), ()), ())) (by
      unfold zobOf_L2
      have := key3 (p := p) 1 (by omega) p.2.1.2.1 rfl (by omega) (foldN (k2 0 p.2.1.1) p.2.1.1.length a) (foldN (k2 0 p.2.1.1) p.2.1.1.length a)
      simp only [show decide ((1 : Int) < 2) = true from rfl, cond_true, show inb (1 : Int) 2 = true from rfl, req_true]
      rw [show iterW (zobOf_L3 p ((foldN (k2 0 p.2.1.1) p.2.1.1.length a, (1 : Int), ()), ())) ((foldN (k2 0 p.2.1.1) p.2.1.1.length a, (0 : Int), ()), ()) = _ from this]
      rfl)]
    exact iterW_inr rfl
  simp only
  rw [hL, Option.bind_some, show (p.2.2.1 == (1 : Int)) = (p.turn == 1) from rfl]
  cases (p.turn == 1) <;> rfl
end Go.Proofs.YtfppnefcicdnfaaGreat
namespace Go.Proofs.YtfppnefcicdnfaaGreat
open Go.Den
set_option linter.unusedVariables false
set_option linter.unusedSimpArgs false
set_option maxRecDepth 100000

/-- the entries of a game's moves -/
def enG (r : Rules) (w : Int) : List Mv → List Place × List Mv → List BE
  | [], _ => []
  | m :: k, s => (keyOf (lastP s.1), (m, (w, ()))) :: enG r w k (nextG r s m)
theorem enG_len (r : Rules) (w : Int) : ∀ (k : List Mv) (s : List Place × List Mv), (enG r w k s).length = k.length
  | [], _ => rfl
  | m :: k, s => by rw [enG, List.length_cons, enG_len r w k, List.length_cons]
theorem enG_ok {r : Rules} {w : Int} (hw : 1 ≤ w ∧ w ≤ 1000000) : ∀ (k : List Mv) (s : List Place × List Mv), OKW (enG r w k s)
  | [], _ => fun x hx => by cases hx
  | m :: k, s => fun x hx => by
    rcases List.mem_cons.1 hx with rfl | hx
    · exact hw
    · exact enG_ok hw k _ x hx
theorem runG_app (r : Rules) : ∀ (a b : List Mv) (s : List Place × List Mv), runG r (a ++ b) s = match runG r a s with
    | .inl s' => runG r b s'
    | .inr e => .inr e
  | [], b, s => rfl
  | m :: a, b, s => by
    have e : ∀ k, runG r (m :: k) s = if stepG r s m = 0 then runG r k (nextG r s m) else .inr (stepG r s m) := fun _ => rfl
    rw [List.cons_append, e, e]
    by_cases c : stepG r s m = 0
    · rw [if_pos c, if_pos c, runG_app r a b]
    · rw [if_neg c, if_neg c]
theorem runG_take {r : Rules} {l : List Mv} {s s' : List Place × List Mv} (n : Nat) (h : runG r l s = .inl s') : ∃ s2, runG r (l.take n) s = .inl s2 := by
  rw [← List.take_append_drop n l, runG_app] at h
  cases hq : runG r (l.take n) s with
  | inl s2 => exact ⟨s2, rfl⟩
  | inr e => rw [hq] at h; cases h
theorem add_loop {r : Rules} (game : List Mv) (plies weight : Int) (tk : List Mv) (htk : (game.take ((if ((game.length : Nat) : Int) < plies then ((game.length : Nat) : Int) else plies)).toNat).drop 0 = tk) (hl : tk.length ≤ 1000) (hw : 1 ≤ weight ∧ weight ≤ 1000000) :
    ∀ (k i : Nat) (s : List Place × List Mv) (out : List BE), i + k = tk.length → OKG r s → (∃ s', runG r (tk.drop i) s = .inl s') → Srt' out → OKW out → out.length + k ≤ 2000 →
      ∃ q, iterW (bookAdd_L1 game plies weight r) ((out, (i : Int), ()), (flp (lastP s.1), ())) = some (((enG r weight (tk.drop i) s).foldl insB out, ()), (q, ()))
  | 0, i, s, out, hi, ho, hs, h1, h2, h3 => by
    have : i = tk.length := by omega
    subst this
    refine ⟨flp (lastP s.1), ?_⟩
    rw [List.drop_length]
    refine iterW_inr ?_
    unfold bookAdd_L1
    simp only [htk, nltd, cond_false]
    rfl
  | k + 1, i, s, out, hi, ho, hs, h1, h2, h3 => by
    have hil : i < tk.length := by omega
    obtain ⟨s', hs⟩ := hs
    rw [List.drop_eq_getElem_cons hil] at hs ⊢
    unfold runG at hs
    by_cases c : stepG r s tk[i] = 0
    · rw [if_pos c] at hs
      have hv : Valid r (lastP s.1) := ho.last
      have hd : 1 ≤ ((keyOf (lastP s.1), (tk[i], (weight, ()))) : BE).2.2.1 ∧ ((keyOf (lastP s.1), (tk[i], (weight, ()))) : BE).2.2.1 ≤ 1000000 := hw
      have hlen := insB_len (keyOf (lastP s.1), (tk[i], (weight, ()))) out
      obtain ⟨q, hq⟩ := add_loop game plies weight tk htk hl hw k (i + 1) (nextG r s tk[i]) (insB out (keyOf (lastP s.1), (tk[i], (weight, ())))) (by omega) (next_ok ho c) ⟨s', hs⟩ (insB_srt _ h1) (insB_ok h2 hd) (by omega)
      refine ⟨q, ?_⟩
      have e : bookAdd_L1 game plies weight r ((out, (i : Int), ()), (flp (lastP s.1), ())) = bif (decide ((i : Int) < ((((game.take ((if ((game.length : Nat) : Int) < plies then ((game.length : Nat) : Int) else plies)).toNat).drop 0).length : Nat) : Int))) then (Option.bind (at? ((game.take ((if ((game.length : Nat) : Int) < plies then ((game.length : Nat) : Int) else plies)).toNat).drop 0) (i : Int)) fun d =>
        Option.bind (Option.bind (zobOf (lastP s.1)) fun z => addF out (z, (d, (weight, ())))) fun x => Option.bind (movesMake r (lastP s.1) d) fun p => some (Sum.inl ((x.1.1, (w64 ((i : Int) + 1)), ()), (flp p, ())))) else some (Sum.inr ((out, ()), (flp (lastP s.1), ()))) := rfl
      rw [htk, ltd tk i hil, cond_true, at_natB tk i hil, Option.bind_some, key_spec hv, Option.bind_some, addF_spec _ _ (by omega) h1 h2 hd, Option.bind_some, make_spec hv (step_0 c).2, Option.bind_some, w64_id (by omega) (by omega)] at e
      rw [iterW_inl e]
      have el : lastP (nextG r s tk[i]).1 = afterOf r (lastP s.1) tk[i] := by
        unfold nextG lastP
        simp [getD']
      rw [el] at hq
      rw [show ((i : Int) + 1) = ((i + 1 : Nat) : Int) by omega, hq]
      rfl
    · rw [if_neg c] at hs; cases hs
/-- what a game adds to an empty book -/
def addRes (r : Rules) (game : List Mv) (plies weight : Int) : List BE × Int × Unit := if (runRes r game).2.2.1 = 0 then if plies < 0 ∨ weight < 1 ∨ weight > 1000000 then ([], (4, ())) else ((enG r weight (game.take plies.toNat) ([beginOf r], [])).foldl insB [], (0, ())) else ([], ((runRes r game).2.2.1, ()))
theorem runRes_0 {r : Rules} {l : List Mv} (h : (runRes r l).2.2.1 = 0) : ruleErr r = 0 ∧ ∃ s, gameOf r l = .inl s := by
  unfold runRes at h
  split at h
  · rename_i c
    refine ⟨c, ?_⟩
    cases hq : gameOf r l with
    | inl s => exact ⟨s, rfl⟩
    | inr e =>
      rw [hq] at h
      exfalso
      have h : e = 0 := h
      subst h
      have key : ∀ (k : List Mv) (s : List Place × List Mv), runG r k s ≠ .inr 0 := by
        intro k
        induction k with
        | nil => intro s e; cases e
        | cons m k ih =>
          intro s e
          unfold runG at e
          split at e
          · exact ih _ e
          · rename_i c; exact c (Sum.inr.inj e)
      exact key l _ hq
  · rename_i c; exact absurd h c
theorem add_spec (r : Rules) (hr : Rng tyRules r) (game : List Mv) (hg : game.length ≤ 500) (plies weight : Int) : bookAdd r [] game plies weight = some (addRes r game plies weight) := by
  unfold bookAdd addRes
  rw [check_specB [] (by simp), Option.bind_some, show ((chkB []) != (0 : Int)) = false from rfl, cond_false, run_spec r game hr (by omega), Option.bind_some]
  by_cases c : (runRes r game).2.2.1 = 0
  · rw [bne_f c, cond_false, if_pos c]
    obtain ⟨hc, s', hs⟩ := runRes_0 c
    by_cases c2 : plies < 0 ∨ weight < 1 ∨ weight > 1000000
    · rw [if_pos c2, show ((decide (plies < 0) || decide (weight < 1)) || decide (weight > 1000000)) = true by simp only [Bool.or_eq_true, decide_eq_true_eq]; omega, cond_true]
    · rw [if_neg c2, show ((decide (plies < 0) || decide (weight < 1)) || decide (weight > 1000000)) = false by
        rw [Bool.eq_false_iff]; intro h; simp only [Bool.or_eq_true, decide_eq_true_eq] at h; omega, cond_false]
      rw [cloneB [] (by simp), Option.bind_some, begin_spec r hr, if_pos hc, Option.bind_some]
      have hb : boundsI 0 (if ((game.length : Nat) : Int) < plies then ((game.length : Nat) : Int) else plies) game.length = true := by
        unfold boundsI
        by_cases h : ((game.length : Nat) : Int) < plies
        · rw [if_pos h]; simp only [Bool.and_eq_true, decide_eq_true_eq]; omega
        · rw [if_neg h]; simp only [Bool.and_eq_true, decide_eq_true_eq]; omega
      rw [hb, req_true]
      have htk : (game.take ((if ((game.length : Nat) : Int) < plies then ((game.length : Nat) : Int) else plies)).toNat).drop 0 = game.take plies.toNat := by
        rw [List.drop_zero]
        by_cases h : ((game.length : Nat) : Int) < plies
        · rw [if_pos h, Int.toNat_natCast, List.take_length, List.take_of_length_le (by omega)]
        · rw [if_neg h]
      have hlen : (game.take plies.toNat).length ≤ 500 := by rw [List.length_take]; omega
      obtain ⟨q, hq⟩ := add_loop (r := r) game plies weight (game.take plies.toNat) htk (by omega) (by omega) (game.take plies.toNat).length 0 ([beginOf r], []) [] (by omega) (begin_okG hc) (by rw [List.drop_zero]; exact runG_take _ hs) List.Pairwise.nil (fun x hx => by cases hx) (by simp only [List.length_nil]; omega)
      have hq' : iterW (bookAdd_L1 game plies weight r) ((([] : List BE), (0 : Int), ()), ((beginOf r).1, ((beginOf r).2.1.1, ((beginOf r).2.1.2.1, (beginOf r).2.2))), ()) = _ := hq
      rw [hq', Option.bind_some, List.drop_zero]
      have h4 := (insL_all (enG r weight (game.take plies.toNat) ([beginOf r], [])) (a := []) List.Pairwise.nil (fun x hx => by cases hx) (enG_ok (by omega) _ _)).2.2.1
      rw [enG_len] at h4
      simp only [List.length_nil, Nat.zero_add] at h4
      unfold bookFull_o
      simp only [show decide ((((List.foldl insB [] (enG r weight (game.take plies.toNat) ([beginOf r], []))).length : Nat) : Int) > 1000) = false by simp; omega, cond_false, Option.bind_some]
  · rw [bne_t c, cond_true, if_neg c]
theorem books_true : law3Books = some true := by
  unfold law3Books
  have e : bookAdd law3Tic [] [law3Drop 4] 1 7 = some (addRes law3Tic [law3Drop 4] 1 7) := add_spec law3Tic tic_rng _ (by decide) 1 7
  have h0 : stepG law3Tic ([beginOf law3Tic], []) (law3Drop 4) = 0 := by decide +kernel
  have h1 : (runRes law3Tic [law3Drop 4]).2.2.1 = 0 := by
    unfold runRes
    rw [if_pos tic_ok]
    unfold gameOf runG
    rw [if_pos h0]
    rfl
  have h2 : addRes law3Tic [law3Drop 4] 1 7 = ([(keyOf (beginOf law3Tic), (law3Drop 4, (7, ())))], (0, ())) := by
    unfold addRes
    rw [if_pos h1, if_neg (by decide)]
    rfl
  rw [h2] at e
  have e' : bookAdd ((law3Tic).1, (((law3Tic).2).1, ((((law3Tic).2).2).1, (((((law3Tic).2).2).2).1, ((((((law3Tic).2).2).2).2).1, (((((((law3Tic).2).2).2).2).2).1, ((((((((law3Tic).2).2).2).2).2).2).1, (((((((((law3Tic).2).2).2).2).2).2).2).1, ((((((((((law3Tic).2).2).2).2).2).2).2).2).1, (((((((((((law3Tic).2).2).2).2).2).2).2).2).2).1, ((((((((((((law3Tic).2).2).2).2).2).2).2).2).2).2).1, ()))))))))))) [] [law3Drop 4] 1 7 = _ := e
  rw [e']
  rfl
end Go.Proofs.YtfppnefcicdnfaaGreat
namespace Go.Proofs.YtfppnefcicdnfaaGreat
open Go.Den
set_option linter.unusedVariables false
set_option linter.unusedSimpArgs false
set_option maxRecDepth 100000

theorem chkB_zero {b : List BE} (hw : OKW b) (hs : Srt' b) : chkB b = 0 := by
  unfold chkB firstNZ
  have : ∀ (k i : Nat), i + k = b.length → scan (fun i => nz (errB b i)) 0 i k = 0 := by
    intro k
    induction k with
    | zero => intro i _; rfl
    | succ k ih =>
      intro i hi
      have hil : i < b.length := by omega
      have h0 : errB b i = 0 := by
        unfold errB
        rw [getD_atB b i hil]
        have h1 := hw b[i] (List.getElem_mem hil)
        have h2 : bad4 b[i] = false := by
          unfold bad4
          simp only [Bool.or_eq_false_iff, decide_eq_false_iff_not]
          omega
        rw [h2]
        simp only [Bool.false_eq_true, if_false]
        by_cases c : 0 < i
        · rw [getD_atB b (i - 1) (by omega), List.pairwise_iff_getElem.1 hs (i - 1) i (by omega) hil (by omega)]
          simp
        · simp [c]
      unfold scan
      simp only [h0]
      exact ih (i + 1) (by omega)
  exact this b.length 0 (by omega)
/-- is there an entry with a key -/
def hasB (b : List BE) (k : Int × Mv) : Bool := b.any fun x => decide (keyE x = k)
theorem hasB_iff (b : List BE) (k : Int × Mv) : hasB b k = true ↔ ∃ x ∈ b, keyE x = k := by
  unfold hasB
  rw [List.any_eq_true]
  simp only [decide_eq_true_eq]
theorem has_look (b : List BE) (k : Int × Mv) : hasB b k = (lookE b k).isSome := by
  rw [Bool.eq_iff_iff, hasB_iff]
  constructor
  · rintro ⟨x, hx, hk⟩
    unfold lookE
    cases hq : b.find? fun x => decide (keyE x = k) with
    | some y => rfl
    | none => exact absurd (decide_eq_true hk) (List.find?_eq_none.1 hq x hx)
  · intro h
    unfold lookE at h
    cases hq : b.find? fun x => decide (keyE x = k) with
    | some y =>
      have h2 := List.find?_some hq
      exact ⟨y, List.mem_of_find?_eq_some hq, of_decide_eq_true h2⟩
    | none => rw [hq] at h; cases h
theorem upd_some (k : Int × Mv) : ∀ (l : List BE) (f : Int × Mv → Option Int), (l.foldl updE f k).isSome = ((f k).isSome || hasB l k)
  | [], f => by simp [hasB]
  | d :: l, f => by
    rw [List.foldl_cons, upd_some k l]
    unfold updE hasB
    rw [List.any_cons]
    by_cases e : k = keyE d
    · rw [if_pos e, decide_eq_true e.symm]
      simp
    · rw [if_neg e, decide_eq_false (fun q => e q.symm), Bool.false_or]
theorem has_ins (l : List BE) (hw : OKW l) (k : Int × Mv) : hasB (l.foldl insB []) k = hasB l k := by
  obtain ⟨q1, q2, q3, q4⟩ := insL_all l (a := []) List.Pairwise.nil (fun x hx => by cases hx) hw
  rw [has_look, q4, upd_some]
  rfl
theorem has_pos {l : List BE} (hs : Srt' l) (d : BE) : hasB l (keyE d) = (decide (posE l d < l.length) && decide (keyE (l.getD (posE l d) dBE) = keyE d)) := by
  rw [Bool.eq_iff_iff, hasB_iff, Bool.and_eq_true, decide_eq_true_eq, decide_eq_true_eq]
  constructor
  · rintro ⟨x, hx, hk⟩
    obtain ⟨k, hkl, rfl⟩ := List.mem_iff_getElem.1 hx
    have h1 := posE_iff d hs k hkl
    rw [ltE_key hk rfl, ltE_irr] at h1
    have h2 : posE l d ≤ k := by
      have := of_decide_eq_false h1.symm
      omega
    have h3 : posE l d = k := by
      by_cases e : posE l d = k
      · exact e
      · exfalso
        have h4 := posE_iff d hs (posE l d) (by omega)
        rw [decide_eq_false (Nat.lt_irrefl _)] at h4
        have h5 := List.pairwise_iff_getElem.1 hs (posE l d) k (by omega) hkl (by omega)
        rw [ltE_key rfl hk] at h5
        rw [h5] at h4
        cases h4
    exact ⟨by omega, by rw [h3, getD_atB l k hkl]; exact hk⟩
  · rintro ⟨h1, h2⟩
    exact ⟨l[posE l d], List.getElem_mem h1, by rw [← getD_atB l _ h1]; exact h2⟩
/-! ### which moves are covered -/
noncomputable def covF (b : List BE) (z : Int) (d : Mv) : Option ((Bool × Unit) × Unit) :=
  Option.bind (iterW (bookCover_L2 b z d) (((0 : Int), ((b.length : Nat) : Int), ()), ())) fun x14 =>
  Option.bind (Option.bind (gat (decide (x14.1.1 < ((b.length : Nat) : Int))) dBE b x14.1.1) fun d15 =>
  bif (decide (x14.1.1 < ((b.length : Nat) : Int))) then (Option.bind (bookOrder d15 (z, (d, ((0 : Int), ())))) fun r16 =>
  some ((x14.1.1, (r16 == (0 : Int)), ()), ()))
  else some ((x14.1.1, false, ()), ())) fun x17 =>
  some ((x17.1.2.1, ()), ())
theorem covF_spec (b : List BE) (z : Int) (d : Mv) (hl : b.length ≤ 2000) (hs : Srt' b) : covF b z d = some ((hasB b (z, d), ()), ()) := by
  unfold covF
  have hh : iterW (bookCover_L2 b z d) (((0 : Int), ((b.length : Nat) : Int), ()), ()) = some ((((posE b (z, (d, ((0 : Int), ()))) : Nat) : Int), ()), ()) := by
    refine half_loop b.length (fun k => ltE (b.getD k dBE) (z, (d, ((0 : Int), ())))) (posE b (z, (d, ((0 : Int), ())))) (by omega) (fun k hk => by rw [getD_atB b k hk, posE_iff _ hs k hk]) (posE_le b _) (fun lo hi h1 h2 => ?_) (fun lo => by
      unfold bookCover_L2
      simp only [Int.lt_irrefl, decide_false, cond_false])
    unfold bookCover_L2
    simp only [show decide ((lo : Int) < (hi : Int)) = true by simp; omega, cond_true]
    rw [mid_eq lo hi (by omega), at_natB b ((lo + hi) / 2) (by omega), Option.bind_some, order_spec, Option.bind_some, ord_lt, getD_atB b ((lo + hi) / 2) (by omega)]
    rw [w64_id (n := (((lo + hi) / 2 : Nat) : Int) + 1) (by omega) (by omega)]
    cases ltE b[(lo + hi) / 2] (z, (d, ((0 : Int), ())))
    · rfl
    · rfl
  rw [hh, Option.bind_some]
  have hp := has_pos hs (z, (d, ((0 : Int), ())))
  have hk : keyE (z, (d, ((0 : Int), ()))) = (z, d) := rfl
  rw [hk] at hp
  by_cases h1 : posE b (z, (d, ((0 : Int), ()))) < b.length
  · simp only [show decide (((posE b (z, (d, ((0 : Int), ()))) : Nat) : Int) < ((b.length : Nat) : Int)) = true by simp; omega, gat, cond_true]
    rw [at_natB b _ h1, Option.bind_some, order_spec, Option.bind_some, Option.bind_some, ord_0, hk, hp, decide_eq_true h1, Bool.true_and, getD_atB b _ h1]
  · simp only [show decide (((posE b (z, (d, ((0 : Int), ()))) : Nat) : Int) < ((b.length : Nat) : Int)) = false by simp; omega, gat, cond_false, Option.bind_some]
    rw [hp, decide_eq_false h1, Bool.false_and]
/-- how many moves are covered -/
def covG (r : Rules) (b : List BE) : List Mv → List Place × List Mv → Nat
  | [], _ => 0
  | m :: k, s => if hasB b (keyOf (lastP s.1), m) = true then covG r b k (nextG r s m) + 1 else 0
theorem covG_le (r : Rules) (b : List BE) : ∀ (k : List Mv) (s : List Place × List Mv), covG r b k s ≤ k.length
  | [], _ => Nat.le_refl _
  | m :: k, s => by
    unfold covG
    split
    · have := covG_le r b k (nextG r s m)
      simp only [List.length_cons]
      omega
    · omega
theorem lastP_next (r : Rules) (s : List Place × List Mv) (m : Mv) : lastP (nextG r s m).1 = afterOf r (lastP s.1) m := by
  unfold nextG lastP
  simp [getD']
theorem cover_loop {r : Rules} {b : List BE} (hb : b.length ≤ 2000) (hsb : Srt' b) (game : List Mv) (hl : game.length ≤ 1000) :
    ∀ (k i : Nat) (s : List Place × List Mv), i + k = game.length → OKG r s → (∃ s', runG r (game.drop i) s = .inl s') →
      Option.bind (iterW (bookCover_L1 game b r) (((i : Int), ()), (flp (lastP s.1), ()))) (Sum.elim (fun _ => some (((game.length : Nat) : Int), ((0 : Int), ()))) some) = some (((i + covG r b (game.drop i) s : Nat) : Int), ((0 : Int), ()))
  | 0, i, s, hi, ho, hs => by
    have : i = game.length := by omega
    subst this
    rw [List.drop_length]
    rw [iterW_inr (r := .inl ((), (flp (lastP s.1), ()))) (by
      unfold bookCover_L1
      simp only [nltd, cond_false])]
    rfl
  | k + 1, i, s, hi, ho, hs => by
    have hil : i < game.length := by omega
    obtain ⟨s', hs⟩ := hs
    rw [List.drop_eq_getElem_cons hil] at hs ⊢
    unfold runG at hs
    by_cases c : stepG r s game[i] = 0
    · rw [if_pos c] at hs
      have hv : Valid r (lastP s.1) := ho.last
      have e : bookCover_L1 game b r (((i : Int), ()), (flp (lastP s.1), ())) = bif (decide ((i : Int) < ((game.length : Nat) : Int))) then (Option.bind (at? game (i : Int)) fun d =>
        Option.bind (agree (Option.bind (zobOf (lastP s.1)) fun z => covF b z d) (Option.bind (zobOf (lastP s.1)) fun z => covF b z d)) fun x => bif (!x.1.1) then some (Sum.inr (Sum.inr ((i : Int), ((0 : Int), ())))) else Option.bind (movesMake r (lastP s.1) d) fun p => some (Sum.inl (((w64 ((i : Int) + 1)), ()), (flp p, ())))) else some (Sum.inr (Sum.inl ((), (flp (lastP s.1), ())))) := rfl
      rw [ltd game i hil, cond_true, at_natB game i hil, Option.bind_some, agree_self, key_spec hv, Option.bind_some, covF_spec b _ _ hb hsb, Option.bind_some] at e
      unfold covG
      cases hh : hasB b (keyOf (lastP s.1), game[i])
      · rw [hh] at e
        simp only [Bool.not_false, cond_true] at e
        rw [iterW_inr e]
        simp
      · rw [hh] at e
        simp only [Bool.not_true, cond_false] at e
        rw [make_spec hv (step_0 c).2, Option.bind_some, w64_id (by omega) (by omega)] at e
        have ih := cover_loop hb hsb game hl k (i + 1) (nextG r s game[i]) (by omega) (next_ok ho c) ⟨s', hs⟩
        rw [lastP_next] at ih
        rw [iterW_inl e, if_pos rfl, show ((i : Int) + 1) = ((i + 1 : Nat) : Int) by omega, ih]
        congr 2
        omega
    · rw [if_neg c] at hs; cases hs
theorem cover_spec (r : Rules) (hr : Rng tyRules r) (b : List BE) (hb : b.length ≤ 1000) (hw : OKW b) (hsb : Srt' b) (game : List Mv) (hl : game.length ≤ 500) :
    bookCover r b game = some (if (runRes r game).2.2.1 = 0 then (((covG r b game ([beginOf r], []) : Nat) : Int), ((0 : Int), ())) else ((0 : Int), ((runRes r game).2.2.1, ()))) := by
  unfold bookCover
  rw [check_specB b hb, Option.bind_some, chkB_zero hw hsb, show ((0 : Int) != 0) = false from rfl, cond_false, run_spec r game hr (by omega), Option.bind_some]
  by_cases c : (runRes r game).2.2.1 = 0
  · rw [bne_f c, cond_false, if_pos c]
    obtain ⟨hc, s', hs⟩ := runRes_0 c
    rw [begin_spec r hr, if_pos hc, Option.bind_some]
    have := cover_loop (r := r) (by omega : b.length ≤ 2000) hsb game (by omega) game.length 0 ([beginOf r], []) (by omega) (begin_okG hc) ⟨s', by rw [List.drop_zero]; exact hs⟩
    rw [List.drop_zero, Nat.zero_add] at this
    exact this
  · rw [bne_t c, cond_true, if_neg c]
/-! ### the moves of a position -/
def thereB (b : List BE) (K : Int) (mo : List Mv) : List BE := b.filter fun x => (x.1 == K) && decide (x.2.1 ∈ mo)
theorem filt_fold {A : Type} (p : A → Bool) : ∀ (m s : List A), m.foldl (fun s d => if p d = true then s ++ [d] else s) s = s ++ m.filter p
  | [], s => by simp
  | d :: m, s => by
    rw [List.foldl_cons, filt_fold p m, List.filter_cons]
    split
    · simp
    · rfl
theorem iter_foldlM {A S R : Type} (xs : List A) (f : ((S × Int × Unit) × Unit) → Option (((S × Int × Unit) × Unit) ⊕ R)) (g : S → A → S) (fin : S → R) (I : Nat → S → Prop)
    (hs : ∀ i (hi : i < xs.length) s, I i s → f ((s, (i : Int), ()), ()) = some (.inl ((g s xs[i], ((i + 1 : Nat) : Int), ()), ())) ∧ I (i + 1) (g s xs[i]))
    (he : ∀ s, I xs.length s → f ((s, (xs.length : Int), ()), ()) = some (.inr (fin s))) (s0 : S) (h0 : I 0 s0) :
    iterW f ((s0, (0 : Int), ()), ()) = some (fin (xs.foldl g s0)) := by
  have := iter_scan xs f (fun i s => ((s, (i : Int), ()), ())) (fun s x => (.inl (g s x) : S ⊕ R)) fin I (fun i hi s h => (hs i hi s h).1) (fun i hi s s' h e => by
    cases e; exact (hs i hi s h).2) he s0 h0
  rw [scanL_inl _ g fin xs s0 (fun _ _ _ => rfl)] at this
  exact this
theorem listB_spec (r : Rules) (b : List BE) (hb : b.length ≤ 1000) (p : Place) (hv : Valid r p) : bookList r b p = some (thereB b (keyOf p) (movesOf r p)) := by
  unfold bookList
  rw [key_spec hv, Option.bind_some, list_spec hv, Option.bind_some]
  have := iter_foldlM b (bookList_L1 b (keyOf p) (movesOf r p)) (fun s d => if ((d.1 == keyOf p) && decide (d.2.1 ∈ movesOf r p)) = true then s ++ [d] else s) (fun s => ((s, ()), ())) (fun i s => s.length ≤ i) (fun i hi s h => by
    refine ⟨?_, ?_⟩
    · unfold bookList_L1
      simp only [ltd b i hi, cond_true]
      rw [at_natB b i hi, Option.bind_some, index_spec _ _ (by have := movesOf_len hv; omega), w64_id (n := (i : Int) + 1) (by omega) (by omega)]
      have hroom : room (s.length + ([b[i]] : List BE).length) 40 = true := room_ok (by simp only [List.length_cons, List.length_nil]; omega)
      cases c1 : (b[i].1 == keyOf p)
      · simp only [gopt, cond_false, Option.bind_some, Bool.false_and, Bool.false_eq_true, if_false]
        rfl
      · simp only [gopt, cond_true, Option.bind_some, Bool.true_and]
        cases c2 : decide (b[i].2.1 ∈ movesOf r p)
        · simp only [cond_false, Option.bind_some, Bool.false_eq_true, if_false]
          rfl
        · simp only [cond_true, if_pos rfl]
          rw [hroom, req_true]
          rfl
    · split
      · rw [List.length_append]; simp; omega
      · omega) (fun s _ => by unfold bookList_L1; simp) [] (by simp)
  rw [this, filt_fold, Option.bind_some, List.nil_append]
  rfl
theorem zkeyB (r : Rules) (p : Place) (hr : Rng tyRules r) (hc : ruleErr r = 0) (hv : Valid r p) : zobKey r p = some (keyOf p, 0, ()) := by
  unfold zobKey
  have h := place_spec r p hr (by have := area_len hv; omega)
  rw [h, Option.bind_some, valid_ok hc hv, show ((0 : Int) != 0) = false from rfl, cond_false, key_spec hv]
  rfl
theorem movesB_spec (r : Rules) (hr : Rng tyRules r) (hc : ruleErr r = 0) (b : List BE) (hb : b.length ≤ 1000) (hw : OKW b) (hsb : Srt' b) (p : Place) (hv : Valid r p) : bookMoves r b p = some (thereB b (keyOf p) (movesOf r p), ((0 : Int), ())) := by
  unfold bookMoves
  rw [check_specB b hb, Option.bind_some, chkB_zero hw hsb, show ((0 : Int) != 0) = false from rfl, cond_false, zkeyB r p hr hc hv, Option.bind_some]
  simp only [show ((0 : Int) != 0) = false from rfl, cond_false]
  rw [listB_spec r b hb p hv]
  rfl
theorem there_moves (r : Rules) {b : List BE} (hsb : Srt' b) (p : Place) : (thereB b (keyOf p) (movesOf r p)).map (fun x => x.2.1) = (movesOf r p).filter fun m => hasB b (keyOf p, m) := by
  refine lt_unique ?_ ((movesOf_lt r p).filter _) fun m => ?_
  · unfold thereB
    rw [List.pairwise_map]
    refine List.Pairwise.imp_of_mem (fun {x y} hx hy h => ?_) (hsb.filter _)
    have h1 := (List.mem_filter.1 hx).2
    have h2 := (List.mem_filter.1 hy).2
    simp only [Bool.and_eq_true, beq_iff_eq, decide_eq_true_eq] at h1 h2
    rw [ltE_iff] at h
    rw [lt_iff]
    omega
  · rw [List.mem_map, List.mem_filter, hasB_iff]
    constructor
    · rintro ⟨x, hx, rfl⟩
      obtain ⟨h1, h2⟩ := List.mem_filter.1 hx
      simp only [Bool.and_eq_true, beq_iff_eq, decide_eq_true_eq] at h2
      exact ⟨h2.2, x, h1, by unfold keyE; rw [h2.1]⟩
    · rintro ⟨h1, x, hx, hk⟩
      have h3 : x.1 = keyOf p := congrArg Prod.fst hk
      have h4 : x.2.1 = m := congrArg Prod.snd hk
      refine ⟨x, List.mem_filter.2 ⟨hx, ?_⟩, h4⟩
      simp only [Bool.and_eq_true, beq_iff_eq, decide_eq_true_eq]
      exact ⟨h3, by rw [h4]; exact h1⟩
end Go.Proofs.YtfppnefcicdnfaaGreat
namespace Go.Proofs.YtfppnefcicdnfaaGreat
open Go.Den
set_option linter.unusedVariables false
set_option linter.unusedSimpArgs false
set_option maxRecDepth 100000

theorem keyB (r : Rules) (p : Place) (hr : Rng tyRules r) (hc : ruleErr r = 0) (hv : Valid r p) : law3Key r p = some (keyOf p) := by
  unfold law3Key
  rw [zkeyB r p hr hc hv]
  rfl
theorem pos_at {r : Rules} {k : List Mv} {s s' : List Place × List Mv} {i : Nat} (hs : runG r k s = .inl s') (hi : s.1.length = i + 1) : getD' s'.1 i dP = lastP s.1 := by
  rw [(run_pre k s s' hs).2 i (by omega)]
  unfold lastP
  rw [hi]
  rfl
theorem at_pos {r : Rules} {k : List Mv} {s s' : List Place × List Mv} {i : Nat} (hs : runG r k s = .inl s') (hi : s.1.length = i + 1) : at? s'.1 (i : Int) = some (lastP s.1) := by
  have h1 := (run_pre k s s' hs).1
  rw [at_natB s'.1 i (by omega), ← pos_at hs hi]
  unfold getD'
  rw [List.getD_eq_getElem?_getD, List.getElem?_eq_getElem (by omega)]
  rfl
/-- is a move of a game's first moves one of a position with the same key -/
theorem inBook_loop {r : Rules} (hr : Rng tyRules r) (w : Int) (q : Place) (hq : Valid r q) (m : Mv) (L : List Mv) (hL : L.length ≤ 1000) (n : Nat) (hn : n ≤ L.length) (sF : List Place × List Mv) :
    ∀ (k i : Nat) (s : List Place × List Mv), i + k = n → OKG r s → s.1.length = i + 1 → runG r (L.drop i) s = .inl sF →
      Option.bind (iterW (law3InBook_L1 (n : Int) sF.1 r q L m) (((i : Int), ()), ())) (Sum.elim (fun _ => some false) some) = some (hasB (enG r w ((L.take n).drop i) s) (keyOf q, m))
  | 0, i, s, hi, ho, hl, hs => by
    have : i = n := by omega
    subst this
    rw [List.drop_eq_nil_of_le (by rw [List.length_take]; omega)]
    rw [iterW_inr (r := .inl ((), ())) (by
      unfold law3InBook_L1
      simp only [Int.lt_irrefl, decide_false, cond_false])]
    rfl
  | k + 1, i, s, hi, ho, hl, hs => by
    have hil : i < L.length := by omega
    have hv : Valid r (lastP s.1) := ho.last
    have hp := at_pos hs hl
    rw [List.drop_eq_getElem_cons hil] at hs
    have ht : (L.take n).drop i = L[i] :: (L.take n).drop (i + 1) := by
      rw [List.drop_eq_getElem_cons (by rw [List.length_take]; omega), List.getElem_take]
    rw [ht]
    have hen : hasB (enG r w (L[i] :: (L.take n).drop (i + 1)) s) (keyOf q, m) = (decide ((keyOf (lastP s.1), L[i]) = (keyOf q, m)) || hasB (enG r w ((L.take n).drop (i + 1)) (nextG r s L[i])) (keyOf q, m)) := rfl
    rw [hen]
    unfold runG at hs
    by_cases c : stepG r s L[i] = 0
    · rw [if_pos c] at hs
      have ih := inBook_loop hr w q hq m L hL n hn sF k (i + 1) (nextG r s L[i]) (by omega) (next_ok ho c) (by unfold nextG; simp; omega) hs
      have e : law3InBook_L1 (n : Int) sF.1 r q L m (((i : Int), ()), ()) = bif decide ((keyOf (lastP s.1), L[i]) = (keyOf q, m)) then some (.inr (.inr true)) else some (.inl ((((i + 1 : Nat) : Int), ()), ())) := by
        unfold law3InBook_L1
        simp only [show decide ((i : Int) < (n : Int)) = true by simp; omega, cond_true]
        rw [hp, Option.bind_some, keyB r _ hr ho.ok hv, Option.bind_some, keyB r q hr ho.ok hq, Option.bind_some, w64_id (n := (i : Int) + 1) (by omega) (by omega)]
        by_cases ck : keyOf (lastP s.1) = keyOf q
        · rw [beq_t ck]
          simp only [gat, cond_true, at_natB L i hil, Option.bind_some, Bool.true_and]
          rw [mv_beq]
          have : decide ((keyOf (lastP s.1), L[i]) = (keyOf q, m)) = decide (L[i] = m) := by rw [ck]; simp
          rw [this]
          rfl
        · rw [beq_f ck]
          simp only [gat, cond_false, Option.bind_some, Bool.false_and]
          rw [decide_eq_false (fun e => ck (congrArg Prod.fst e)), cond_false]
          rfl
      cases hd : decide ((keyOf (lastP s.1), L[i]) = (keyOf q, m))
      · rw [hd, cond_false] at e
        rw [iterW_inl e, ih, Bool.false_or]
      · rw [hd, cond_true] at e
        rw [iterW_inr e]
        rfl
    · rw [if_neg c] at hs; cases hs
/-- a game's places, its book, and what the law asks of them -/
structure Bk (r : Rules) (L : List Mv) (n : Nat) (P : List Place) (B : List BE) : Prop where
  hr : Rng tyRules r
  hc : ruleErr r = 0
  inB : ∀ (q : Place) (m : Mv), Valid r q → law3InBook r P L (n : Int) q m = some (hasB B (keyOf q, m))
  len : B.length ≤ 40
  okw : OKW B
  srt : Srt' B
theorem bk_of {r : Rules} (hr : Rng tyRules r) (L : List Mv) (hL : L.length ≤ 40) (sF : List Place × List Mv) (hc : ruleErr r = 0) (hs : gameOf r L = .inl sF) (w : Int) (hw : 1 ≤ w ∧ w ≤ 1000000) (plies : Int) (hp : 0 ≤ plies) (n : Nat) (hn : (if ((L.length : Nat) : Int) < plies then ((L.length : Nat) : Int) else plies) = (n : Int)) :
    n ≤ L.length ∧ Bk r L n sF.1 ((enG r w (L.take plies.toNat) ([beginOf r], [])).foldl insB []) := by
  have hn2 : n ≤ L.length := by split at hn <;> omega
  have htk : L.take plies.toNat = L.take n := by
    split at hn
    · rw [List.take_of_length_le (by omega), List.take_of_length_le (by omega)]
    · congr 1; omega
  rw [htk]
  have hok := enG_ok (r := r) hw (L.take n) ([beginOf r], [])
  obtain ⟨q1, q2, q3, q4⟩ := insL_all (enG r w (L.take n) ([beginOf r], [])) (a := []) List.Pairwise.nil (fun x hx => by cases hx) hok
  refine ⟨hn2, hr, hc, fun q m hq => ?_, ?_, q2, q1⟩
  · rw [has_ins _ hok]
    have := inBook_loop hr w q hq m L (by omega) n hn2 sF n 0 ([beginOf r], []) (by omega) (begin_okG hc) rfl (by rw [List.drop_zero]; exact hs)
    rw [List.drop_zero] at this
    exact this
  · rw [enG_len, List.length_take] at q3
    simp only [List.length_nil] at q3
    omega
/-! how far the second game follows the first -/
theorem follow_loop {r : Rules} {L : List Mv} {n : Nat} {P : List Place} {B : List BE} (hk : Bk r L n P B) (plies : Int) (hn : (if ((L.length : Nat) : Int) < plies then ((L.length : Nat) : Int) else plies) = (n : Int)) (M : List Mv) (hM : M.length ≤ 1000) (sF : List Place × List Mv) (r15 : List Place × Int × Unit) (h15 : r15.1 = P) (r17 : List Place × Int × Unit) (h17 : r17.1 = sF.1) :
    ∀ (k i : Nat) (s : List Place × List Mv), i + k = M.length → OKG r s → s.1.length = i + 1 → runG r (M.drop i) s = .inl sF →
      iterW (law3BookMoves_L1 M r17 r r15 L plies) (((i : Int), ()), ()) = some ((((i + covG r B (M.drop i) s : Nat) : Int), ()), ())
  | 0, i, s, hi, ho, hl, hs => by
    have : i = M.length := by omega
    subst this
    refine iterW_inr ?_
    unfold law3BookMoves_L1
    rw [List.drop_length]
    simp only [nltd, imp, cond_false, req_true, gat, gopt, Option.bind_some, Bool.false_and]
    rfl
  | k + 1, i, s, hi, ho, hl, hs => by
    have hil : i < M.length := by omega
    have hv : Valid r (lastP s.1) := ho.last
    have hp := pos_at hs hl
    have hlen := (run_pre _ _ _ hs).1
    have e : law3BookMoves_L1 M r17 r r15 L plies (((i : Int), ()), ()) = bif hasB B (keyOf (lastP s.1), M[i]) then some (.inl ((((i + 1 : Nat) : Int), ()), ())) else some (.inr (((i : Int), ()), ())) := by
      unfold law3BookMoves_L1
      simp only [ltd M i hil, imp, cond_true, h17, h15]
      rw [inb_iff.2 ⟨by omega, by omega⟩, req_true]
      simp only [gat, gopt, cond_true]
      rw [at_natB M i hil, Option.bind_some, hn, Int.toNat_natCast]
      rw [show (getD' sF.1 i ([], (([], ([], ())), ((0 : Int), ((0 : Int), ()))))) = lastP s.1 from hp]
      rw [hk.inB _ _ hv, Option.bind_some, Bool.true_and, w64_id (n := (i : Int) + 1) (by omega) (by omega)]
      rfl
    rw [List.drop_eq_getElem_cons hil] at hs ⊢
    unfold covG
    unfold runG at hs
    by_cases c : stepG r s M[i] = 0
    · rw [if_pos c] at hs
      cases hh : hasB B (keyOf (lastP s.1), M[i])
      · rw [hh, cond_false] at e
        rw [iterW_inr e]
        simp
      · rw [hh, cond_true] at e
        have ih := follow_loop hk plies hn M hM sF r15 h15 r17 h17 k (i + 1) (nextG r s M[i]) (by omega) (next_ok ho c) (by unfold nextG; simp; omega) hs
        rw [iterW_inl e, ih, if_pos rfl]
        congr 4
        omega
    · rw [if_neg c] at hs; cases hs
theorem inPlace_spec {r : Rules} {L : List Mv} {n : Nat} {P : List Place} {B : List BE} (hk : Bk r L n P B) (q : Place) (hq : Valid r q) : law3InPlace r P L (n : Int) q = some (((thereB B (keyOf q) (movesOf r q)).length : Nat) : Int) := by
  unfold law3InPlace
  have ha := all_spec r q hk.hr (by have := area_len hq; omega)
  rw [valid_ok hk.hc hq, if_pos rfl] at ha
  rw [ha, Option.bind_some]
  have hmo := movesOf_len hq
  have := iter_foldlM (movesOf r q) (law3InPlace_L1 (movesOf r q, ((0 : Int), ())) r P L (n : Int) q) (fun (s : Int) d => if hasB B (keyOf q, d) = true then s + 1 else s) (fun s => ((s, ()), ())) (fun i s => 0 ≤ s ∧ s ≤ i) (fun i hi s h => by
    refine ⟨?_, ?_⟩
    · unfold law3InPlace_L1
      simp only [ltd (movesOf r q) i hi, cond_true]
      rw [inbN _ i hi, req_true, Int.toNat_natCast]
      rw [show (getD' (movesOf r q) i ((0 : Int), ((0 : Int), ((0 : Int), ())))) = (movesOf r q)[i] from gd_eq _ i hi _]
      rw [hk.inB _ _ hq, Option.bind_some, w64_id (n := (i : Int) + 1) (by omega) (by omega), w64_id (n := s + 1) (by omega) (by omega)]
      cases hasB B (keyOf q, (movesOf r q)[i]) <;> rfl
    · split <;> omega) (fun s _ => by unfold law3InPlace_L1; simp) 0 (by simp)
  rw [this, Option.bind_some]
  have cnt : ∀ (l : List Mv) (s : Int), l.foldl (fun (s : Int) d => if hasB B (keyOf q, d) = true then s + 1 else s) s = s + (((l.filter fun m => hasB B (keyOf q, m)).length : Nat) : Int) := by
    intro l
    induction l with
    | nil => intro s; simp
    | cons d l ih =>
      intro s
      rw [List.foldl_cons, ih, List.filter_cons]
      split
      · rw [List.length_cons]; omega
      · rfl
  rw [cnt, ← there_moves r hk.srt q, List.length_map, Int.zero_add]
/-! the choice -/
def sumW (l : List BE) : Int := l.foldl (fun s x => s + x.2.2.1) 0
theorem sumW_pos : ∀ (l : List BE) (s : Int), OKW l → 0 ≤ s → s + (l.length : Int) ≤ l.foldl (fun s x => s + x.2.2.1) s ∧ l.foldl (fun s x => s + x.2.2.1) s ≤ s + 1000000 * (l.length : Int)
  | [], s, _, h => by simp
  | d :: l, s, hw, h => by
    have h1 := hw d List.mem_cons_self
    have := sumW_pos l (s + d.2.2.1) (fun x hx => hw x (List.mem_cons_of_mem _ hx)) (by omega)
    rw [List.foldl_cons, List.length_cons]
    omega
def chooseL : List BE → Int → Option Mv
  | [], _ => none
  | d :: l, n => if n - d.2.2.1 < 0 then some d.2.1 else chooseL l (n - d.2.2.1)
theorem chooseL_some : ∀ (l : List BE) (s n : Int), OKW l → n < l.foldl (fun s x => s + x.2.2.1) s - s → ∃ m, chooseL l n = some m ∨ n < 0 ∧ l = []
  | [], s, n, _, h => ⟨(0, (0, (0, ()))), .inr ⟨by simp at h; omega, rfl⟩⟩
  | d :: l, s, n, hw, h => by
    unfold chooseL
    by_cases c : n - d.2.2.1 < 0
    · rw [if_pos c]; exact ⟨_, .inl rfl⟩
    · rw [if_neg c]
      rw [List.foldl_cons] at h
      obtain ⟨m, hm⟩ := chooseL_some l (s + d.2.2.1) (n - d.2.2.1) (fun x hx => hw x (List.mem_cons_of_mem _ hx)) (by omega)
      rcases hm with hm | ⟨hm, _⟩
      · exact ⟨m, .inl hm⟩
      · exact absurd hm c
theorem sum_loopA (r2 : List BE × Int × Unit) (hl : r2.1.length ≤ 1000) (hw : OKW r2.1) (f : ((Int × Int × Unit) × Unit) → Option (((Int × Int × Unit) × Unit) ⊕ ((Int × Unit) × Unit)))
    (hf : ∀ x3 : (Int × Int × Unit) × Unit, f x3 = bif (decide (x3.1.2.1 < ((r2.1.length : Nat) : Int))) then req (inb x3.1.2.1 r2.1.length) (some (Sum.inl (((w64 (x3.1.1 + (((getD' r2.1 ((x3.1.2.1).toNat) dBE).2).2).1)), (w64 (x3.1.2.1 + 1)), ()), ()))) else some (Sum.inr ((x3.1.1, ()), ()))) :
    iterW f (((0 : Int), (0 : Int), ()), ()) = some ((sumW r2.1, ()), ()) := by
  refine iter_foldlM r2.1 f (fun s x => s + x.2.2.1) (fun s => ((s, ()), ())) (fun i s => 0 ≤ s ∧ s ≤ 1000000 * i) (fun i hi s h => ?_) (fun s _ => by rw [hf]; simp) 0 (by simp)
  have h1 := hw r2.1[i] (List.getElem_mem hi)
  refine ⟨?_, by constructor <;> omega⟩
  rw [hf]
  simp only [ltd r2.1 i hi, cond_true]
  rw [inbN _ i hi, req_true, Int.toNat_natCast, gd_eq _ i hi, w64_id (n := (i : Int) + 1) (by omega) (by omega), w64_id (n := s + r2.1[i].2.2.1) (by omega) (by omega)]
  rfl
theorem pick_loopA {X R : Type} (l : List BE) (hl : l.length ≤ 1000) (hw : OKW l) (x : X) (y : R) (g : Mv → R) (Z : X → Unit) (f : ((Int × Int × Unit) × X) → Option (((Int × Int × Unit) × X) ⊕ ((Unit × X) ⊕ R)))
    (hf : ∀ x5 : (Int × Int × Unit) × X, f x5 = bif (decide (x5.1.2.1 < ((l.length : Nat) : Int))) then (req (inb x5.1.2.1 l.length) (bif (decide ((w64 (x5.1.1 - (((getD' l ((x5.1.2.1).toNat) dBE).2).2).1)) < 0)) then some (Sum.inr (Sum.inr (g (getD' l ((x5.1.2.1).toNat) dBE).2.1)))
      else some (Sum.inl (((w64 (x5.1.1 - (((getD' l ((x5.1.2.1).toNat) dBE).2).2).1)), (w64 (x5.1.2.1 + 1)), ()), x5.2)))) else some (Sum.inr (Sum.inl ((), x5.2)))) :
    ∀ (k i : Nat) (n : Int), i + k = l.length → 0 ≤ n → n ≤ 1000000000000 → Option.bind (iterW f ((n, (i : Int), ()), x)) (Sum.elim (fun _ => some y) some) = some (match chooseL (l.drop i) n with
      | some m => g m
      | none => y)
  | 0, i, n, hi, h0, h1 => by
    have : i = l.length := by omega
    subst this
    rw [List.drop_length, iterW_inr (r := .inl ((), x)) (by rw [hf]; simp)]
    rfl
  | k + 1, i, n, hi, h0, h1 => by
    have hil : i < l.length := by omega
    have hx := hw l[i] (List.getElem_mem hil)
    have e := hf ((n, (i : Int), ()), x)
    simp only [ltd l i hil, cond_true] at e
    rw [inbN _ i hil, req_true, Int.toNat_natCast, gd_eq _ i hil, w64_id (n := (i : Int) + 1) (by omega) (by omega), w64_id (n := n - l[i].2.2.1) (by omega) (by omega)] at e
    rw [List.drop_eq_getElem_cons hil]
    unfold chooseL
    by_cases c : n - l[i].2.2.1 < 0
    · rw [decide_eq_true c, cond_true] at e
      rw [iterW_inr e, if_pos c]
      rfl
    · rw [decide_eq_false c, cond_false] at e
      rw [iterW_inl e, if_neg c]
      exact pick_loopA l hl hw x y g Z f hf k (i + 1) _ (by omega) (by omega) (by omega)
theorem there_sub (B : List BE) (K : Int) (mo : List Mv) : (thereB B K mo).length ≤ B.length := List.length_filter_le _ _
theorem there_ok {B : List BE} (hw : OKW B) (K : Int) (mo : List Mv) : OKW (thereB B K mo) := fun x hx => hw x (List.mem_filter.1 hx).1
def zM : Mv := (0, (0, (0, ())))
theorem chooseB_spec (r : Rules) (hr : Rng tyRules r) (hc : ruleErr r = 0) (b : List BE) (hb : b.length ≤ 40) (hw : OKW b) (hsb : Srt' b) (p : Place) (hv : Valid r p) (draw : Int) (hd : draw ≤ 9223372036854775807) :
    bookChoose r b p draw = some (if draw < 0 then (zM, ((1 : Int), ())) else if (thereB b (keyOf p) (movesOf r p)).length = 0 then (zM, ((8 : Int), ())) else match chooseL (thereB b (keyOf p) (movesOf r p)) (draw.tmod (sumW (thereB b (keyOf p) (movesOf r p)))) with
      | some m => (m, ((0 : Int), ()))
      | none => (zM, ((8 : Int), ()))) := by
  unfold bookChoose
  rw [movesB_spec r hr hc b (by omega) hw hsb p hv, Option.bind_some]
  have hlen := there_sub b (keyOf p) (movesOf r p)
  have hwt := there_ok hw (keyOf p) (movesOf r p)
  generalize thereB b (keyOf p) (movesOf r p) = T at hlen hwt ⊢
  simp only [show ((0 : Int) != 0) = false from rfl, cond_false]
  by_cases c1 : draw < 0
  · rw [decide_eq_true c1, cond_true, if_pos c1]; rfl
  · rw [decide_eq_false c1, cond_false, if_neg c1]
    by_cases c2 : T.length = 0
    · rw [beq_t (by omega), cond_true, if_pos c2]; rfl
    · rw [beq_f (by omega), cond_false, if_neg c2]
      rw [sum_loopA (T, ((0 : Int), ())) (by show T.length ≤ 1000; omega) hwt (bookChoose_L1 (T, ((0 : Int), ()))) (fun _ => rfl), Option.bind_some]
      obtain ⟨s1, s2⟩ := sumW_pos T 0 hwt (Int.le_refl _)
      have s1' : (T.length : Int) ≤ sumW T := by unfold sumW; omega
      have s2' : sumW T ≤ 1000000 * (T.length : Int) := by unfold sumW; omega
      show req (sumW T != 0) _ = _
      rw [bne_t (by omega), req_true]
      have h0 : 0 ≤ draw.tmod (sumW T) := Int.tmod_nonneg _ (by omega)
      have h1 : draw.tmod (sumW T) < sumW T := Int.tmod_lt_of_pos _ (by omega)
      have := pick_loopA T (by omega) hwt ((((0 : Int), ((0 : Int), ((0 : Int), ()))), ()) : Mv × Unit) ((zM, ((8 : Int), ())) : Mv × Int × Unit) (fun m => (m, ((0 : Int), ()))) (fun _ => ()) (bookChoose_L2 (T, ((0 : Int), ()))) (fun _ => rfl) T.length 0 (draw.tmod (sumW T)) (by omega) h0 (by omega)
      rw [List.drop_zero] at this
      exact this
theorem mvb (a b : Mv) : ((a.1 == b.1) && ((a.2.1 == b.2.1) && ((a.2.2.1 == b.2.2.1) && true))) = decide (a = b) := mv_beq a b
theorem allIn_loop {r : Rules} {L : List Mv} {n : Nat} {P : List Place} {B : List BE} (hk : Bk r L n P B) (plies : Int) (hn : (if ((L.length : Nat) : Int) < plies then ((L.length : Nat) : Int) else plies) = (n : Int)) (r15 : List Place × Int × Unit) (h15 : r15.1 = P) (r17 : List Place × Int × Unit) (x22 : (Int × Unit) × Unit) (K : Nat) (hK : x22.1.1 = (K : Int)) (hKl : K < r17.1.length) (hq : Valid r (getD' r17.1 K dP)) (T : List BE × Int × Unit) (hT : T.1.length ≤ 1000) (hin : ∀ x ∈ T.1, hasB B (keyOf (getD' r17.1 K dP), x.2.1) = true) :
    ∀ (k i : Nat), i + k = T.1.length → iterW (law3BookMoves_L2 T x22 r17 r r15 L plies) (((i : Int), ()), ()) = some (.inl ((), ()))
  | 0, i, hi => by
    have : i = T.1.length := by omega
    subst this
    refine iterW_inr ?_
    unfold law3BookMoves_L2
    simp only [nltd, cond_false]
  | k + 1, i, hi => by
    have hil : i < T.1.length := by omega
    have e : law3BookMoves_L2 T x22 r17 r r15 L plies (((i : Int), ()), ()) = some (.inl ((((i + 1 : Nat) : Int), ()), ())) := by
      unfold law3BookMoves_L2
      simp only [ltd T.1 i hil, cond_true, hK, h15]
      rw [inbN _ i hil, req_true, inbN _ K hKl, req_true, hn, Int.toNat_natCast, Int.toNat_natCast, w64_id (n := (i : Int) + 1) (by omega) (by omega)]
      have h1 := hk.inB (getD' r17.1 K dP) T.1[i].2.1 hq
      rw [hin _ (List.getElem_mem hil)] at h1
      rw [show (getD' T.1 i ((0 : Int), (((0 : Int), ((0 : Int), ((0 : Int), ()))), ((0 : Int), ())))) = T.1[i] from gd_eq _ i hil _]
      rw [show law3InBook r P L (n : Int) (getD' r17.1 K ([], (([], ([], ())), ((0 : Int), ((0 : Int), ()))))) (T.1[i].2.1.1, (T.1[i].2.1.2.1, (T.1[i].2.1.2.2.1, ()))) = some true from h1]
      rfl
    rw [iterW_inl e]
    exact allIn_loop hk plies hn r15 h15 r17 x22 K hK hKl hq T hT hin k (i + 1) (by omega)
theorem places_err (r : Rules) (l : List Mv) : (placesRes r l).2.1 = (runRes r l).2.2.1 := by
  unfold placesRes runRes
  by_cases c : ruleErr r = 0
  · rw [if_pos c, if_pos c]
    cases gameOf r l <;> rfl
  · rw [if_neg c, if_neg c]
theorem law3BookMoves_true (r : Rules) (l m : List Mv) (plies weight draw : Int) (hr : Rng tyRules r) (hl : Rng (.sl (.st (.int .i64) (.st (.int .i64) (.st (.int .i64) .nil)))) l) (hm : Rng (.sl (.st (.int .i64) (.st (.int .i64) (.st (.int .i64) .nil)))) m) (hp : Rng (.int .i64) plies) (hw : Rng (.int .i64) weight) (hd : Rng (.int .i64) draw) : law3BookMoves r l m plies weight draw = some true := by
  unfold law3BookMoves
  rw [books_true, Option.bind_some, Bool.not_true, cond_false, cut_spec l hl.1, Option.bind_some, cut_spec m hm.1, Option.bind_some]
  have la : (l.take 40).length ≤ 40 := by rw [List.length_take]; omega
  have lb : (m.take 40).length ≤ 40 := by rw [List.length_take]; omega
  generalize l.take 40 = L at la ⊢
  generalize m.take 40 = M at lb ⊢
  cases law3Great r with
  | true => rfl
  | false =>
  rw [cond_false, add_spec r hr L (by omega), Option.bind_some, places_spec r L hr (by omega), Option.bind_some]
  by_cases c1 : (runRes r L).2.2.1 = 0
  rotate_left
  · have e1 := places_err r L
    have e2 : addRes r L plies weight = ([], ((runRes r L).2.2.1, ())) := by unfold addRes; rw [if_neg c1]
    rw [e1, e2, beq_f c1, Bool.false_and, cond_false, Option.bind_some]
    simp only [bne_t c1, cond_true]
    simp
  · obtain ⟨hc, sF, hs⟩ := runRes_0 c1
    have e1 : placesRes r L = (sF.1, ((0 : Int), ())) := by
      unfold placesRes
      rw [if_pos hc, hs]
    rw [e1]
    simp only [beq_self_eq_true, Bool.true_and]
    by_cases c2 : plies < 0 ∨ weight < 1 ∨ weight > 1000000
    · have e2 : addRes r L plies weight = ([], ((4 : Int), ())) := by unfold addRes; rw [if_pos c1, if_pos c2]
      rw [e2, show ((decide (plies < 0) || decide (weight < 1)) || decide (weight > 1000000)) = true by simp only [Bool.or_eq_true, decide_eq_true_eq]; omega, cond_true, Option.bind_some]
      rfl
    · rw [show ((decide (plies < 0) || decide (weight < 1)) || decide (weight > 1000000)) = false by
        rw [Bool.eq_false_iff]; intro h; simp only [Bool.or_eq_true, decide_eq_true_eq] at h; omega, cond_false, Option.bind_some]
      obtain ⟨n, hn⟩ : ∃ n : Nat, (if ((L.length : Nat) : Int) < plies then ((L.length : Nat) : Int) else plies) = (n : Int) := ⟨(if ((L.length : Nat) : Int) < plies then ((L.length : Nat) : Int) else plies).toNat, by split <;> omega⟩
      obtain ⟨hnl, hk⟩ := bk_of hr L la sF hc hs weight (by omega) plies (by omega) n hn
      have e2 : addRes r L plies weight = ((enG r weight (L.take plies.toNat) ([beginOf r], [])).foldl insB [], ((0 : Int), ())) := by unfold addRes; rw [if_pos c1, if_neg c2]
      rw [e2]
      generalize (enG r weight (L.take plies.toNat) ([beginOf r], [])).foldl insB [] = B at hk ⊢
      simp only [show ((0 : Int) != 0) = false from rfl, cond_false]
      rw [places_spec r M hr (by omega), Option.bind_some, cover_spec r hr B (by have := hk.len; omega) hk.okw hk.srt M (by omega)]
      by_cases c3 : (runRes r M).2.2.1 = 0
      rotate_left
      · have e3 := places_err r M
        rw [e3, bne_t c3, cond_true, if_neg c3, Option.bind_some]
        simp
      · obtain ⟨_, sG, hsG⟩ := runRes_0 c3
        have e3 : placesRes r M = (sG.1, ((0 : Int), ())) := by
          unfold placesRes
          rw [if_pos hc, hsG]
        obtain ⟨hG, _⟩ := run_ok M ([beginOf r], []) sG (begin_okG hc) hsG
        have hGl : sG.1.length = M.length + 1 := by
          have := (run_pre M ([beginOf r], []) sG hsG).1
          simp only [List.length_cons, List.length_nil] at this
          omega
        rw [e3, if_pos c3]
        simp only [show ((0 : Int) != 0) = false from rfl, cond_false]
        have hf := follow_loop hk plies hn M (by omega) sG (sF.1, ((0 : Int), ())) rfl (sG.1, ((0 : Int), ())) rfl M.length 0 ([beginOf r], []) (by omega) (begin_okG hc) rfl (by rw [List.drop_zero]; exact hsG)
        rw [List.drop_zero, Nat.zero_add] at hf
        have hKl := covG_le r B M ([beginOf r], [])
        have hf' : iterW (law3BookMoves_L1 M (sG.1, ((0 : Int), ())) r (sF.1, ((0 : Int), ())) L plies) (((0 : Int), ()), ()) = _ := hf
        rw [hf', Option.bind_some, Option.bind_some]
        generalize covG r B M ([beginOf r], []) = K at hKl hf
        have hK1 : K < sG.1.length := by omega
        simp only [inbN sG.1 K hK1, req_true, Int.toNat_natCast]
        have hq : Valid r (getD' sG.1 K dP) := by
          rw [gd_eq sG.1 K hK1]
          exact hG.all _ (List.getElem_mem _)
        have hB1000 : B.length ≤ 1000 := by have := hk.len; omega
        rw [show bookMoves r B (getD' sG.1 K ([], (([], ([], ())), ((0 : Int), ((0 : Int), ()))))) = _ from movesB_spec r hr hc B hB1000 hk.okw hk.srt (getD' sG.1 K dP) hq]
        rw [show bookChoose r B (getD' sG.1 K ([], (([], ([], ())), ((0 : Int), ((0 : Int), ()))))) draw = _ from chooseB_spec r hr hc B hk.len hk.okw hk.srt (getD' sG.1 K dP) hq draw hd.2]
        simp only [Option.bind_some, agree_self]
        rw [hn, show law3InPlace r sF.1 L (n : Int) (getD' sG.1 K ([], (([], ([], ())), ((0 : Int), ((0 : Int), ()))))) = _ from inPlace_spec hk (getD' sG.1 K dP) hq]
        rw [show ((((0 : Int) != 0) || (((K : Nat) : Int) != ((K : Nat) : Int))) || ((0 : Int) != 0)) = false by simp, cond_false, Option.bind_some]
        have hall := allIn_loop hk plies hn (sF.1, ((0 : Int), ())) rfl (sG.1, ((0 : Int), ())) ((((K : Nat) : Int), ()), ()) K rfl hK1 hq (thereB B (keyOf (getD' sG.1 K dP)) (movesOf r (getD' sG.1 K dP)), ((0 : Int), ())) (by have := there_sub B (keyOf (getD' sG.1 K dP)) (movesOf r (getD' sG.1 K dP)); show List.length (thereB _ _ _) ≤ 1000; omega) (fun x hx => by
          obtain ⟨h1, h2⟩ := List.mem_filter.1 hx
          simp only [Bool.and_eq_true, beq_iff_eq, decide_eq_true_eq] at h2
          exact (hasB_iff _ _).2 ⟨x, h1, by unfold keyE; rw [h2.1]⟩) _ 0 (Nat.zero_add _)
        have hlen := there_sub B (keyOf (getD' sG.1 K dP)) (movesOf r (getD' sG.1 K dP))
        have hwt := there_ok hk.okw (keyOf (getD' sG.1 K dP)) (movesOf r (getD' sG.1 K dP))
        generalize thereB B (keyOf (getD' sG.1 K dP)) (movesOf r (getD' sG.1 K dP)) = T at hall hlen hwt ⊢
        have hTl : T.length ≤ 40 := by have := hk.len; omega
        simp only [bne_self_eq_false, cond_false]
        have hall' : iterW (law3BookMoves_L2 (T, ((0 : Int), ())) ((((K : Nat) : Int), ()), ()) (sG.1, ((0 : Int), ())) r (sF.1, ((0 : Int), ())) L plies) (((0 : Int), ()), ()) = _ := hall
        rw [hall', Option.bind_some, Sum.elim_inl]
        by_cases c4 : draw < 0
        · rw [decide_eq_true c4, cond_true]
          simp only [if_pos c4]
          rfl
        · rw [decide_eq_false c4, cond_false]
          simp only [if_neg c4]
          by_cases c5 : T.length = 0
          · rw [beq_t (by omega), cond_true]
            simp only [if_pos c5]
            rfl
          · rw [beq_f (by omega), cond_false]
            simp only [if_neg c5]
            rw [sum_loopA (T, ((0 : Int), ())) (by show T.length ≤ 1000; omega) hwt (law3BookMoves_L3 (T, ((0 : Int), ()))) (fun _ => rfl), Option.bind_some]
            obtain ⟨s1, s2⟩ := sumW_pos T 0 hwt (Int.le_refl _)
            have s1' : (T.length : Int) ≤ sumW T := by unfold sumW; omega
            have s2' : sumW T ≤ 1000000 * (T.length : Int) := by unfold sumW; omega
            show req (sumW T != 0) _ = _
            rw [bne_t (by omega), req_true]
            have h0 : 0 ≤ draw.tmod (sumW T) := Int.tmod_nonneg _ (by omega)
            have h1 : draw.tmod (sumW T) < sumW T := Int.tmod_lt_of_pos _ (by omega)
            obtain ⟨mv, hmv⟩ := chooseL_some T 0 (draw.tmod (sumW T)) hwt (by unfold sumW at h1 ⊢; omega)
            have hmv : chooseL T (draw.tmod (sumW T)) = some mv := by
              rcases hmv with h | ⟨h, _⟩
              · exact h
              · omega
            simp only [hmv]
            have := pick_loopA T (by omega) hwt () false (fun z => ((0 : Int) == 0) && ((mv.1 == z.1) && ((mv.2.1 == z.2.1) && ((mv.2.2.1 == z.2.2.1) && true)))) (fun _ => ()) (law3BookMoves_L4 (T, ((0 : Int), ())) ((mv, ((0 : Int), ())), ())) (fun _ => rfl) T.length 0 (draw.tmod (sumW T)) (by omega) h0 (by omega)
            rw [List.drop_zero, hmv] at this
            have hfin : (((0 : Int) == 0) && ((mv.1 == mv.1) && ((mv.2.1 == mv.2.1) && ((mv.2.2.1 == mv.2.2.1) && true)))) = true := by simp
            simp only [hfin] at this
            exact this
end Go.Proofs.YtfppnefcicdnfaaGreat
