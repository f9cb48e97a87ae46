/- Results: what the program and the reference say of how a game stands. No condition of its own. -/
import Derived.Test.YtocnfflklfeocaaCoreO
namespace Go.Proofs.Ytocnfflklfeocaa
open Go.Den
set_option linter.unusedVariables false
set_option linter.unusedSimpArgs false
set_option maxRecDepth 100000

def own (r : Rules) (p : Place) (pl x y : Int) : Bool := onB r x y && (decide (cellI p (sq r x y) > 0) && ((cellI p (sq r x y) - 1).tmod 2 == pl))
def runB (r : Rules) (p : Place) (pl : Int) (n : Nat) (x y dx dy : Int) : Bool := (List.range n).all fun i => own r p pl (x + (i : Int) * dx) (y + (i : Int) * dy)
theorem runB_cons (r : Rules) (p : Place) (pl : Int) (n : Nat) (x y dx dy : Int) : runB r p pl (n + 1) x y dx dy = (own r p pl x y && runB r p pl n (x + dx) (y + dy) dx dy) := by
  unfold runB
  rw [List.range_succ_eq_map, List.all_cons, List.all_map]
  have e : ((fun i : Nat => own r p pl (x + (i : Int) * dx) (y + (i : Int) * dy)) ∘ Nat.succ) = fun i : Nat => own r p pl (x + dx + (i : Int) * dx) (y + dy + (i : Int) * dy) := by
    funext i
    simp only [Function.comp]
    have e1 : x + ((i.succ : Nat) : Int) * dx = x + dx + (i : Int) * dx := by rw [show ((i.succ : Nat) : Int) = (i : Int) + 1 by omega, Int.add_mul]; omega
    have e2 : y + ((i.succ : Nat) : Int) * dy = y + dy + (i : Int) * dy := by rw [show ((i.succ : Nat) : Int) = (i : Int) + 1 by omega, Int.add_mul]; omega
    rw [e1, e2]
  rw [e]
  simp
theorem runB_iff {r : Rules} {p : Place} {pl : Int} {n : Nat} {x y dx dy : Int} : runB r p pl n x y dx dy = true ↔ ∀ i : Nat, i < n → own r p pl (x + (i : Int) * dx) (y + (i : Int) * dy) = true := by
  unfold runB
  rw [List.all_eq_true]
  exact ⟨fun h i hi => h i (List.mem_range.2 hi), fun h i hi => h i (List.mem_range.1 hi)⟩
theorem runB_rev {r : Rules} {p : Place} {pl : Int} {n : Nat} {x y dx dy : Int} (h : runB r p pl n x y dx dy = true) : runB r p pl n (x + ((n : Int) - 1) * dx) (y + ((n : Int) - 1) * dy) (-dx) (-dy) = true := by
  rw [runB_iff] at *
  intro i hi
  have := h (n - 1 - i) (by omega)
  have e1 : x + ((n : Int) - 1) * dx + (i : Int) * (-dx) = x + ((n - 1 - i : Nat) : Int) * dx := by
    rw [show ((n - 1 - i : Nat) : Int) = (n : Int) - 1 - (i : Int) by omega, Int.sub_mul ((n : Int) - 1), Int.mul_neg]; omega
  have e2 : y + ((n : Int) - 1) * dy + (i : Int) * (-dy) = y + ((n - 1 - i : Nat) : Int) * dy := by
    rw [show ((n - 1 - i : Nat) : Int) = (n : Int) - 1 - (i : Int) by omega, Int.sub_mul ((n : Int) - 1), Int.mul_neg]; omega
  rw [e1, e2]; exact this
theorem own_on {r : Rules} {p : Place} {pl x y : Int} (h : own r p pl x y = true) : onB r x y = true := by unfold own at h; rw [Bool.and_eq_true] at h; exact h.1
abbrev dX (d : Nat) : Int := getD' [(1 : Int), (0 : Int), (1 : Int), (1 : Int)] d 0
abbrev dY (d : Nat) : Int := getD' [(0 : Int), (1 : Int), (1 : Int), (-1 : Int)] d 0
abbrev eX (d : Nat) : Int := getD' [(-1 : Int), (0 : Int), (-1 : Int), (1 : Int)] d 0
abbrev eY (d : Nat) : Int := getD' [(0 : Int), (-1 : Int), (-1 : Int), (-1 : Int)] d 0
def lineB (r : Rules) (p : Place) (pl c : Int) : Bool := (List.range p.1.length).any fun s => (List.range 4).any fun d => runB r p pl c.toNat ((s : Int).tmod r.width) ((s : Int).tdiv r.width) (dX d) (dY d)
def linedB (r : Rules) (p : Place) (pl c : Int) : Bool := (List.range r.height.toNat).any fun y => (List.range r.width.toNat).any fun x => (List.range 4).any fun d => runB r p pl c.toNat (x : Int) (y : Int) (eX d) (eY d)
theorem sq_div {r : Rules} {x y : Int} (h : onB r x y = true) : (sq r x y).tmod r.width = x ∧ (sq r x y).tdiv r.width = y := by
  obtain ⟨h1, h2, h3, h4⟩ := onB_iff.1 h
  have h0 : 0 ≤ sq r x y := by unfold sq; have := Int.mul_nonneg h3 (show 0 ≤ r.width by omega); omega
  rw [Int.tmod_eq_emod_of_nonneg h0, Int.tdiv_eq_ediv_of_nonneg h0]
  unfold sq
  rw [Int.add_comm, Int.add_mul_emod_self_right, Int.add_mul_ediv_right _ _ (by omega), Int.emod_eq_of_lt h1 h2, Int.ediv_eq_zero_of_lt h1 h2]
  omega
theorem lineB_of {r : Rules} {p : Place} (h : Valid r p) {pl c x y : Int} {d : Nat} (hc : 1 ≤ c) (hd : d < 4) (hr : runB r p pl c.toNat x y (dX d) (dY d) = true) : lineB r p pl c = true := by
  have hon : onB r x y = true := by
    have := runB_iff.1 hr 0 (by omega)
    exact own_on (by simpa using this)
  have hs := sq_rng h.r0 hon
  have hlen : ((p.1.length : Nat) : Int) = r.width * r.height := h.cells
  unfold lineB
  rw [List.any_eq_true]
  refine ⟨(sq r x y).toNat, List.mem_range.2 (by omega), ?_⟩
  rw [List.any_eq_true]
  refine ⟨d, List.mem_range.2 hd, ?_⟩
  rw [Int.toNat_of_nonneg hs.1, (sq_div hon).1, (sq_div hon).2]
  exact hr
theorem linedB_of {r : Rules} {p : Place} (h : Valid r p) {pl c x y : Int} {d : Nat} (hc : 1 ≤ c) (hd : d < 4) (hr : runB r p pl c.toNat x y (eX d) (eY d) = true) : linedB r p pl c = true := by
  have hon : onB r x y = true := by
    have := runB_iff.1 hr 0 (by omega)
    exact own_on (by simpa using this)
  obtain ⟨h1, h2, h3, h4⟩ := onB_iff.1 hon
  unfold linedB
  rw [List.any_eq_true]
  refine ⟨y.toNat, List.mem_range.2 (by omega), ?_⟩
  rw [List.any_eq_true]
  refine ⟨x.toNat, List.mem_range.2 (by omega), ?_⟩
  rw [List.any_eq_true]
  refine ⟨d, List.mem_range.2 hd, ?_⟩
  rw [Int.toNat_of_nonneg h1, Int.toNat_of_nonneg h3]
  exact hr
theorem lined_line {r : Rules} {p : Place} (h : Valid r p) {pl c : Int} (hc : 1 ≤ c) : linedB r p pl c = lineB r p pl c := by
  rw [Bool.eq_iff_iff]
  constructor
  · intro hl
    unfold linedB at hl
    simp only [List.any_eq_true, List.mem_range] at hl
    obtain ⟨y, _, x, _, d, hd, hr⟩ := hl
    have h4 : d = 0 ∨ d = 1 ∨ d = 2 ∨ d = 3 := by omega
    rcases h4 with rfl | rfl | rfl | rfl
    · exact lineB_of h (d := 0) hc (by omega) (runB_rev hr)
    · exact lineB_of h (d := 1) hc (by omega) (runB_rev hr)
    · exact lineB_of h (d := 2) hc (by omega) (runB_rev hr)
    · exact lineB_of h (d := 3) hc (by omega) hr
  · intro hl
    unfold lineB at hl
    simp only [List.any_eq_true, List.mem_range] at hl
    obtain ⟨s, _, d, hd, hr⟩ := hl
    have h4 : d = 0 ∨ d = 1 ∨ d = 2 ∨ d = 3 := by omega
    rcases h4 with rfl | rfl | rfl | rfl
    · exact linedB_of h (d := 0) hc (by omega) (runB_rev hr)
    · exact linedB_of h (d := 1) hc (by omega) (runB_rev hr)
    · exact linedB_of h (d := 2) hc (by omega) (runB_rev hr)
    · exact linedB_of h (d := 3) hc (by omega) hr
theorem dX_rng (d : Nat) : -1 ≤ dX d ∧ dX d ≤ 1 := by
  match d with
  | 0 => decide
  | 1 => decide
  | 2 => decide
  | 3 => decide
  | n + 4 => simp [dX, getD']
theorem dY_rng (d : Nat) : -1 ≤ dY d ∧ dY d ≤ 1 := by
  match d with
  | 0 => decide
  | 1 => decide
  | 2 => decide
  | 3 => decide
  | n + 4 => simp [dY, getD']
theorem line3 {r : Rules} {p : Place} (h : Valid r p) {pl c : Int} (d : Nat) (hc : c ≤ 64) : ∀ (m : Nat) (x y n : Int), 0 ≤ n → n + m = c → (-1 ≤ x ∧ x ≤ 8) → (-1 ≤ y ∧ y ≤ 8) →
    ∃ n', iterW (endsLine_L3 c r p pl (((d : Int), ()), ())) ((x, y, n, ()), ()) = some ((n', ()), ()) ∧ (n' == c) = runB r p pl m x y (dX d) (dY d)
  | 0, x, y, n, h0, hn, hx, hy => by
    refine ⟨n, iterW_inr ?_, ?_⟩
    · unfold endsLine_L3
      have : decide (n < c) = false := by simp; omega
      simp only [this, cond_false, Option.bind_some]
    · rw [beq_t (by omega)]; rfl
  | m + 1, x, y, n, h0, hn, hx, hy => by
    have hr := h.r0
    have := hr.w8; have := hr.h8; have := hr.w1; have := hr.h1
    have ha := hr.area
    have hlt : decide (n < c) = true := by simp; omega
    have hoff : ((((decide (x < (0 : Int))) || (decide (x ≥ r.2.1))) || (decide (y < (0 : Int)))) || (decide (y ≥ r.2.2.1))) = !onB r x y := by
      rw [Bool.eq_iff_iff]
      simp only [Bool.or_eq_true, decide_eq_true_eq, Bool.not_eq_true', onB, decide_eq_false_iff_not]
      show ((x < 0 ∨ x ≥ r.width) ∨ y < 0) ∨ y ≥ r.height ↔ _
      omega
    have hown : (bif (decide (n < c)) then (bif ((((decide (x < (0 : Int))) || (decide (x ≥ r.2.1))) || (decide (y < (0 : Int)))) || (decide (y ≥ r.2.2.1))) then some ((false, ()), ())
        else Option.bind (at? p.1 (w64 ((w64 (y * r.2.1)) + x))) fun d4 =>
        req (imp (decide (d4 > (0 : Int))) true) (some ((((decide (d4 > (0 : Int))) && (((w64 (d4 - (1 : Int))).tmod (2 : Int)) == pl)), ()), ())))
        else some ((false, ()), ())) = some ((own r p pl x y, ()), ()) := by
      rw [hlt, cond_true, hoff]
      unfold own
      cases hb : onB r x y with
      | false => rfl
      | true =>
        have hs := sq_rng hr hb
        obtain ⟨b1, b2, b3, b4⟩ := onB_iff.1 hb
        have hmul := mul_rng (show 0 ≤ r.width by omega) b3 b4
        have w1 : w64 (y * r.2.1) = y * r.2.1 := w64_id (by show _ ≤ y * r.width; omega) (by show y * r.width ≤ _; omega)
        have w2 : w64 (y * r.2.1 + x) = sq r x y := w64_id (by show _ ≤ sq r x y; omega) (by show sq r x y ≤ _; omega)
        have hcs := cell_small h (sq r x y)
        rw [w1, w2, at_cell (p := p) hs.1 (by rw [h.cells]; exact hs.2)]
        simp only [Bool.not_true, cond_false, Option.bind_some, show ∀ b, imp b true = true from fun b => by cases b <;> rfl, req_true, Bool.true_and]
        rw [w64_id (n := cellI p (sq r x y) - 1) (by omega) (by omega)]
    rw [runB_cons]
    cases ho : own r p pl x y with
    | false =>
      refine ⟨n, iterW_inr ?_, ?_⟩
      · unfold endsLine_L3
        rw [hown, ho]
        rfl
      · rw [beq_f (by omega)]; rfl
    | true =>
      obtain ⟨b1, b2, b3, b4⟩ := onB_iff.1 (own_on ho)
      have r1 := dX_rng d
      have r2 := dY_rng d
      obtain ⟨n', e1, e2⟩ := line3 h (pl := pl) d hc m (x + dX d) (y + dY d) (n + 1) (by omega) (by omega) (by omega) (by omega)
      refine ⟨n', ?_, by rw [e2]; simp⟩
      rw [iterW_inl (y := ((x + dX d, y + dY d, n + 1, ()), ())) (by
        unfold endsLine_L3
        rw [hown, ho]
        simp only [Option.bind_some, cond_true, Int.toNat_natCast]
        rw [w64_id (n := x + dX d) (by omega) (by omega), w64_id (n := y + dY d) (by omega) (by omega), w64_id (n := n + 1) (by omega) (by omega)])]
      exact e1
theorem line_spec {r : Rules} {p : Place} (h : Valid r p) (pl : Int) {c : Int} (hc1 : 1 ≤ c) (hc : c ≤ 64) : endsLine r p pl c = some (lineB r p pl c) := by
  have hr := h.r0
  have := hr.w8; have := hr.h8; have := hr.w1; have := hr.h1
  have ha := hr.area
  have hlen : ((p.1.length : Nat) : Int) = r.width * r.height := h.cells
  have hq : (r.2.1 != 0) = true := bne_t (by show ¬ r.width = 0; omega)
  unfold endsLine
  have hL := iterW_any (List.range p.1.length) (fun s => (List.range 4).any fun d => runB r p pl c.toNat ((s : Int).tmod r.width) ((s : Int).tdiv r.width) (dX d) (dY d)) (endsLine_L1 p r c pl) (.inr true) (.inl ((), ())) (fun s hs => by
    have hs' : s < p.1.length := by simpa using hs
    have hdv := div_rng hr (show (0 : Int) ≤ (s : Int) by omega) (show (s : Int) < r.width * r.height by omega)
    have hL2 := iterW_any (List.range 4) (fun d => runB r p pl c.toNat ((s : Int).tmod r.width) ((s : Int).tdiv r.width) (dX d) (dY d)) (endsLine_L2 r c p pl (((s : Int), ()), ())) (.inr (.inr (.inr (.inr true)))) (.inl ((), ())) (fun d hd => by
      have hd' : d < 4 := by simpa using hd
      have w1 : w64 ((s : Int).tdiv r.2.1) = (s : Int).tdiv r.width := w64_id (by show _ ≤ (s : Int).tdiv r.width; omega) (by show (s : Int).tdiv r.width ≤ _; omega)
      obtain ⟨n', e1, e2⟩ := line3 h (pl := pl) (c := c) d hc c.toNat ((s : Int).tmod r.width) ((s : Int).tdiv r.width) 0 (by omega) (by omega) (by omega) (by omega)
      unfold endsLine_L2
      simp only [show decide ((d : Int) < 4) = true by simp; omega, cond_true, show inb (d : Int) 4 = true from inb_iff.2 ⟨by omega, by omega⟩, req_true, hq, w1]
      rw [show ((s : Int).tmod r.2.1) = (s : Int).tmod r.width from rfl, e1, Option.bind_some]
      simp only [List.getElem_range]
      rw [← e2, w64_id (n := (d : Int) + 1) (by omega) (by omega)]
      cases (n' == c) <;> rfl) (by
      unfold endsLine_L2
      rfl)
    unfold endsLine_L1
    simp only [show decide ((s : Int) < ((p.1.length : Nat) : Int)) = true by simp; omega, cond_true, List.getElem_range]
    rw [hL2, w64_id (n := (s : Int) + 1) (by omega) (by omega)]
    cases (List.range 4).any (fun d => runB r p pl c.toNat ((s : Int).tmod r.width) ((s : Int).tdiv r.width) (dX d) (dY d)) <;> rfl) (by
    unfold endsLine_L1
    simp)
  rw [hL]
  unfold lineB
  cases (List.range p.1.length).any (fun s => (List.range 4).any fun d => runB r p pl c.toNat ((s : Int).tmod r.width) ((s : Int).tdiv r.width) (dX d) (dY d)) <;> rfl
theorem eXY_rng (d : Nat) (hd : d < 4) : (-1 ≤ eX d ∧ eX d ≤ 1) ∧ (-1 ≤ eY d ∧ eY d ≤ 1) ∧ ¬ (eX d = 0 ∧ eY d = 0) := by
  have h4 : d = 0 ∨ d = 1 ∨ d = 2 ∨ d = 3 := by omega
  rcases h4 with rfl | rfl | rfl | rfl <;> decide
theorem small_mul {n d : Int} (h0 : 0 ≤ n) (h1 : -1 ≤ d) (h2 : d ≤ 1) : (d = 0 ∧ n * d = 0) ∨ (d = 1 ∧ n * d = n) ∨ (d = -1 ∧ n * d = -n) := by
  have : d = 0 ∨ d = 1 ∨ d = -1 := by omega
  rcases this with rfl | rfl | rfl <;> simp
theorem lined4 {r : Rules} {p : Place} (h : Valid r p) {pl c : Int} (d : Nat) (hd : d < 4) {x y : Int} (hon : onB r x y = true) (s1 s2 : Unit) :
    ∃ n' : Nat, iterW (ref1Lined_L4 r p ((x, ()), ()) ((eX d, eY d, ()), ()) ((y, ()), ()) pl) (((0 : Int), ()), ()) = some (((n' : Int), ()), ()) ∧ (∀ i : Nat, i < n' → own r p pl (x + (i : Int) * eX d) (y + (i : Int) * eY d) = true) ∧ own r p pl (x + (n' : Int) * eX d) (y + (n' : Int) * eY d) = false := by
  have hr := h.r0
  have := hr.w8; have := hr.h8; have := hr.w1; have := hr.h1
  obtain ⟨o1, o2, o3, o4⟩ := onB_iff.1 hon
  obtain ⟨rx, ry, rn⟩ := eXY_rng d hd
  obtain ⟨res, h1, n', rfl, h3, h4⟩ := iterW_meas (f := ref1Lined_L4 r p ((x, ()), ()) ((eX d, eY d, ()), ()) ((y, ()), ()) pl) (fun s => ∃ n : Nat, s = (((n : Int), ()), ()) ∧ n ≤ 8 ∧ ∀ i : Nat, i < n → own r p pl (x + (i : Int) * eX d) (y + (i : Int) * eY d) = true) (fun s => 9 - s.1.1.toNat) (fun res => ∃ n' : Nat, res = (((n' : Int), ()), ()) ∧ (∀ i : Nat, i < n' → own r p pl (x + (i : Int) * eX d) (y + (i : Int) * eY d) = true) ∧ own r p pl (x + (n' : Int) * eX d) (y + (n' : Int) * eY d) = false) (by
    rintro s ⟨n, rfl, hn8, hall⟩
    have m1 := small_mul (n := (n : Int)) (by omega) rx.1 rx.2
    have m2 := small_mul (n := (n : Int)) (by omega) ry.1 ry.2
    have w1 : w64 ((n : Int) * eX d) = (n : Int) * eX d := w64_id (by omega) (by omega)
    have w2 : w64 ((n : Int) * eY d) = (n : Int) * eY d := w64_id (by omega) (by omega)
    have w3 : w64 (x + (n : Int) * eX d) = x + (n : Int) * eX d := w64_id (by omega) (by omega)
    have w4 : w64 (y + (n : Int) * eY d) = y + (n : Int) * eY d := w64_id (by omega) (by omega)
    have hAt := refAt_spec h (x + (n : Int) * eX d) (y + (n : Int) * eY d)
    have hmine : Option.bind (ref1At r p (x + (n : Int) * eX d) (y + (n : Int) * eY d)) (fun r6 => ref1Mine r6 pl) = some (own r p pl (x + (n : Int) * eX d) (y + (n : Int) * eY d)) := by
      rw [hAt, Option.bind_some]
      unfold own
      cases hb : onB r (x + (n : Int) * eX d) (y + (n : Int) * eY d) with
      | false => simp [ref1Mine, imp, req]
      | true =>
        have hc := cell_small h (sq r (x + (n : Int) * eX d) (y + (n : Int) * eY d))
        rw [cond_true, refMine_spec _ _ hc.1 hc.2, Bool.true_and]
    have hstep : ref1Lined_L4 r p ((x, ()), ()) ((eX d, eY d, ()), ()) ((y, ()), ()) pl (((n : Int), ()), ()) = bif own r p pl (x + (n : Int) * eX d) (y + (n : Int) * eY d) then some (.inl ((((n + 1 : Nat) : Int), ()), ())) else some (.inr (((n : Int), ()), ())) := by
      unfold ref1Lined_L4
      simp only [w1, w2, w3, w4]
      rw [← Option.bind_assoc, hmine, Option.bind_some, w64_id (n := (n : Int) + 1) (by omega) (by omega)]
      rfl
    cases ho : own r p pl (x + (n : Int) * eX d) (y + (n : Int) * eY d) with
    | true =>
      left
      obtain ⟨q1, q2, q3, q4⟩ := onB_iff.1 (own_on ho)
      refine ⟨_, by rw [hstep, ho, cond_true], ⟨n + 1, rfl, by omega, fun i hi => ?_⟩, by simp; omega⟩
      by_cases e : i = n
      · subst e; exact ho
      · exact hall i (by omega)
    | false =>
      right
      exact ⟨_, by rw [hstep, ho, cond_false], n, rfl, hall, ho⟩) (((0 : Int), ()), ()) ⟨0, rfl, by omega, fun i hi => by omega⟩
  exact ⟨n', h1, h3, h4⟩
theorem lined_spec {r : Rules} {p : Place} (h : Valid r p) (pl : Int) {c : Int} (hc1 : 1 ≤ c) (hc : c ≤ 64) : ref1Lined r p pl c = some (linedB r p pl c) := by
  have hr := h.r0
  have := hr.w8; have := hr.h8; have := hr.w1; have := hr.h1
  unfold ref1Lined
  have hW : ((r.width.toNat : Nat) : Int) = r.2.1 := by show _ = r.width; omega
  have hH : ((r.height.toNat : Nat) : Int) = r.2.2.1 := by show _ = r.height; omega
  have hL := iterW_any (List.range r.height.toNat) (fun y => (List.range r.width.toNat).any fun x => (List.range 4).any fun d => runB r p pl c.toNat (x : Int) (y : Int) (eX d) (eY d)) (ref1Lined_L1 r p pl c) (.inr true) (.inl ((), ())) (fun y hy => by
    have hy' : y < r.height.toNat := by simpa using hy
    have hL2 := iterW_any (List.range r.width.toNat) (fun x => (List.range 4).any fun d => runB r p pl c.toNat (x : Int) (y : Int) (eX d) (eY d)) (ref1Lined_L2 r p (((y : Int), ()), ()) pl c) (.inr (.inr (.inr (.inr true)))) (.inl ((), ())) (fun x hx => by
      have hx' : x < r.width.toNat := by simpa using hx
      have hL3 := iterW_any (List.range 4) (fun d => runB r p pl c.toNat (x : Int) (y : Int) (eX d) (eY d)) (ref1Lined_L3 r p (((x : Int), ()), ()) (((y : Int), ()), ()) pl c) (.inr (.inr (.inr (.inr (.inr (.inr (.inr true))))))) (.inl ((), ())) (fun d hd => by
        have hd' : d < 4 := by simpa using hd
        have hon : onB r (x : Int) (y : Int) = true := onB_iff.2 ⟨by omega, by omega, by omega, by omega⟩
        obtain ⟨n', e1, e2, e3⟩ := lined4 h (pl := pl) (c := c) d hd' hon () ()
        unfold ref1Lined_L3
        simp only [show decide ((d : Int) < 4) = true by simp; omega, cond_true, List.length_cons, List.length_nil, show inb (d : Int) (0 + 1 + 1 + 1 + 1) = true from inb_iff.2 ⟨by omega, by omega⟩, req_true, agree_self, Option.bind_some, Int.toNat_natCast]
        rw [e1, Option.bind_some, w64_id (n := (d : Int) + 1) (by omega) (by omega)]
        simp only [List.getElem_range]
        have hrun : decide ((n' : Int) ≥ c) = runB r p pl c.toNat (x : Int) (y : Int) (eX d) (eY d) := by
          rw [Bool.eq_iff_iff, runB_iff, decide_eq_true_eq]
          constructor
          · intro hge i hi; exact e2 i (by omega)
          · intro hall
            by_cases hlt : (n' : Int) ≥ c
            · exact hlt
            · have := hall n' (by omega)
              rw [e3] at this; cases this
        rw [hrun]
        cases runB r p pl c.toNat (x : Int) (y : Int) (eX d) (eY d) <;> rfl) (by
        unfold ref1Lined_L3
        rfl)
      unfold ref1Lined_L2
      simp only [show decide ((x : Int) < r.2.1) = true by rw [← hW]; simp; omega, cond_true, List.getElem_range]
      rw [hL3, w64_id (n := (x : Int) + 1) (by omega) (by omega)]
      cases (List.range 4).any (fun d => runB r p pl c.toNat (x : Int) (y : Int) (eX d) (eY d)) <;> rfl) (by
      unfold ref1Lined_L2
      rw [List.length_range, hW]
      simp)
    unfold ref1Lined_L1
    simp only [show decide ((y : Int) < r.2.2.1) = true by rw [← hH]; simp; omega, cond_true, List.getElem_range]
    rw [hL2, w64_id (n := (y : Int) + 1) (by omega) (by omega)]
    cases (List.range r.width.toNat).any (fun x => (List.range 4).any fun d => runB r p pl c.toNat (x : Int) (y : Int) (eX d) (eY d)) <;> rfl) (by
    unfold ref1Lined_L1
    rw [List.length_range, hH]
    simp)
  rw [hL]
  unfold linedB
  cases (List.range r.height.toNat).any (fun y => (List.range r.width.toNat).any fun x => (List.range 4).any fun d => runB r p pl c.toNat (x : Int) (y : Int) (eX d) (eY d)) <;> rfl
end Go.Proofs.Ytocnfflklfeocaa
