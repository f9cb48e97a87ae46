/- Texts of moves: no two legal moves have the same text. No condition of its own. -/
import Derived.Test.YtaaigenpmaiodaaTextW
namespace Go.Proofs.Ytaaigenpmaiodaa
open Go.Den
set_option linter.unusedVariables false
set_option linter.unusedSimpArgs false
set_option maxRecDepth 100000

def bl (a : ByteArray) : List UInt8 := a.data.toList
theorem bl_app (a b : ByteArray) : bl (a ++ b) = bl a ++ bl b := by simp [bl, ByteArray.data_append]
theorem bl_inj {a b : ByteArray} (h : bl a = bl b) : a = b := bytes_inj (by rw [ByteArray.toList_eq, ByteArray.toList_eq]; exact h)
def by8 (n : Int) : UInt8 := UInt8.ofNat n.toNat
theorem by8_inj {a b : Int} (ha : 0 ≤ a ∧ a < 256) (hb : 0 ≤ b ∧ b < 256) (h : by8 a = by8 b) : a = b := by
  have := (u8_inj (by omega) (by omega)).1 h
  omega
structure Lets (r : Rules) : Prop where
  rng : ∀ k : Int, 0 ≤ k → k < ((r.pieces.length : Nat) : Int) → 65 ≤ (pieceI r k).1 ∧ (pieceI r k).1 ≤ 90
  inj : ∀ j k : Int, 0 ≤ j → j < ((r.pieces.length : Nat) : Int) → 0 ≤ k → k < ((r.pieces.length : Nat) : Int) → (pieceI r j).1 = (pieceI r k).1 → j = k
theorem lets_of {r : Rules} (h : ruleErr r = 0) : Lets r := by
  unfold ruleErr at h
  split at h
  · cases h
  split at h
  · cases h
  split at h
  · cases h
  split at h
  · cases h
  split at h
  · rename_i h5; exact absurd h h5
  rename_i h5
  have h5 := firstNZ_zero (Decidable.not_not.1 h5)
  have key : ∀ i (hi : i < r.pieces.length), (65 ≤ (r.pieces[i]).1 ∧ (r.pieces[i]).1 ≤ 90) ∧ ∀ j, (hj : j < i) → ¬ (r.pieces[j]'(by omega)).1 = (r.pieces[i]).1 := fun i hi => by
    have := h5 i hi
    unfold pErr at this
    rw [List.getElem?_eq_getElem hi] at this
    simp only at this
    cases h1 : (decide ((r.pieces[i]).1 < 65) || decide ((r.pieces[i]).1 > 90)) with
    | true => rw [h1, cond_true] at this; cases this
    | false =>
      rw [h1, cond_false] at this
      cases h2 : (r.pieces.take i).any (fun q => q.1 == (r.pieces[i]).1) with
      | true => rw [h2, cond_true] at this; cases this
      | false =>
        rw [Bool.or_eq_false_iff, decide_eq_false_iff_not, decide_eq_false_iff_not] at h1
        refine ⟨by omega, fun j hj e => ?_⟩
        rw [List.any_eq_false] at h2
        refine h2 (r.pieces[j]'(by omega)) ?_ (beq_t e)
        rw [List.mem_take_iff_getElem]
        exact ⟨j, by omega, rfl⟩
  have hp : ∀ k : Int, (h0 : 0 ≤ k) → (h1 : k < ((r.pieces.length : Nat) : Int)) → pieceI r k = r.pieces[k.toNat]'(by omega) := fun k h0 h1 => by
    have hk : k.toNat < r.pieces.length := by omega
    unfold pieceI
    rw [List.getD_eq_getElem?_getD, List.getElem?_eq_getElem hk]
    rfl
  refine ⟨fun k h0 h1 => ?_, fun j k j0 j1 k0 k1 e => ?_⟩
  · rw [hp k h0 h1]
    exact (key _ (by omega)).1
  · rw [hp j j0 j1, hp k k0 k1] at e
    rcases Nat.lt_trichotomy j.toNat k.toNat with c | c | c
    · exact absurd e ((key k.toNat (by omega)).2 _ c)
    · omega
    · exact absurd e.symm ((key j.toNat (by omega)).2 _ c)
theorem bl_letter {r : Rules} (hl : Lets r) {k : Int} (h0 : 0 ≤ k) (h1 : k < ((r.pieces.length : Nat) : Int)) : bl (letterT r k) = [by8 (pieceI r k).1] := by
  have := hl.rng k h0 h1
  unfold letterT
  rw [enc_ascii (by omega) (by omega)]
  rfl
theorem bl_sq (r : Rules) (n : Int) : bl (sqT r n) = [by8 (97 + n.tmod r.width), by8 (49 + n.tdiv r.width)] := rfl
/-- a text of a move of a piece, byte by byte -/
def goB (L : UInt8) (M X S Q : List UInt8) : List UInt8 := L :: (M ++ X ++ S ++ Q)
def xB (p : Place) (m : Mv) : List UInt8 := if cellI p m.2.1 = 0 then [] else [120]
def qB (r : Rules) (p : Place) (m : Mv) : List UInt8 := if m.2.2.1 = kindOf (cellI p m.1) then [] else [61, by8 (pieceI r m.2.2.1).1]
theorem bl_go {r : Rules} {p : Place} {m : Mv} (hl : Lets r) (h : Valid r p) (ha : allowedB r p m = true) (hm : ¬ m.1 < 0) (mark : ByteArray) : bl (goT r p m mark) = goB (by8 (pieceI r (kindOf (cellI p m.1))).1) (bl mark) (xB p m) (bl (sqT r m.2.1)) (qB r p m) := by
  have hrg := allowed_rng ha
  obtain ⟨hc, hc2⟩ := allowed_mine ha hm
  obtain ⟨k1, k2, k3⟩ := kind_rng h hc
  have bx : bl xT = [120] := rfl
  have be : bl eqT = [61] := rfl
  unfold goT goB xB qB
  by_cases c1 : m.2.2.1 = kindOf (cellI p m.1)
  · rw [bne_f c1, cond_false, if_pos c1]
    by_cases c2 : cellI p m.2.1 = 0
    · rw [bne_f c2, cond_false, if_pos c2, bl_app, bl_app, bl_letter hl k2 k3]; simp
    · rw [bne_t c2, cond_true, if_neg c2, bl_app, bl_app, bl_app, bl_letter hl k2 k3, bx]; simp
  · rw [bne_t c1, cond_true, if_neg c1]
    by_cases c2 : cellI p m.2.1 = 0
    · rw [bne_f c2, cond_false, if_pos c2, bl_app, bl_app, bl_app, bl_app, bl_letter hl k2 k3, bl_letter hl hrg.2.2.1 hrg.2.2.2, be]; simp
    · rw [bne_t c2, cond_true, if_neg c2, bl_app, bl_app, bl_app, bl_app, bl_app, bl_letter hl k2 k3, bl_letter hl hrg.2.2.1 hrg.2.2.2, bx, be]; simp
theorem split2 {A : Type} {s t s' t' : List A} (h : s ++ t = s' ++ t') (hl : t.length = t'.length) : s = s' ∧ t = t' := List.append_inj' h hl
theorem getLast_app {A : Type} {s t : List A} {a : A} (h : t.getLast? = some a) : (s ++ t).getLast? = some a := by
  rw [List.getLast?_append, h]; rfl
/-- the bytes of a mark: of a column, of a row, or both -/
def MarkB (M : List UInt8) : Prop := ∀ b ∈ M, ¬ b = 120 ∧ ¬ b = 64
theorem small_ne {n : Int} (h : 0 ≤ n ∧ n < 8) : (¬ by8 (97 + n) = 120 ∧ ¬ by8 (97 + n) = 64) ∧ (¬ by8 (49 + n) = 120 ∧ ¬ by8 (49 + n) = 64) ∧ ¬ by8 (97 + n) = 61 := by
  have : n = 0 ∨ n = 1 ∨ n = 2 ∨ n = 3 ∨ n = 4 ∨ n = 5 ∨ n = 6 ∨ n = 7 := by omega
  rcases this with rfl | rfl | rfl | rfl | rfl | rfl | rfl | rfl <;> decide
theorem markB_of {r : Rules} {p : Place} {m : Mv} (hb : OnB r m.1) : MarkB (bl (markT r p m)) := by
  have hc := small_ne hb.c
  have hd := small_ne hb.d
  unfold markT
  split
  · intro b hb'; cases hb'
  · split
    · intro b hb'
      have : bl (colT (m.1.tmod r.width)) = [by8 (97 + m.1.tmod r.width)] := rfl
      rw [this, List.mem_singleton] at hb'
      subst hb'
      exact hc.1
    · split
      · intro b hb'
        have : bl (rowT (m.1.tdiv r.width)) = [by8 (49 + m.1.tdiv r.width)] := rfl
        rw [this, List.mem_singleton] at hb'
        subst hb'
        exact hd.2.1
      · intro b hb'
        rw [bl_sq] at hb'
        rcases List.mem_cons.1 hb' with rfl | hb'
        · exact hc.1
        · rw [List.mem_singleton] at hb'
          subst hb'
          exact hd.2.1
def qL : Option UInt8 → List UInt8
  | none => []
  | some a => [61, a]
/-- what the bytes of two texts tell -/
theorem goB_inj {L L' : UInt8} {M M' : List UInt8} {x x' : Bool} {c d c' d' : UInt8} {q q' : Option UInt8} (hM : MarkB M) (hM' : MarkB M') (hd : ∀ a, q' = some a → ¬ d = a) (hd' : ∀ a, q = some a → ¬ d' = a) (hc : ¬ c = 61) (hc' : ¬ c' = 61)
    (h : goB L M (if x then [120] else []) [c, d] (qL q) = goB L' M' (if x' then [120] else []) [c', d'] (qL q')) :
    L = L' ∧ M = M' ∧ c = c' ∧ d = d' ∧ q = q' := by
  unfold goB at h
  rw [List.cons.injEq] at h
  obtain ⟨h1, h⟩ := h
  have hx : ∀ {M M' : List UInt8} {x x' : Bool}, MarkB M → MarkB M' → M ++ (if x then [120] else []) = M' ++ (if x' then [120] else []) → M = M' := by
    intro M M' x x' hM hM' e
    cases x <;> cases x'
    · simpa using e
    · exfalso
      simp only [Bool.false_eq_true, if_false, List.append_nil, if_true] at e
      exact (hM 120 (by rw [e]; simp)).1 rfl
    · exfalso
      simp only [Bool.false_eq_true, if_false, List.append_nil, if_true] at e
      exact (hM' 120 (by rw [← e]; simp)).1 rfl
    · exact (split2 e rfl).1
  match q, q', h with
  | none, none, h =>
    simp only [qL, List.append_nil] at h
    obtain ⟨a, b⟩ := split2 h rfl
    simp only [List.cons.injEq, and_true] at b
    exact ⟨h1, hx hM hM' a, b.1, b.2, rfl⟩
  | some a, some a', h =>
    obtain ⟨e1, e2⟩ := split2 h rfl
    obtain ⟨e3, e4⟩ := split2 e1 rfl
    simp only [qL, List.cons.injEq, and_true, true_and] at e2 e4
    exact ⟨h1, hx hM hM' e3, e4.1, e4.2, by rw [e2]⟩
  | none, some a', h =>
    exfalso
    simp only [qL, List.append_nil] at h
    have e : [c, d] = [61, a'] := (split2 h rfl).2
    simp only [List.cons.injEq, and_true] at e
    exact hc e.1
  | some a, none, h =>
    exfalso
    simp only [qL, List.append_nil] at h
    have e : [61, a] = [c', d'] := (split2 h rfl).2
    simp only [List.cons.injEq, and_true] at e
    exact hc' e.1.symm
theorem mv_ext {x y : Mv} (h1 : x.1 = y.1) (h2 : x.2.1 = y.2.1) (h3 : x.2.2.1 = y.2.2.1) : x = y := by
  obtain ⟨a, b, c, ⟨⟩⟩ := x
  obtain ⟨a', b', c', ⟨⟩⟩ := y
  simp only at h1 h2 h3
  subst h1 h2 h3
  rfl
theorem sq_eq {r : Rules} {a b : Int} (ha : OnB r a) (hb : OnB r b) (h : a.tmod r.width = b.tmod r.width) (h' : a.tdiv r.width = b.tdiv r.width) : a = b := by
  have e1 := Int.mul_tdiv_add_tmod a r.width
  have e2 := Int.mul_tdiv_add_tmod b r.width
  rw [h, h'] at e1
  omega
/-- a mark that another move has, too -/
theorem mark_inj {r : Rules} {p : Place} {m n : Mv} (hbm : OnB r m.1) (hbn : OnB r n.1) (hr : n.1 ∈ rivals r p m) (h : markT r p m = markT r p n) : m.1 = n.1 := by
  have hne : ¬ (rivals r p m).length = 0 := fun e => by
    rw [List.length_eq_zero_iff.1 e] at hr
    cases hr
  have c1 : (colT (m.1.tmod r.width)).size = 1 := rfl
  have size1 : ∀ i, (colT i).size = 1 ∧ (rowT i).size = 1 := fun i => ⟨rfl, rfl⟩
  have size2 : ∀ i, (sqT r i).size = 2 := fun _ => rfl
  have size0 : e0.size = 0 := rfl
  unfold markT at h
  rw [if_neg hne] at h
  by_cases a1 : (rivals r p m).any (sameC r m) = false
  · rw [if_pos a1] at h
    have hnc : ¬ n.1.tmod r.width = m.1.tmod r.width := fun e => by
      rw [List.any_eq_false] at a1
      exact a1 _ hr (beq_t e)
    exfalso
    split at h
    · have := congrArg ByteArray.size h; rw [(size1 _).1, size0] at this; cases this
    · split at h
      · exact hnc ((col_inj hbm.c hbn.c).1 h).symm
      · split at h
        · exact col_row hbm.c hbn.d h
        · have := congrArg ByteArray.size h; rw [(size1 _).1, size2] at this; cases this
  · rw [if_neg a1] at h
    by_cases a2 : (rivals r p m).any (sameR r m) = false
    · rw [if_pos a2] at h
      have hnr : ¬ n.1.tdiv r.width = m.1.tdiv r.width := fun e => by
        rw [List.any_eq_false] at a2
        exact a2 _ hr (beq_t e)
      exfalso
      split at h
      · have := congrArg ByteArray.size h; rw [(size1 _).2, size0] at this; cases this
      · split at h
        · exact col_row hbn.c hbm.d h.symm
        · split at h
          · exact hnr ((row_inj hbm.d hbn.d).1 h).symm
          · have := congrArg ByteArray.size h; rw [(size1 _).2, size2] at this; cases this
    · rw [if_neg a2] at h
      split at h
      · have := congrArg ByteArray.size h; rw [size2, size0] at this; cases this
      · split at h
        · have := congrArg ByteArray.size h; rw [size2, (size1 _).1] at this; cases this
        · split at h
          · have := congrArg ByteArray.size h; rw [size2, (size1 _).2] at this; cases this
          · have e := congrArg bl h
            rw [bl_sq, bl_sq] at e
            simp only [List.cons.injEq, and_true] at e
            have hc := hbm.c
            have hd := hbm.d
            have hc' := hbn.c
            have hd' := hbn.d
            have q1 := by8_inj (by omega) (by omega) e.1
            have q2 := by8_inj (by omega) (by omega) e.2
            exact sq_eq hbm hbn (by omega) (by omega)
theorem text_inj {r : Rules} {p : Place} {m n : Mv} (hl : Lets r) (h : Valid r p) (ha : allowedB r p m = true) (hb : allowedB r p n = true) (e : moveT r p m = moveT r p n) : m = n := by
  have hrm := allowed_rng ha
  have hrn := allowed_rng hb
  have tm := onB_cell h (n := m.2.1) hrm.2.1.1 hrm.2.1.2
  have tn := onB_cell h (n := n.2.1) hrn.2.1.1 hrn.2.1.2
  have lm := hl.rng m.2.2.1 hrm.2.2.1 hrm.2.2.2
  have ln := hl.rng n.2.2.1 hrn.2.2.1 hrn.2.2.2
  have bat : bl atT = [64] := rfl
  have tmc := tm.c
  have tmd := tm.d
  have tnc := tn.c
  have tnd := tn.d
  have drop : ∀ x : Mv, allowedB r p x = true → x.1 < 0 → bl (moveT r p x) = [by8 (pieceI r x.2.2.1).1, 64, by8 (97 + x.2.1.tmod r.width), by8 (49 + x.2.1.tdiv r.width)] := fun x hx hx0 => by
    have hrx := allowed_rng hx
    unfold moveT
    rw [if_pos hx0, bl_app, bl_app, bl_letter hl hrx.2.2.1 hrx.2.2.2, bat, bl_sq]
    rfl
  have go : ∀ x : Mv, allowedB r p x = true → ¬ x.1 < 0 → bl (moveT r p x) = goB (by8 (pieceI r (kindOf (cellI p x.1))).1) (bl (markT r p x)) (xB p x) (bl (sqT r x.2.1)) (qB r p x) := fun x hx hx0 => by
    unfold moveT
    rw [if_neg hx0, bl_go hl h hx hx0]
  have mixed : ∀ x y : Mv, allowedB r p x = true → allowedB r p y = true → x.1 < 0 → ¬ y.1 < 0 → ¬ moveT r p x = moveT r p y := fun x y hx hy hx0 hy0 e => by
    have hry := allowed_rng hy
    have ty := onB_cell h (n := y.2.1) hry.2.1.1 hry.2.1.2
    have by' := onB_cell h (n := y.1) (by omega) hry.1.2
    have hM := markB_of (p := p) (m := y) by'
    have hs := small_ne ty.c
    have e := congrArg bl e
    rw [drop x hx hx0, go y hy hy0, bl_sq] at e
    unfold goB xB at e
    rw [List.cons.injEq] at e
    have e := e.2
    cases hb : bl (markT r p y) with
    | nil =>
      rw [hb] at e
      split at e
      · simp only [List.nil_append, List.cons_append, List.cons.injEq] at e
        exact hs.1.2 e.1.symm
      · simp only [List.nil_append, List.cons_append, List.cons.injEq] at e
        exact absurd e.1 (by decide)
    | cons b t =>
      rw [hb] at e
      simp only [List.cons_append, List.cons.injEq] at e
      exact (hM b (by rw [hb]; exact List.mem_cons_self)).2 e.1.symm
  by_cases cm : m.1 < 0
  · by_cases cn : n.1 < 0
    · have e := congrArg bl e
      rw [drop m ha cm, drop n hb cn] at e
      simp only [List.cons.injEq, and_true, true_and] at e
      have q1 := by8_inj (by omega) (by omega) e.1
      have q2 := by8_inj (by omega) (by omega) e.2.1
      have q3 := by8_inj (by omega) (by omega) e.2.2
      exact mv_ext (by omega) (sq_eq tm tn (by omega) (by omega)) (hl.inj _ _ hrm.2.2.1 hrm.2.2.2 hrn.2.2.1 hrn.2.2.2 q1)
    · exact absurd e (mixed m n ha hb cm cn)
  · by_cases cn : n.1 < 0
    · exact absurd e.symm (mixed n m hb ha cn cm)
    · have fm := onB_cell h (n := m.1) (by omega) hrm.1.2
      have fn := onB_cell h (n := n.1) (by omega) hrn.1.2
      obtain ⟨hc, hc2⟩ := allowed_mine ha cm
      obtain ⟨hd, hd2⟩ := allowed_mine hb cn
      obtain ⟨_, k2, k3⟩ := kind_rng h hc
      obtain ⟨_, j2, j3⟩ := kind_rng h hd
      have lk := hl.rng _ k2 k3
      have lj := hl.rng _ j2 j3
      have e := congrArg bl e
      rw [go m ha cm, go n hb cn, bl_sq, bl_sq] at e
      have hxB : ∀ x : Mv, xB p x = if (cellI p x.2.1 != 0) = true then [120] else [] := fun x => by
        unfold xB
        by_cases c : cellI p x.2.1 = 0
        · rw [if_pos c, bne_f c]; rfl
        · rw [if_neg c, bne_t c]; rfl
      have hqB : ∀ x : Mv, qB r p x = qL (if x.2.2.1 = kindOf (cellI p x.1) then none else some (by8 (pieceI r x.2.2.1).1)) := fun x => by
        unfold qB
        by_cases c : x.2.2.1 = kindOf (cellI p x.1)
        · rw [if_pos c, if_pos c]; rfl
        · rw [if_neg c, if_neg c]; rfl
      rw [hxB m, hxB n, hqB m, hqB n] at e
      have lowhigh : ∀ (x y : Mv) (a : UInt8), allowedB r p x = true → 0 ≤ y.2.1.tdiv r.width ∧ y.2.1.tdiv r.width < 8 → (if x.2.2.1 = kindOf (cellI p x.1) then none else some (by8 (pieceI r x.2.2.1).1) : Option UInt8) = some a → ¬ by8 (49 + y.2.1.tdiv r.width) = a := fun x y a hx hy hq hh => by
        have hrx := allowed_rng hx
        have := hl.rng x.2.2.1 hrx.2.2.1 hrx.2.2.2
        split at hq
        · cases hq
        · cases hq
          have := by8_inj (by omega) (by omega) hh
          omega
      obtain ⟨g1, g2, g3, g4, g5⟩ := goB_inj (markB_of (p := p) fm) (markB_of (p := p) fn) (fun a ha' => lowhigh n m a hb tmd ha') (fun a ha' => lowhigh m n a ha tnd ha') (small_ne tmc).2.2 (small_ne tnc).2.2 e
      have kk := hl.inj _ _ k2 k3 j2 j3 (by8_inj (by omega) (by omega) g1)
      have to : m.2.1 = n.2.1 := by
        have q2 := by8_inj (by omega) (by omega) g3
        have q3 := by8_inj (by omega) (by omega) g4
        exact sq_eq tm tn (by omega) (by omega)
      have hcell : cellI p n.1 = cellI p m.1 := by
        have e1 := Int.mul_tdiv_add_tmod (cellI p m.1 - 1) 2
        have e2 := Int.mul_tdiv_add_tmod (cellI p n.1 - 1) 2
        have e3 : (cellI p m.1 - 1).tdiv 2 = (cellI p n.1 - 1).tdiv 2 := kk
        omega
      have from' : m.1 = n.1 := by
        refine Decidable.byContradiction fun hne => hne (mark_inj fm fn ?_ (bl_inj g2))
        unfold rivals
        refine List.mem_map.2 ⟨n, List.mem_filter.2 ⟨(movesOf_mem n).2 hb, ?_⟩, rfl⟩
        unfold riv
        rw [decide_eq_true (by omega), bne_t (fun e => hne e.symm), beq_t to.symm, beq_t hcell]
        rfl
      refine mv_ext from' to ?_
      rw [kk] at g5
      by_cases p1 : m.2.2.1 = kindOf (cellI p n.1)
      · by_cases p2 : n.2.2.1 = kindOf (cellI p n.1)
        · rw [p1, p2]
        · rw [if_pos p1, if_neg p2] at g5; cases g5
      · by_cases p2 : n.2.2.1 = kindOf (cellI p n.1)
        · rw [if_neg p1, if_pos p2] at g5; cases g5
        · rw [if_neg p1, if_neg p2, Option.some.injEq] at g5
          exact hl.inj _ _ hrm.2.2.1 hrm.2.2.2 hrn.2.2.1 hrn.2.2.2 (by8_inj (by omega) (by omega) g5)
end Go.Proofs.Ytaaigenpmaiodaa
