/- The law MovetextWrites in plain Lean: it is true. Conditions: numbers in range. -/
import Derived.Test.YtaaigenpmaiodaaMovetextWritesS
import Derived.Test.YtaaigenpmaiodaaTextW
namespace Go.Proofs.Ytaaigenpmaiodaa
open Go.Den
set_option linter.unusedVariables false
set_option linter.unusedSimpArgs false
set_option maxRecDepth 100000

theorem sq_spec (r : Rules) (n : Int) (hr : Rng tyRules r) : movetextSquare_i r n = some (if ruleErr r = 0 then if 0 ≤ n ∧ n < ((r.start.length : Nat) : Int) then (sqT r n, (0, ())) else (e0, (4, ())) else (e0, (ruleErr r, ()))) := by
  unfold movetextSquare_i
  rw [check_spec r hr, Option.bind_some]
  by_cases c : ruleErr r = 0
  · have h := rules_valid c
    have hs := h.start
    have ha := h.area
    rw [bne_f c, cond_false, if_pos c]
    have hw : w64 (r.2.1 * r.2.2.1) = ((r.start.length : Nat) : Int) := by
      rw [w64_id (by show _ ≤ r.width * r.height; omega) (by show r.width * r.height ≤ _; omega)]
      exact hs.symm
    rw [hw]
    by_cases hn : 0 ≤ n ∧ n < ((r.start.length : Nat) : Int)
    · rw [show (decide (n < 0) || decide (n ≥ ((r.start.length : Nat) : Int))) = false by simp; omega, cond_false, if_pos hn, square_spec (onB_of h hn.1 (by omega))]
      rfl
    · rw [show (decide (n < 0) || decide (n ≥ ((r.start.length : Nat) : Int))) = true by simp; omega, cond_true, if_neg hn]
      rfl
  · rw [bne_t c, cond_true, if_neg c]
    rfl
theorem tail_true (r : Rules) (p : Place) (m : Mv) (hr : Rng tyRules r) (hn : p.1.length ≤ 9223372036854775807) : (Option.bind (movetextText r p m) fun r13 => Option.bind (movesLegal r p m) fun r14 => bif (r14.2.1 != (0 : Int)) then some ((r13.2.1 == r14.2.1) && (r13.1.toList == (ByteArray.mk #[]).toList)) else bif (!r14.1) then some ((r13.2.1 == (13 : Int)) && (r13.1.toList == (ByteArray.mk #[]).toList)) else Option.bind (gopt (r13.2.1 == (0 : Int)) ByteArray.empty (ref3MoveText r p m)) fun r15 => some ((r13.2.1 == (0 : Int)) && (r13.1.toList == r15.toList))) = some true := by
  have hL := letters_of hr
  rw [text_spec r p m hL hr hn, legal_spec r p m hr hn]
  simp only [Option.bind_some]
  by_cases c : placeErr r p = 0
  · by_cases ca : allowedB r p m = true
    · rw [rtext_spec hL hr (valid_of c) c ca]
      simp [c, ca, gopt]
    · simp [c, ca, e0]
  · simp only [if_neg c]
    rw [bne_t c, cond_true]
    simp [e0]
theorem law3MovetextWrites_true (r : Rules) (p : Place) (m : Mv) (square : Int) (hr : Rng tyRules r) (hp : Rng tyPlace p) (hm : Rng (.st (.int .i64) (.st (.int .i64) (.st (.int .i64) .nil))) m) (hs : Rng (.int .i64) square) : law3MovetextWrites r p m square = some true := by
  have hn : p.1.length ≤ 9223372036854775807 := hp.1.1
  have tl := tail_true r p m hr hn
  unfold law3MovetextWrites
  rw [writes_true, Option.bind_some, Bool.not_true, cond_false]
  cases law3Great r with
  | true => rfl
  | false =>
    rw [cond_false, sq_spec r square hr, Option.bind_some, check_spec r hr, Option.bind_some]
    by_cases c : ruleErr r = 0
    · have h := rules_valid c
      have hst := h.start
      rw [bne_f c, cond_false]
      simp only [if_pos c]
      by_cases hq : 0 ≤ square ∧ square < ((r.start.length : Nat) : Int)
      · have hb := onB_of h hq.1 (by omega)
        have hd : (decide (square < 0) || decide (square ≥ ((r.2.2.2.2.1.length : Nat) : Int))) = false := by
          have : square < ((r.2.2.2.2.1.length : Nat) : Int) := hq.2
          simp; omega
        rw [hd, cond_false, show ref3Square r.2.1 square = some (sqT r square) from rsquare_spec hb]
        simp only [if_pos hq, bne_self_eq_false, Bool.not_false, gopt, cond_true, Option.bind_some, beq_self_eq_true, Bool.not_true, Bool.or_self, cond_false, Sum.elim_inl]
        exact tl
      · have hd : (decide (square < 0) || decide (square ≥ ((r.2.2.2.2.1.length : Nat) : Int))) = true := by
          have : ¬ (0 ≤ square ∧ square < ((r.2.2.2.2.1.length : Nat) : Int)) := hq
          simp; omega
        rw [hd, cond_true]
        have he : (e0.toList == (ByteArray.mk #[]).toList) = true := beq_self_eq_true _
        simp only [if_neg hq, bne_self_eq_false, he, Bool.not_true, Bool.or_self, cond_false, Option.bind_some, Sum.elim_inl]
        exact tl
    · rw [bne_t c, cond_true]
      have he : (e0.toList == (ByteArray.mk #[]).toList) = true := beq_self_eq_true _
      simp only [if_neg c, bne_self_eq_false, he, Bool.not_true, Bool.or_self, cond_false, Option.bind_some, Sum.elim_inl]
      exact tl
end Go.Proofs.Ytaaigenpmaiodaa
