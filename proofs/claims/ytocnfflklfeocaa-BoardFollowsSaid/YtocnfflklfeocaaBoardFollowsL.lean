/- The law BoardFollows in plain Lean: it is true. Conditions: numbers in range. -/
import Derived.Test.YtocnfflklfeocaaBoardFollowsS
import Derived.Test.YtocnfflklfeocaaGameP
import Derived.Test.YtocnfflklfeocaaCoreK
namespace Go.Proofs.Ytocnfflklfeocaa
open Go.Den
set_option linter.unusedVariables false
set_option linter.unusedSimpArgs false
set_option maxRecDepth 100000

theorem agreeN_eq {α : Type} : ∀ (n : Nat) (x : Option α), agreeN n x = x
  | 0, _ => rfl
  | n + 1, x => by rw [agreeN, agreeN_eq n x, agree_self]
structure OKB (r : Rules) (L : List Place) (n : Nat) : Prop where
  all : ∀ q ∈ L, Valid r q
  pos : 0 < L.length
  len : L.length ≤ n
theorem OKB.last {r : Rules} {L : List Place} {n : Nat} (h : OKB r L n) : Valid r (lastP L) := h.all _ (last_mem h.pos)
def doErr (r : Rules) (L : List Place) (m : Mv) : Int := if resultOf r (lastP L) = 0 then if allowedB r (lastP L) m = true then 0 else 13 else 14
def openB (r : Rules) (p : Place) : List Mv := bif resultOf r p != 0 then [] else movesOf r p
theorem openB_spec {r : Rules} {p : Place} (h : Valid r p) : endsMoves r p = some (openB r p) := by
  unfold endsMoves openB
  rw [result_spec h, Option.bind_some, list_spec h]
  cases (resultOf r p != 0) <;> rfl
theorem cells64 {r : Rules} {p : Place} (hv : Valid r p) : p.1.length ≤ 64 := by
  have h1 := hv.cells
  have h2 := hv.r0.area
  have h3 : ((p.1.length : Nat) : Int) = r.width * r.height := h1
  omega
theorem lastD (L : List Place) : getD' L (L.length - 1) (([] : List Int), ((([] : List Int), (([] : List Int), ())), ((0 : Int), ((0 : Int), ())))) = lastP L := rfl
theorem inL {L : List Place} (h0 : 0 < L.length) : inb ((L.length - 1 : Nat) : Int) L.length = true := inb_iff.2 ⟨by omega, by omega⟩
theorem atL {L : List Place} (h0 : 0 < L.length) : at? L ((L.length - 1 : Nat) : Int) = some (lastP L) := by
  rw [at?_eq _ _ (by omega) (by omega)]
  unfold lastP
  simp only [Int.toNat_natCast, getD', List.getD_eq_getElem?_getD]
  rw [List.getElem?_eq_getElem (by omega)]
  rfl
theorem resB {r : Rules} {L : List Place} (h : OKB r L 100) : boardBoardResult (r, (L, ())) = some (resultOf r (lastP L)) := by
  have hw := w_last h.pos (by have := h.len; omega)
  unfold boardBoardResult
  simp only [agreeN_eq, agree_self, hw, atL h.pos, result_spec h.last, Option.bind_some]
theorem lenB {r : Rules} {L : List Place} (h : OKB r L 100) : boardBoardLen (r, (L, ())) = ((L.length - 1 : Nat) : Int) := by
  have hw := w_last h.pos (by have := h.len; omega)
  unfold boardBoardLen
  simp only [hw]
theorem turnB {r : Rules} {L : List Place} (h : OKB r L 100) : boardBoardTurn (r, (L, ())) = some (lastP L).2.2.1 := by
  have hw := w_last h.pos (by have := h.len; omega)
  unfold boardBoardTurn
  simp only [hw, atL h.pos, Option.bind_some]
theorem bposB {r : Rules} {L : List Place} (h : OKB r L 100) : boardBoardPosition (r, (L, ())) = some (lastP L) := by
  have hw := w_last h.pos (by have := h.len; omega)
  unfold boardBoardPosition
  simp only [hw, atL h.pos, pcopy_spec h.last, Option.bind_some, pl_eta]
theorem keyB {r : Rules} {L : List Place} (h : OKB r L 100) : boardBoardKey (r, (L, ())) = some (keyOf (lastP L)) := by
  have hw := w_last h.pos (by have := h.len; omega)
  unfold boardBoardKey
  simp only [hw, atL h.pos, key_spec h.last, Option.bind_some]
theorem movB {r : Rules} {L : List Place} (h : OKB r L 100) : boardBoardMoves (r, (L, ())) = some (openB r (lastP L)) := by
  have hw := w_last h.pos (by have := h.len; omega)
  unfold boardBoardMoves
  simp only [agreeN_eq, agree_self, hw, atL h.pos, openB_spec h.last, Option.bind_some]
theorem do_spec {r : Rules} {L : List Place} (h : OKB r L 100) (m : Mv) : boardBoardDo (r, (L, ())) m = some (if doErr r L m = 0 then ((r, (L ++ [afterOf r (lastP L) m], ())), 0) else ((r, (L, ())), doErr r L m)) := by
  have h0 := h.pos
  have hl := h.len
  have hv := h.last
  have hw := w_last h0 (by omega)
  unfold boardBoardDo doErr
  simp only [boardBoardDo_A1, boardBoardDo_A2, boardBoardDo_A3, agreeN_eq, agree_self, resB h, lenB h, hw, inL h0, req_true, Int.toNat_natCast, lastD, list_spec hv, Option.bind_some, index_spec (movesOf r (lastP L)) m (by have := movesOf_len hv; omega)]
  by_cases c1 : resultOf r (lastP L) = 0
  · rw [bne_f c1, cond_false, if_pos c1]
    by_cases c2 : allowedB r (lastP L) m = true
    · have e401 : (((L.length - 1 : Nat) : Int) == 400) = false := beq_f (by omega)
      have hm : decide (m ∈ movesOf r (lastP L)) = true := decide_eq_true ((movesOf_mem m).2 c2)
      simp only [hm, c2, Bool.not_true, cond_false, e401, make_spec hv c2, Option.bind_some, if_true]
      rw [room_ok (by simp only [List.length_singleton]; omega)]
      rfl
    · have hm : decide (m ∈ movesOf r (lastP L)) = false := decide_eq_false (fun h => c2 ((movesOf_mem m).1 h))
      simp only [hm, if_neg c2]
      rfl
  · rw [bne_t c1, cond_true, if_neg c1]
    rfl
theorem undo_spec {r : Rules} {L : List Place} (h : OKB r L 100) : boardBoardUndo (r, (L, ())) = some (if L.length = 1 then ((r, (L, ())), 8) else ((r, (L.take (L.length - 1), ())), 0)) := by
  have h0 := h.pos
  have hl := h.len
  have hw := w_last h0 (by omega)
  unfold boardBoardUndo
  simp only [hw, lenB h, Option.bind_some]
  by_cases c : L.length = 1
  · rw [beq_t (by omega), if_pos c]
    rfl
  · rw [beq_f (by omega), if_neg c, cond_false, show boundsI 0 ((L.length - 1 : Nat) : Int) L.length = true by simp [boundsI], req_true, Int.toNat_natCast]
def flB (r : Rules) (L : List Place) : ByteArray × Int × Int × (List Piece) × (List Int) × Bool × Bool × (List End) × Int × Int × Int × (List Place) × Unit := (r.1, (r.2.1, (r.2.2.1, (r.2.2.2.1, (r.2.2.2.2.1, (r.2.2.2.2.2.1, (r.2.2.2.2.2.2.1, (r.2.2.2.2.2.2.2.1, (r.2.2.2.2.2.2.2.2.1, (r.2.2.2.2.2.2.2.2.2.1, (r.2.2.2.2.2.2.2.2.2.2.1, (L, ()))))))))))))
theorem OKB.up {r : Rules} {L : List Place} {n m : Nat} (h : OKB r L n) (hm : n ≤ m) : OKB r L m := ⟨h.all, h.pos, by have := h.len; omega⟩
theorem step_ok {r : Rules} {L : List Place} {script : List Int} {i : Nat} (h : OKB r L (i + 1)) (hi : i < ((script.take ((if (12 : Int) < ((script.length : Nat) : Int) then (12 : Int) else ((script.length : Nat) : Int))).toNat).drop 0).length) (h12 : i < 12) :
    ∃ L', law1BoardFollows_L1 script r ((L, (i : Int), ()), (flB r L, ())) = some (.inl ((L', ((i + 1 : Nat) : Int), ()), (flB r L', ()))) ∧ OKB r L' (i + 2) := by
  have h100 : OKB r L 100 := h.up (by omega)
  have h0 := h.pos
  have hl := h.len
  have hv := h.last
  have hw := w_last h0 (by omega)
  have hdo := do_spec h100
  have hun := undo_spec h100
  have hw1 : w64 ((i : Int) + 1) = ((i + 1 : Nat) : Int) := by rw [w64_id (by omega) (by omega)]; omega
  unfold law1BoardFollows_L1 flB
  simp only [rep_eta]
  generalize (script.take ((if (12 : Int) < ((script.length : Nat) : Int) then (12 : Int) else ((script.length : Nat) : Int))).toNat).drop 0 = K at hi ⊢
  obtain ⟨d, hd⟩ : ∃ d, at? K (i : Int) = some d := ⟨_, at?_eq _ _ (by omega) (by omega)⟩
  rw [ltd K i hi, cond_true, hd, Option.bind_some]
  simp only [Int.toNat_natCast, hw, inL h0, req_true, lastD, hw1]
  by_cases cd : d = -1
  · rw [beq_t cd, cond_true, hun]
    by_cases c1 : L.length = 1
    · refine ⟨L, ?_, h.up (by omega)⟩
      rw [beq_t (show ((L.length : Nat) : Int) = 1 by omega), if_pos c1]
      rfl
    · refine ⟨L.take (L.length - 1), ?_, ⟨fun q hq => h.all q (List.mem_of_mem_take hq), by rw [List.length_take]; omega, by rw [List.length_take]; omega⟩⟩
      rw [beq_f (show ¬ ((L.length : Nat) : Int) = 1 by omega), if_neg c1, cond_false, show boundsI 0 ((L.length - 1 : Nat) : Int) L.length = true by simp [boundsI], req_true]
      rfl
  · rw [beq_f cd, cond_false, refMoves_spec hv, Option.bind_some]
    obtain ⟨m, hm⟩ : ∃ m : Mv, (bif (decide (d ≥ (0 : Int)) && decide (d < (((movesOf r (lastP L)).length : Nat) : Int))) then req (inb d (movesOf r (lastP L)).length) (some ((), ((getD' (movesOf r (lastP L)) (d).toNat ((0 : Int), ((0 : Int), ((0 : Int), ())))), ()))) else some ((), ((d, (d, (d, ()))), ()))) = some ((), (m, ())) := by
      by_cases c : 0 ≤ d ∧ d < (((movesOf r (lastP L)).length : Nat) : Int)
      · rw [decide_eq_true (show d ≥ 0 from c.1), decide_eq_true c.2, inb_iff.2 c]
        exact ⟨_, rfl⟩
      · have : (decide (d ≥ (0 : Int)) && decide (d < (((movesOf r (lastP L)).length : Nat) : Int))) = false := by
          rw [Bool.and_eq_false_iff, decide_eq_false_iff_not, decide_eq_false_iff_not]
          omega
        rw [this]
        exact ⟨_, rfl⟩
    rw [hm, Option.bind_some]
    simp only [refResult_spec hv, Option.bind_some, hdo m]
    unfold doErr
    by_cases c1 : resultOf r (lastP L) = 0
    · rw [bne_f c1, cond_false, if_pos c1, allowed_spec hv, Option.bind_some]
      by_cases c2 : allowedB r (lastP L) m = true
      · refine ⟨L ++ [afterOf r (lastP L) m], ?_, ⟨fun q hq => ?_, by simp, by simp; omega⟩⟩
        · simp only [c2, Bool.not_true, cond_false, refAfter_spec hv c2, Option.bind_some, if_true]
          rw [room_ok (by simp only [List.length_singleton]; omega), req_true]
          rfl
        · rcases List.mem_append.1 hq with e | e
          · exact h.all q e
          · rw [List.mem_singleton.1 e]; exact after_valid hv c2
      · refine ⟨L, ?_, h.up (by omega)⟩
        have c2' : allowedB r (lastP L) m = false := by simpa using c2
        rw [if_neg c2]
        simp only [c2', Bool.not_false, cond_true, Option.bind_some]
        rfl
    · refine ⟨L, ?_, h.up (by omega)⟩
      rw [bne_t c1, cond_true, if_neg c1]
      rfl
theorem loop_ok {r : Rules} {p : Place} (hv : Valid r p) (script : List Int) : ∃ L, iterW (law1BoardFollows_L1 script r) (([p], (0 : Int), ()), (flB r [p], ())) = some (.inl ((L, ()), (flB r L, ()))) ∧ OKB r L 100 := by
  have hK : ((script.take ((if (12 : Int) < ((script.length : Nat) : Int) then (12 : Int) else ((script.length : Nat) : Int))).toNat).drop 0).length ≤ 12 := by
    rw [List.drop_zero, List.length_take]
    split <;> omega
  obtain ⟨x, hx, L, e, hL⟩ := iterW_meas (f := law1BoardFollows_L1 script r) (fun y => ∃ (i : Nat) (L : List Place), y = ((L, (i : Int), ()), (flB r L, ())) ∧ i ≤ ((script.take ((if (12 : Int) < ((script.length : Nat) : Int) then (12 : Int) else ((script.length : Nat) : Int))).toNat).drop 0).length ∧ OKB r L (i + 1)) (fun y => 100 - y.1.2.1.toNat) (fun x => ∃ L, x = .inl ((L, ()), (flB r L, ())) ∧ OKB r L 100) (by
    rintro y ⟨i, L, rfl, hi, h⟩
    by_cases hlt : i < ((script.take ((if (12 : Int) < ((script.length : Nat) : Int) then (12 : Int) else ((script.length : Nat) : Int))).toNat).drop 0).length
    · left
      obtain ⟨L', h1, h2⟩ := step_ok h hlt (by omega)
      exact ⟨_, h1, ⟨i + 1, L', rfl, by omega, h2⟩, by simp only [Int.toNat_natCast]; omega⟩
    · right
      refine ⟨_, ?_, L, rfl, h.up (by omega)⟩
      unfold law1BoardFollows_L1
      simp only
      rw [decide_eq_false (by omega), cond_false]) (([p], (0 : Int), ()), (flB r [p], ())) ⟨0, [p], rfl, by omega, fun q hq => by rw [List.mem_singleton.1 hq]; exact hv, by simp, by simp⟩
  exact ⟨L, by rw [hx, e], hL⟩
theorem bthree_rng : Rng tyRules law1Three := rngB_ok _ _ (by decide +kernel)
theorem bthree_ok : ruleErr law1Three = 0 := by decide +kernel
theorem bwon_ok : placeErr law1Three law1Won = 0 := by decide +kernel
theorem bwon_res : resultOf law1Three law1Won = 1 := by decide +kernel
theorem law1BoardFollows_true (r : Rules) (p : Place) (script : List Int) (hr : Rng tyRules r) (hp : Rng tyPlace p) (hs : Rng (.sl (.int .i64)) script) : law1BoardFollows r p script = some true := by
  have hn : p.1.length ≤ 9223372036854775807 := hp.1.1
  have hsl : script.length ≤ 9223372036854775807 := hs.1
  have hwv := valid_of bwon_ok
  have hwB : OKB law1Three [law1Won] 100 := ⟨fun q hq => by rw [List.mem_singleton.1 hq]; exact hwv, by simp, by simp⟩
  have hwl : lastP [law1Won] = law1Won := rfl
  have e1 := place_spec law1Three law1Won bthree_rng (by decide)
  rw [bwon_ok] at e1
  have e2 := do_spec hwB (law1Put 8)
  have hde : doErr law1Three [law1Won] (law1Put 8) = 14 := by unfold doErr; rw [hwl, if_neg (by rw [bwon_res]; decide)]
  rw [hde, if_neg (by decide)] at e2
  have e3 := resB hwB
  rw [hwl, bwon_res] at e3
  have e4 := turnB hwB
  have ht : (lastP [law1Won]).2.2.1 = 1 := by decide +kernel
  rw [ht] at e4
  have e5 := undo_spec hwB
  rw [if_pos (show [law1Won].length = 1 from rfl)] at e5
  unfold law1BoardFollows law1BoardFollows_A8 law1BoardFollows_A7 law1BoardFollows_A6
  simp only [rep_eta, pl_eta]
  rw [show (law1Won.1, ((law1Won.2.1.1, (law1Won.2.1.2.1, ())), (law1Won.2.2.1, (law1Won.2.2.2.1, ())))) = law1Won from rfl]
  simp only [e1, Option.bind_some, bne_self_eq_false, cond_false, rcopy_spec (rules_valid bthree_ok), pcopy_spec hwv, pl_eta, e2, e3, e4, e5]
  simp only [place_spec r p hr hn, placeError_spec r p hr hn, Option.bind_some]
  by_cases c : placeErr r p = 0
  · have hv := valid_of c
    simp only [c, bne_self_eq_false, cond_false, rcopy_spec hv.r0, pcopy_spec hv, Option.bind_some, pl_eta, rep_eta, agreeN_eq, agree_self]
    cases decide (((p.1.length : Nat) : Int) > 20) with
    | true => simp [gopt]
    | false =>
      rw [cond_false]
      have hb : boundsI 0 (if (12 : Int) < ((script.length : Nat) : Int) then (12 : Int) else ((script.length : Nat) : Int)) script.length = true := by
        split
        · simp [boundsI]; omega
        · simp [boundsI]
      obtain ⟨L, hL, hO⟩ := loop_ok hv script
      have h0 := hO.pos
      have hl := hO.len
      have hvL := hO.last
      have hw := w_last h0 (by omega)
      unfold flB at hL
      rw [hb, req_true, hL, Option.bind_some, Sum.elim_inl]
      unfold law1BoardFollows_A5 law1BoardFollows_A4 law1BoardFollows_A3 law1BoardFollows_A2 law1BoardFollows_A1
      have hsm := same_moves (openB r (lastP L)) (openB r (lastP L)) (by
        have := movesOf_len hvL
        unfold openB
        cases (resultOf r (lastP L) != 0) with
        | true => exact Nat.zero_le _
        | false => rw [cond_false]; omega)
      have hca := cells64 hvL
      have hsp := same_place (lastP L) (lastP L) (by omega) (by have := hvL.l0; have := hvL.r0.t6; show (lastP L).h0.length ≤ _; omega) (by have := hvL.l1; have := hvL.r0.t6; show (lastP L).h1.length ≤ _; omega)
      simp only [rep_eta, hw, inL h0, req_true, Int.toNat_natCast, lastD, refMoves_spec hvL, refResult_spec hvL, Option.bind_some, bposB hO, pl_eta, hsp, decide_true, cond_true, keyB hO, rkey_spec hvL, beq_self_eq_true, resB hO, turnB hO, lenB hO, movB hO, agreeN_eq, agree_self]
      have hop : (bif (resultOf r (lastP L) != 0) then some ((([] : List Mv), ()), ()) else some ((movesOf r (lastP L), ()), ())) = some ((openB r (lastP L), ()), ()) := by
        unfold openB
        cases (resultOf r (lastP L) != 0) <;> rfl
      rw [hop, Option.bind_some, hsm]
      simp [gopt, rep_eta]
  · simp only [bne_t c, cond_true, Option.bind_some, agreeN_eq, agree_self]
    simp [agree_self, gopt]
end Go.Proofs.Ytocnfflklfeocaa
