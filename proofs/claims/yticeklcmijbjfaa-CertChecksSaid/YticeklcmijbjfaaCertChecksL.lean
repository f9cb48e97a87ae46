/- The law CertChecks in plain Lean: it is true. Conditions: numbers in range, lists of replies shorter than 2^47. -/
import Derived.Test.YticeklcmijbjfaaCertG
import Derived.Test.YticeklcmijbjfaaSearchR
namespace Go.Proofs.Yticeklcmijbjfaa
open Go.Den
set_option linter.unusedVariables false
set_option linter.unusedSimpArgs false
set_option maxRecDepth 100000

/-- what the program's check of a list gives -/
def checkV (r : Rules) (p : Place) (l : List CNode) : Int × Int × Unit :=
  if placeErr r p ≠ 0 then (0, (placeErr r p, ())) else if l.length = 0 then (0, (3, ())) else if resultOf r p ≠ 0 then (0, (14, ())) else
  bif shapeB l then (if valN l r l.length p 0 = 0 then (0, (16, ())) else (valN l r l.length p 0, (0, ()))) else (0, (3, ()))
theorem ccheck_spec {r : Rules} {p : Place} {l : List CNode} (hr : Rng tyRules r) (hn : p.1.length ≤ 9223372036854775807) (hs : smallL l) : certCheck r p l = some (checkV r p l) := by
  have hl := hs.1
  unfold certCheck checkV
  rw [place_spec r p hr hn, Option.bind_some]
  by_cases c : placeErr r p = 0
  · have hv := valid_of c
    rw [bne_f c, cond_false, if_neg (by simpa using c), decide_eq_false (show ¬ ((l.length : Nat) : Int) > 5000 by omega), cond_false]
    by_cases h0 : l.length = 0
    · rw [beq_t (show ((l.length : Nat) : Int) = 0 by omega), cond_true, if_pos h0]
    · rw [beq_f (show ¬ ((l.length : Nat) : Int) = 0 by omega), cond_false, if_neg h0, result_spec hv, Option.bind_some]
      by_cases hres : resultOf r p = 0
      · rw [bne_f hres, cond_false, if_neg (by simpa using hres), form_spec hs (by omega), Option.bind_some]
        cases hsh : shapeB l with
        | false => rfl
        | true =>
          have hF := (shape_tree hsh hs.1 hs.2).1
          have hp : certProves r p l 0 = some (psV l r p 0) := proves_fix (r, p, l, 0, ()) ⟨hv, by show (0 : Int) ≤ 0; omega, by show (0 : Int) < (l.length : Int); omega, by show l.length ≤ 1000; omega, hF⟩
          rw [Bool.not_true, cond_false, cond_true, hp, Option.bind_some]
          obtain ⟨h1, h2⟩ := psV_open (l := l) (k := 0) hres (by simpa using Nat.pos_of_ne_zero h0)
          rw [show (0 : Int).toNat = 0 from rfl, Nat.sub_zero] at h1 h2
          generalize psV l r p 0 = W at h1 h2 ⊢
          by_cases hz : valN l r l.length p 0 = 0
          · rw [bne_f hz] at h1
            rw [h1, Bool.not_false, cond_true, if_pos hz]
          · rw [bne_t hz] at h1
            rw [h1, Bool.not_true, cond_false, if_neg hz, h2 h1]
      · rw [bne_t hres, cond_true, if_pos (by simpa using hres)]
  · rw [bne_t c, cond_true, if_pos c]
abbrev put2 : Mv := (-1, (2, (0, ())))
theorem cthree_rng : Rng tyRules law1Three := rngB_ok _ _ (by decide +kernel)
theorem cnear_n : law1Near.1.length ≤ 9223372036854775807 := by decide
theorem cnear_ok : placeErr law1Three law1Near = 0 := by decide +kernel
theorem cnear_res : resultOf law1Three law1Near = 0 := by decide +kernel
theorem cnear_err : treeErr law1Three law1Near 3 = 0 := by decide +kernel
theorem cnear_sc : scoreOf law1Three 3 law1Near > 0 := by decide +kernel
theorem cnear_first : (firstOf law1Three 2 law1Near).1 = put2 := by decide +kernel
theorem cnear_al : allowedB law1Three law1Near put2 = true := by decide +kernel
theorem cnear_won : ¬ resultOf law1Three (afterOf law1Three law1Near put2) = 0 := by decide +kernel
theorem cnode_near : certMakerNode (law1Three, (([] : List CNode), ())) law1Near 3 = some ((law1Three, ([(put2, ([], ()))], ())), true) := by
  have hv := valid_of cnear_ok
  have hvq := after_valid hv cnear_al
  refine fixW_ind certMakerNode_Mono (fun x => x = ((law1Three, (([] : List CNode), ())), law1Near, (3 : Int), ())) (fun _ => 0) (fun _ => ((law1Three, ([(put2, ([], ()))], ())), true)) ?_ _ rfl
  rintro φ _ rfl _
  show certMakerNode_F φ (law1Three, (([] : List CNode), ())) law1Near 3 = _
  have hf := first_spec hv cnear_res (d := 2) (by omega)
  rw [show (((2 + 1 : Nat)) : Int) = 3 from rfl, cnear_first] at hf
  unfold certMakerNode_F
  simp only [rep_eta, hf, Option.bind_some, agree_self, make_spec hv cnear_al, pl_eta, endsMoves_spec hvq, open_n cnear_won]
  rw [show ((([] : List CNode).length : Nat) : Int) = 0 from rfl, show ((0 : Int) == 5000) = false from rfl, cond_false]
  rw [show room (([] : List CNode).length + ([(put2, (([] : List Int), ()))] : List CNode).length) 48 = true from by decide, req_true]
  rw [iterW_inr (r := Sum.inl ((([] : List Int), ()), ((law1Three.1, (law1Three.2.1, (law1Three.2.2.1, (law1Three.2.2.2.1, (law1Three.2.2.2.2.1, (law1Three.2.2.2.2.2.1, (law1Three.2.2.2.2.2.2.1, (law1Three.2.2.2.2.2.2.2.1, (law1Three.2.2.2.2.2.2.2.2.1, (law1Three.2.2.2.2.2.2.2.2.2.1, (law1Three.2.2.2.2.2.2.2.2.2.2.1, ([(put2, (([] : List Int), ()))], ())))))))))))), ()))) rfl]
  rfl
theorem cmake_near : certMake law1Three law1Near 3 = some ([(put2, ([], ()))], (0, ())) := by
  have hv := valid_of cnear_ok
  have hsc := of_spec hv (d := 3) (by omega)
  have hpos := cnear_sc
  unfold certMake
  rw [tree_spec law1Three law1Near 3 cthree_rng cnear_n, if_pos cnear_err, Option.bind_some]
  simp only [bne_self_eq_false, cond_false]
  rw [result_spec hv, Option.bind_some, bne_f cnear_res, cond_false, show (3 : Int) = ((3 : Nat) : Int) from rfl, hsc, Option.bind_some, decide_eq_false (by omega), cond_false]
  rw [show ((3 : Nat) : Int) = 3 from rfl, cnode_near, Option.bind_some]
  rfl
theorem csmall (m : Mv) : smallL [(m, ([], ()))] := ⟨by simp, fun nd h => by rw [List.mem_singleton.1 h]; show (0 : Nat) < _; omega⟩
theorem cval2 : checkV law1Three law1Near [(put2, ([], ()))] = (1, (0, ())) := by
  unfold checkV
  rw [if_neg (by rw [cnear_ok]; decide), if_neg (by decide), if_neg (by rw [cnear_res]; decide)]
  have h1 : shapeB [(put2, (([] : List Int), ()))] = true := by decide +kernel
  have h2 : valN [(put2, (([] : List Int), ()))] law1Three 1 law1Near 0 = 1 := by decide +kernel
  rw [h1, cond_true, show ([(put2, (([] : List Int), ()))] : List CNode).length = 1 from rfl, h2]
  rfl
theorem cval5 : (checkV law1Three law1Near [(law1Put 5, ([], ()))]).2.1 = 16 := by
  unfold checkV
  rw [if_neg (by rw [cnear_ok]; decide), if_neg (by decide), if_neg (by rw [cnear_res]; decide)]
  have h1 : shapeB [(law1Put 5, (([] : List Int), ()))] = true := by decide +kernel
  have h2 : valN [(law1Put 5, (([] : List Int), ()))] law1Three 1 law1Near 0 = 0 := by decide +kernel
  rw [h1, cond_true, show ([(law1Put 5, (([] : List Int), ()))] : List CNode).length = 1 from rfl, if_pos h2]
theorem cfull (q : Place) : (q.1, ((q.2.1.1, (q.2.1.2.1, ())), (q.2.2.1, (q.2.2.2.1, ())))) = q := rfl
theorem cproved : law1Proved = some true := by
  unfold law1Proved
  simp only [rep_eta, cfull, cmake_near, Option.bind_some, ccheck_spec cthree_rng cnear_n (csmall put2), cval2]
  have hp : law1Put 2 = put2 := by decide +kernel
  rw [hp]
  rfl
theorem law1CertChecks_true (r : Rules) (p : Place) (l : List CNode) (hr : Rng tyRules r) (hp : Rng tyPlace p) (hl : Rng (.sl (.st (.st (.int .i64) (.st (.int .i64) (.st (.int .i64) .nil))) (.st (.sl (.int .i64)) .nil))) l) (hsm : ∀ nd ∈ l, nd.2.1.length < 140737488355328) : law1CertChecks r p l = some true := by
  have hn : p.1.length ≤ 9223372036854775807 := hp.1.1
  have hll : l.length ≤ 9223372036854775807 := hl.1
  have hcut : (l.take ((if (200 : Int) < ((l.length : Nat) : Int) then (200 : Int) else ((l.length : Nat) : Int))).toNat).drop 0 = cutL l := rfl
  have hclen : (cutL l).length ≤ 200 := by
    unfold cutL
    rw [List.drop_zero, List.length_take]
    split <;> omega
  have hs : smallL (cutL l) := ⟨hclen, fun nd hm => hsm nd (by
    unfold cutL at hm
    rw [List.drop_zero] at hm
    exact List.mem_of_mem_take hm)⟩
  have hb : boundsI 0 (if (200 : Int) < ((l.length : Nat) : Int) then (200 : Int) else ((l.length : Nat) : Int)) l.length = true := by
    split
    · simp [boundsI]; omega
    · simp [boundsI]
  unfold law1CertChecks
  simp only [rep_eta, cfull, ccheck_spec cthree_rng cnear_n (csmall (law1Put 5)), Option.bind_some, cval5, bne_self_eq_false, Bool.not_false, gopt, cond_true, cproved, Bool.not_true, Bool.or_self, cond_false, hb, req_true, hcut]
  simp only [ccheck_spec hr hn hs, placeError_spec r p hr hn, Option.bind_some]
  unfold checkV
  by_cases c : placeErr r p = 0
  · have hv := valid_of c
    simp only [c, beq_self_eq_true, Bool.true_and, ne_eq, not_true_eq_false, if_false]
    by_cases h0 : (cutL l).length = 0
    · simp only [beq_t (show (((cutL l).length : Nat) : Int) = 0 by omega), cond_true, Option.bind_some, h0, if_true]
      rfl
    · simp only [beq_f (show ¬ (((cutL l).length : Nat) : Int) = 0 by omega), cond_false, Option.bind_some, h0, if_false, beq_self_eq_true, Bool.true_and, cond_true]
      cases hbig : decide (((p.1.length : Nat) : Int) > 20) with
      | true => rfl
      | false =>
        simp only [cond_false, refResult_spec hv, Option.bind_some]
        by_cases hres : resultOf r p = 0
        · have hrm : (decide (0 ≤ (((cutL l).length : Nat) : Int)) && room (cutL l).length 8) = true := by
            rw [room_ok (by omega), decide_eq_true (by omega)]; rfl
          have hrm1 : (decide (0 ≤ (((cutL l).length : Nat) : Int)) && room (cutL l).length 1) = true := by
            rw [room_ok (by omega), decide_eq_true (by omega)]; rfl
          simp only [bne_f hres, cond_false, Option.bind_some, bne_self_eq_false, beq_self_eq_true, Bool.true_and, Int.toNat_natCast, hrm, hrm1, req_true, hres, not_true_eq_false, if_false, Int.toNat_natCast, ref_outer hs, ref_shape hs (by omega) _ rfl]
          cases hsh : shapeB (cutL l) with
          | false => rfl
          | true =>
            obtain ⟨hF, hT⟩ := shape_tree hsh hs.1 hs.2
            have hw : law1Wins (List.replicate (cutL l).length false) r p (cutL l) 0 = some (winsN (cutL l) r (cutL l).length (List.replicate (cutL l).length false) p 0) := wins_fix (List.replicate (cutL l).length false, r, p, cutL l, 0, ()) ⟨hv, hres, by show (0 : Int) ≤ 0; omega, by show (0 : Int) < ((cutL l).length : Int); omega, by simp, by show (cutL l).length ≤ 1000; omega, hF, hT, fun d _ => by
              show (List.replicate (cutL l).length false)[d]? ≠ some true
              rw [List.getElem?_replicate]
              split <;> simp⟩
            simp only [Bool.not_true, cond_false, cond_true, hw, Option.bind_some, winsN_val]
            by_cases hz : valN (cutL l) r (cutL l).length p 0 = 0
            · rw [beq_t hz, if_pos hz]; rfl
            · rw [beq_f hz, if_neg hz, cond_false]
              simp
        · simp only [bne_t hres, cond_true, Option.bind_some, hres, not_false_eq_true, if_true]
          rfl
  · simp only [beq_f c, Bool.false_and, cond_false, Option.bind_some, bne_t c, cond_true, ne_eq, c, not_false_eq_true, if_true, beq_self_eq_true, Bool.and_self]
end Go.Proofs.Yticeklcmijbjfaa
