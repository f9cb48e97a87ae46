/- The law MatchDoes in plain Lean: it is true. Conditions: numbers in range. -/
import Derived.Test.YtijkabgijfdpfaaGreatDoorMAE
import Derived.Test.YtijkabgijfdpfaaGreatDoorMAG
namespace Go.Proofs.YtijkabgijfdpfaaGreatDoor
open Go.Den
set_option linter.unusedVariables false
set_option linter.unusedSimpArgs false
set_option maxRecDepth 100000
set_option maxHeartbeats 0

abbrev tyCRule : Ty := .st (.sl (.st (.int .i64) (.st (.int .i64) .nil))) (.st (.int .i64) (.st (.int .i64) .nil))
abbrev tyEvent : Ty := .st (.int .i64) (.st (.int .i64) (.st (.int .i64) (.st (.int .i64) (.st (.st (.int .i64) (.st (.int .i64) (.st (.int .i64) .nil))) .nil))))
theorem evR_of {e : Ev} (h : Rng tyEvent e) : EvR e := ⟨h.1, h.2.1, h.2.2.1, h.2.2.2.1, h.2.2.2.2.1.1, h.2.2.2.2.1.2.1, h.2.2.2.2.1.2.2.1⟩
theorem crl_of {cr : CRule} (h : Rng tyCRule cr) : cr.1.length ≤ 9223372036854775807 := h.1.1
theorem kind_kept (r : Rules) (cr : CRule) (m : MS) (e : Ev) : (kindM r cr m e).1.j = m.j ∧ (kindM r cr m e).1.last = m.last := by
  unfold kindM; split
  · unfold qdo
    repeat' split
    all_goals first | exact ⟨rfl, rfl⟩ | skip
    obtain ⟨a, b⟩ := qrG (r := r) (cr := cr) (now := e.2.2.2.1) (m.pm.length + 1) (moveM r cr m e.2.2.2.2.1 e.2.2.2.1); exact ⟨b, a⟩
  · split
    · unfold qdC; simp only
      repeat' split
      all_goals exact ⟨rfl, rfl⟩
    · split
      · unfold qaO; simp only
        repeat' split
        all_goals exact ⟨rfl, rfl⟩
      · split
        · unfold qbA
          repeat' split
          all_goals exact ⟨rfl, rfl⟩
        · split
          · unfold qah
            repeat' split
            all_goals exact ⟨rfl, rfl⟩
          · exact ⟨rfl, rfl⟩
theorem do_j (r : Rules) (cr : CRule) (m : MS) (e : Ev) : ((doM r cr m e).2 = 0 → (doM r cr m e).1.j = nextJ m.j (qej e)) ∧ ((doM r cr m e).2 ≠ 0 → (doM r cr m e).1 = m) := by
  unfold doM
  repeat' split
  all_goals first | (rename_i c; exact ⟨fun h => absurd h c, fun _ => rfl⟩) | exact ⟨fun h => (by simp at h), fun _ => rfl⟩ | skip
  refine ⟨fun _ => ?_, fun h => absurd rfl h⟩; show (doneM r (kindM r cr m e).1 e).j = _; unfold doneM; rw [(qdW r _).2.2.1]; show nextJ (kindM r cr m e).1.j (qej e) = _; rw [(kind_kept r cr m e).1]
theorem qlR (l : Jn) (s : ByteArray) : (nextJ l s).length = l.length + 1 := by unfold nextJ; simp
theorem qmR {r : Rules} {cr : CRule} {m : MS} (h : MOK r cr m) : qr (r, (m.g.1, (m.g.2, ()))) = some m.g.2 ∧ qq m.pm = some m.pm := ⟨qcs h.g.ok, quv m.pm (by have := h.few; omega)⟩
theorem take30 {A : Type} (l : List A) : (l.take (if (30 : Int) < ((l.length : Nat) : Int) then (30 : Int) else ((l.length : Nat) : Int)).toNat).drop 0 = l.take 30 := by
  rw [List.drop_zero]; split
  · rfl
  · rw [Int.toNat_natCast, List.take_length, List.take_of_length_le (by omega)]
theorem dup_same (x : Ev) : ((x.1 == x.1) && ((x.2.1 == x.2.1) && ((x.2.2.1 == x.2.2.1) && ((x.2.2.2.1 == x.2.2.2.1) && (((x.2.2.2.2.1.1 == x.2.2.2.2.1.1) && ((x.2.2.2.2.1.2.1 == x.2.2.2.2.1.2.1) && ((x.2.2.2.2.1.2.2.1 == x.2.2.2.2.1.2.2.1) && true))) && true))))) = true := by simp
theorem md_step {r : Rules} {cr : CRule} {m : MS} (l : List Ev) (i : Nat) (hi : i < (l.take 30).length) (h : MOK r cr m) (he : EvR (l.take 30)[i]) (hs : szM m < 400) (hj : m.j.length < 1000) :
    qbo l ((((m.j.length : Nat) : Int), ((i : Int), ())), (flatT (tupM r cr m), (flatR (tupR r cr m), ()))) = some (.inl (((((doM r cr m (l.take 30)[i]).1.j.length : Nat) : Int), (((i + 1 : Nat) : Int), ())), (flatT (tupM r cr (doM r cr m (l.take 30)[i]).1), (flatR (tupR r cr (doM r cr m (l.take 30)[i]).1), ())))) := by
  have hl30 : (l.take 30).length ≤ 30 := by rw [List.length_take]; omega
  obtain ⟨d1, d2⟩ := qve h he; obtain ⟨e1, e2⟩ := qmR d2; obtain ⟨j1, j2⟩ := do_j r cr m (l.take 30)[i]; unfold qbo; simp only [qP, agree_self, take30]; rw [show decide ((i : Int) < (((l.take 30).length : Nat) : Int)) = true by simp only [decide_eq_true_eq]; omega, cond_true, qf3 _ i hi, Option.bind_some]; refine (congrArg (fun z => Option.bind z _) d1).trans ?_; rw [Option.bind_some]; refine (congrArg (fun z => Option.bind (Option.bind z _) _) (qwQ h hs hj)).trans ?_; rw [Option.bind_some]; simp only [bne_self_eq_false, cond_false]; refine (congrArg (fun z => Option.bind (Option.bind z _) _) e1).trans ?_; rw [Option.bind_some]; refine (congrArg (fun z => Option.bind (Option.bind z _) _) e2).trans ?_; rw [Option.bind_some]
  refine (congrArg (fun z => Option.bind (Option.bind z _) _) (qqX ((doM r cr m (l.take 30)[i]).1.g.2, ((doM r cr m (l.take 30)[i]).1.res, ((doM r cr m (l.take 30)[i]).1.rea, ((doM r cr m (l.take 30)[i]).1.c, ((doM r cr m (l.take 30)[i]).1.o, ((doM r cr m (l.take 30)[i]).1.pm, ())))))) (by have := d2.g.ok.most; simp only; omega) (by have := d2.few; simp only; omega))).trans ?_; rw [Option.bind_some, Option.bind_some]; simp only [Bool.not_true, cond_false]; rw [qqG _ he]; simp only [Option.bind_some, read_spec he, bne_self_eq_false, Bool.false_or, dup_same, Bool.not_true, cond_false]; by_cases c : (doM r cr m (l.take 30)[i]).2 = 0
  · rw [beq_t c, cond_true, Option.bind_some, qf (by omega) (by omega), qf (by omega) (by omega), j1 c, qlR]; rfl
  · rw [beq_f c, cond_false, Option.bind_some, qf (by omega) (by omega), j2 c]; rfl
theorem md_loop {r : Rules} {cr : CRule} (l : List Ev) (hl : ∀ e ∈ l, EvR e) : ∀ (k i : Nat) (m : MS), i + k = (l.take 30).length → MOK r cr m → szM m ≤ i → m.j.length ≤ i + 1 →
    ∃ m', MOK r cr m' ∧ iterW (qbo l) ((((m.j.length : Nat) : Int), ((i : Int), ())), (flatT (tupM r cr m), (flatR (tupR r cr m), ()))) = some (.inl ((((m'.j.length : Nat) : Int), ()), (flatT (tupM r cr m'), (flatR (tupR r cr m'), ()))))
  | 0, i, m, hi, h, hs, hj => by
    refine ⟨m, h, qk ?_⟩; unfold qbo; simp only [qP, agree_self, take30]; rw [show decide ((i : Int) < (((l.take 30).length : Nat) : Int)) = false by simp only [decide_eq_false_iff_not]; omega, cond_false]
  | k + 1, i, m, hi, h, hs, hj => by
    have hl30 : (l.take 30).length ≤ 30 := by rw [List.length_take]; omega
    have hil : i < (l.take 30).length := by omega
    have he : EvR (l.take 30)[i] := hl _ (List.mem_of_mem_take (List.getElem_mem hil)); have hst := md_step l i hil h he (by omega) (by omega); rw [qm hst]; have h1 := do_size r cr m (l.take 30)[i]; obtain ⟨j1, j2⟩ := do_j r cr m (l.take 30)[i]; refine md_loop l hl k (i + 1) _ (by omega) (qve h he).2 (by omega) ?_; by_cases c : (doM r cr m (l.take 30)[i]).2 = 0
    · rw [j1 c, qlR]; omega
    · rw [j2 c]; omega
def evP : Ev := (0, (0, (0, (10, (qlw 4, ())))))
theorem qiu : chkC law3Minute = 0 := by decide +kernel
theorem plays_M : (doM qj law3Minute (newM qj law3Minute 0) evP).2 = 0 ∧ (doM qj law3Minute (newM qj law3Minute 0) evP).1.g.2.length = 1 ∧ (doM qj law3Minute (newM qj law3Minute 0) evP).1.c.1.1 = 60990 := by
  have hm := qvi (cr := law3Minute) (now := 0) quU (by decide) qqz qiu ⟨by decide, by decide⟩
  have h0 : qx qj [qaQ qj] = 0 := by decide +kernel
  have hn : newM qj law3Minute 0 = rawM qj law3Minute 0 := by
    unfold newM overM; rw [if_neg (fun q => q.2 h0)]
  rw [hn] at hm ⊢; have hg : GoodC law3Minute (rawM qj law3Minute 0).c 10 := by
    have := qqI (cr := law3Minute) (now := 0) qiu ⟨by decide, by decide⟩; refine ⟨this.ok, this.v, ?_, by decide, this.up, this.run, ?_⟩
    · show (0 : Int) ≤ 10; decide
    · show max 0 ((10 : Int) - 0 - law3Minute.2.2.1) ≤ leftT (startC law3Minute 0); decide +kernel
  have := do_moved hm (e := evP) rfl rfl rfl (by show (0 : Int) ≤ 10; decide) (by show (nextJ [] (qkK 0)).length < 1000; rw [qlR]; decide) hg (by decide +kernel) (by decide) rfl; refine ⟨this.ok, ?_, ?_⟩
  · rw [this.g]; rfl
  · rw [this.c]; show (qfd law3Minute (startC law3Minute 0) 10).1.1 = 60990; decide +kernel
theorem qw1 : qlF = some true := by
  have hm := qvi (cr := law3Minute) (now := 0) quU (by decide) qqz qiu ⟨by decide, by decide⟩; have z64 : I64 0 := ⟨by decide, by decide⟩; have he : EvR evP := ⟨z64, z64, z64, ⟨by decide, by decide⟩, ⟨by decide, by decide⟩, ⟨by decide, by decide⟩, ⟨by decide, by decide⟩⟩; obtain ⟨d1, d2⟩ := qve hm he; obtain ⟨e1, e2⟩ := qmR d2; obtain ⟨p1, p2, p3⟩ := plays_M; unfold qlF; simp only [qP, agree_self]; refine (congrArg (fun z => Option.bind z _) (qmZ qj quU)).trans ?_; rw [if_pos qqz, Option.bind_some]; simp only [bne_self_eq_false, cond_false]; refine (congrArg (fun z => Option.bind (Option.bind z _) _) (qmC (qbI qqz))).trans ?_; rw [Option.bind_some, Option.bind_some]; simp only [bne_self_eq_false, cond_false]; refine (congrArg (fun z => Option.bind z _) (qq7 law3Minute 0 (by decide))).trans ?_
  rw [if_pos qiu, if_pos ⟨by decide, by decide⟩, Option.bind_some]; simp only [bne_self_eq_false, cond_false]; refine (congrArg (fun z => Option.bind z _) (qmC (qbI qqz))).trans ?_; rw [Option.bind_some]; refine (congrArg (fun z => Option.bind z _) (qqy qiu)).trans ?_; rw [Option.bind_some]; refine (congrArg (fun z => Option.bind z _) (qos z64)).trans ?_; rw [Option.bind_some]; rw [show qgJ (ByteArray.mk #[115, 116, 97, 114, 116, 32]) (numS 0) = true from (qmB z64).2, qb]; refine (congrArg (fun z => Option.bind z _) (qhA z64).1).trans ?_; rw [Option.bind_some]; refine (congrArg (fun z => Option.bind z _) (qvD (r := qj) (cr := law3Minute) (now := 0) qqz)).trans ?_; rw [Option.bind_some]; refine (congrArg (fun z => Option.bind z _) d1).trans ?_; rw [Option.bind_some]
  refine (congrArg (fun z => Option.bind z _) e1).trans ?_; rw [Option.bind_some]; refine (congrArg (fun z => Option.bind z _) e2).trans ?_; rw [Option.bind_some, p1, p2]; show some (true && ((doM qj law3Minute (newM qj law3Minute 0) evP).1.c.1.1 == 60990)) = some true; rw [p3]; rfl
theorem law3MatchDoes_true (r : Rules) (cr : CRule) (now : Int) (l : List Ev) (hr : Rng qal r) (hcr : Rng tyCRule cr) (hn : Rng (.int .i64) now) (hl : Rng (.sl tyEvent) l) : qgU r cr now l = some true := by
  have hlen : l.length ≤ 9223372036854775807 := hl.1; have hev : ∀ e ∈ l, EvR e := fun e he => evR_of (hl.2 e he); have hcl := crl_of hcr; have hpl := qpd r [] hr (by decide); unfold qgU; simp only [qP, agree_self]; rw [qw1, Option.bind_some, Bool.not_true, cond_false]
  rw [show qt 0 (if (30 : Int) < ((l.length : Nat) : Int) then (30 : Int) else ((l.length : Nat) : Int)) l.length = true by simp only [qt, Bool.and_eq_true, decide_eq_true_eq]; split <;> omega, qb]
  cases qhD r with
  | true => rfl
  | false =>
    rw [cond_false, qmZ r hr]; by_cases c : qad r = 0
    rotate_left
    · rw [if_neg c, Option.bind_some]; simp only [bne_t c, cond_true]; rw [hpl]; unfold qlW; rw [if_neg c, Option.bind_some]; simp only [bne_t c, cond_true, beq_self_eq_true]
    rw [if_pos c, Option.bind_some]; simp only [bne_self_eq_false, cond_false]; rw [qmC (qbI c), Option.bind_some, Option.bind_some]; simp only [bne_self_eq_false, cond_false]; have hpl2 : qF r [] = some ([qaQ r], (0, ())) := qi5 hr (RG.begin c); rw [qq7 cr now hcl]; by_cases c1 : chkC cr = 0
    rotate_left
    · rw [if_neg c1, Option.bind_some]; simp only [bne_t c1, cond_true]; rw [hpl2, Option.bind_some]; simp only [bne_self_eq_false, cond_false]; rw [qmw cr hcl, Option.bind_some]; simp only [bne_t c1, cond_true, beq_self_eq_true]
    rw [if_pos c1]; by_cases c2 : 0 ≤ now ∧ now ≤ 100000000
    rotate_left
    · rw [if_neg c2, Option.bind_some]; simp only [show ((11 : Int) != 0) = true from rfl, cond_true]; rw [hpl2, Option.bind_some]; simp only [bne_self_eq_false, cond_false]; rw [qmw cr hcl, Option.bind_some, c1]; simp only [bne_self_eq_false, cond_false]; rw [show (decide (now < 0) || decide (now > 100000000)) = true by simp only [Bool.or_eq_true, decide_eq_true_eq]; omega, cond_true]; rfl
    rw [if_pos c2, Option.bind_some]; simp only [bne_self_eq_false, cond_false]; have hi64 : I64 now := hn; have hm := qvi hr hcl c c1 c2; refine (congrArg (fun z => Option.bind z _) (qqy c1)).trans ?_; rw [Option.bind_some]; refine (congrArg (fun z => Option.bind z _) (qos hi64)).trans ?_; rw [Option.bind_some]; rw [show qgJ (ByteArray.mk #[115, 116, 97, 114, 116, 32]) (numS now) = true from (qmB hi64).2, qb]; refine (congrArg (fun z => Option.bind z _) (qhA hi64).1).trans ?_; rw [Option.bind_some]; refine (congrArg (fun z => Option.bind z _) (qvD (r := r) (cr := cr) (now := now) c)).trans ?_; rw [Option.bind_some, hpl2, Option.bind_some]; simp only [bne_self_eq_false, cond_false]; rw [qmw cr hcl, Option.bind_some, c1]; simp only [bne_self_eq_false, cond_false]
    rw [show (decide (now < 0) || decide (now > 100000000)) = false by simp only [Bool.or_eq_false_iff, decide_eq_false_iff_not]; omega, cond_false]; rw [(qiG (qg2 c1) (k := 0) (by omega) (by have := (qg2 c1).len; omega)).1, Option.bind_some]; rw [show qK r [qaQ r] = some (qx r [qaQ r]) from qoc hr (RG.begin c), Option.bind_some]; refine (congrArg (fun z => Option.bind z _) (?_ : _ = some ((), (flatR (tupR r cr (newM r cr now)), ())))).trans ?_
    · by_cases w : qx r [qaQ r] = 0
      · have hx : newM r cr now = rawM r cr now := by
          unfold newM overM; rw [if_neg (fun q => q.2 w)]
        rw [bne_f w, cond_false, hx]; rfl
      · have hx : newM r cr now = { rawM r cr now with res := qx r [qaQ r], rea := 1 } := by
          unfold newM overM; rw [if_pos ⟨rfl, w⟩]; rfl
        rw [bne_t w, cond_true, hx]; rfl
    rw [Option.bind_some]; obtain ⟨e1, e2⟩ := qmR hm; refine (congrArg (fun z => Option.bind (Option.bind z _) _) e1).trans ?_; rw [Option.bind_some]; refine (congrArg (fun z => Option.bind (Option.bind z _) _) e2).trans ?_; rw [Option.bind_some]; refine (congrArg (fun z => Option.bind (Option.bind z _) _) (qqX ((newM r cr now).g.2, ((newM r cr now).res, ((newM r cr now).rea, ((newM r cr now).c, ((newM r cr now).o, ((newM r cr now).pm, ())))))) (by have := hm.g.ok.most; simp only; omega) (by have := hm.few; simp only; omega))).trans ?_; rw [Option.bind_some, Option.bind_some]; simp only [Bool.not_true, cond_false]; have hsz : szM (newM r cr now) = 0 := by
      unfold newM szM; rw [(qdW r _).1, (qdW r _).2.1]; rfl
    have hjl : (newM r cr now).j.length = 1 := by
      unfold newM; rw [(qdW r _).2.2.1]; exact qlR _ _
    obtain ⟨m', hm', hloop⟩ := md_loop (r := r) (cr := cr) l hev (l.take 30).length 0 (newM r cr now) (Nat.zero_add _) hm (by omega) (by omega); rw [hjl] at hloop; refine (congrArg (fun z => Option.bind z _) hloop).trans ?_; rw [Option.bind_some]; simp only [Sum.elim_inl]; obtain ⟨q1, q2⟩ := qsA hm'.g.ok; refine (congrArg (fun z => Option.bind z _) (qi5 hr hm'.g)).trans ?_; rw [Option.bind_some]; refine (congrArg (fun z => Option.bind (Option.bind z _) _) (cloneJ m'.j (by have := hm'.j.1; omega))).trans ?_; rw [Option.bind_some]; simp only [beq_self_eq_true, cond_true, imp]; rw [q1, q2, qb]; refine (congrArg (fun z => Option.bind (Option.bind z _) _) (qat hm'.g.ok)).trans ?_; rw [Option.bind_some]; refine (congrArg (fun z => Option.bind (Option.bind z _) _) (qoZ (p := lastP m'.g.1) (q := lastP m'.g.1) hm'.g.ok.last)).trans ?_; unfold same0; simp
end Go.Proofs.YtijkabgijfdpfaaGreatDoor

