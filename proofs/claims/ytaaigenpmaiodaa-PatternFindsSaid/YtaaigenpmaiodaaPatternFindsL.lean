/- The law PatternFinds in plain Lean: it is true. Conditions: numbers in range. -/
import Derived.Test.YtaaigenpmaiodaaPat2
namespace Go.Proofs.Ytaaigenpmaiodaa
open Go.Den
set_option linter.unusedVariables false
set_option linter.unusedSimpArgs false
set_option maxRecDepth 100000

abbrev Hit := Int × Int × Int × Unit
def d0h : Hit := ((0 : Int), ((0 : Int), ((0 : Int), ())))
/-- where a pattern is in a position of a game -/
def pHits (r : Rules) (x : Patt) (g : Int) (ply : Nat) (p : Place) : List Hit := (hitsL r x p).map fun s => (g, ((ply : Int), (s, ())))
def gHits (r : Rules) (x : Patt) (g : Int) (ps : List Place) : List Hit := (List.range ps.length).flatMap fun i => pHits r x g i (getD' ps i dP)
theorem find_L4 (l : List Int) (u v : List Hit) (g ply : Int) (fp : FlP) (acc : List Hit) (j : Int) : patternFind_L4 l ((u, g, ()), ()) ((v, ply, ()), (fp, ())) ((acc, j, ()), ()) = bif (decide (j < ((l.length : Nat) : Int))) then req (inb j l.length) (req (room (acc.length + 1) 24) (some (Sum.inl ((acc ++ [(g, (ply, (getD' l j.toNat 0, ())))], w64 (j + 1), ()), ()))))
  else some (Sum.inr ((acc, ()), ())) := rfl
theorem flat_map1 {A B : Type} (f : A → B) (l : List A) (d : A) : (List.range l.length).flatMap (fun i => [f (getD' l i d)]) = l.map f := by
  induction l with
  | nil => rfl
  | cons x l ih =>
    rw [List.length_cons, List.range_succ_eq_map, List.flatMap_cons, List.flatMap_map]
    rw [List.map_cons, ← ih]
    rfl
theorem app_hits (r : Rules) (x : Patt) (p : Place) (hv : Valid r p) (u v acc : List Hit) (g : Int) (ply : Nat) (fp : FlP) (ha : acc.length ≤ 100000) : iterW (patternFind_L4 (hitsL r x p) ((u, g, ()), ()) ((v, (ply : Int), ()), (fp, ()))) ((acc, (0 : Int), ()), ()) = some ((acc ++ pHits r x g ply p, ()), ()) := by
  have h64 := area_len hv
  have hh := hits_len r x p
  unfold pHits
  generalize hitsL r x p = l at hh ⊢
  have := iter_app l.length 1 (patternFind_L4 l ((u, g, ()), ()) ((v, (ply : Int), ()), (fp, ()))) (fun j => [(g, ((ply : Int), (getD' l j 0, ())))]) (fun a => ((a, ()), ())) acc (fun _ _ => by simp) (fun j hj a ha' => by
    rw [find_L4, ltd l j hj, cond_true, inbN l j hj, req_true, room_ok (n := a.length + 1) (by omega), req_true, w64_id (n := (j : Int) + 1) (by omega) (by omega)]
    rfl) (fun a => by rw [find_L4, nltd, cond_false])
  rw [this, flat_map1 (fun s => ((g, ((ply : Int), (s, ()))) : Hit)) l 0]
theorem find_L3 (k : List Mv) (r : Rules) (x : Patt) (u : List Hit) (g : Int) (acc : List Hit) (i : Int) (q : Place) : patternFind_L3 k r x ((u, g, ()), ()) ((acc, i, ()), (flp q, ())) = bif (decide (i < w64 (((k.length : Nat) : Int) + 1))) then (Option.bind (Option.bind (patternList r x q) fun l => Option.bind (iterW (patternFind_L4 l ((u, g, ()), ()) ((acc, i, ()), (flp q, ()))) ((acc, (0 : Int), ()), ())) fun y =>
    Option.bind (bif (decide (i < ((k.length : Nat) : Int))) then (Option.bind (at? k i) fun m => Option.bind (movesMake r q m) fun z => some ((), (flp z, ()))) else some ((), (flp q, ()))) fun z : Unit × (FlP × Unit) => some ((y.1.1, ()), ((z.2.1.1, (z.2.1.2.1, (z.2.1.2.2.1, z.2.1.2.2.2))), ()))) fun w : (List Hit × Unit) × (FlP × Unit) => some (Sum.inl ((w.1.1, w64 (i + 1), ()), ((w.2.1.1, (w.2.1.2.1, (w.2.1.2.2.1, w.2.1.2.2.2))), ()))))
  else some (Sum.inr ((acc, ()), ((q.1, (q.2.1.1, (q.2.1.2.1, q.2.2))), ()))) := rfl
theorem game_hits {r : Rules} {x : Patt} (hR : Right r x) (k : List Mv) (hk : k.length ≤ 40) (s : List Place × List Mv) (hg : gameOf r k = .inl s) (u acc : List Hit) (g : Int) (ha : acc.length ≤ 50000) : ∃ q : FlP, iterW (patternFind_L3 k r x ((u, g, ()), ())) ((acc, (0 : Int), ()), (flp (beginOf r), ())) = some ((acc ++ gHits r x g s.1, ()), (q, ())) := by
  have hg' : runG r k ([beginOf r], []) = .inl s := hg
  have hok := (run_ok k _ _ (begin_okG hR.ok) hg').1
  obtain ⟨hn, hpre⟩ := run_pre k _ _ hg'
  have hst := run_step k ([beginOf r], []) s (by simp) hg'
  have hlen1 : s.1.length = k.length + 1 := by rw [hn]; simp; omega
  have hval : ∀ i, i < s.1.length → Valid r (getD' s.1 i dP) := fun i hi => by rw [gd_eq s.1 i hi]; exact hok.all _ (List.getElem_mem _)
  have hw : w64 (((k.length : Nat) : Int) + 1) = ((k.length + 1 : Nat) : Int) := by rw [w64_id (by omega) (by omega)]; push_cast; rfl
  have h0 : getD' s.1 0 dP = beginOf r := by rw [hpre 0 (by simp)]; rfl
  have hfl : ∀ n, n ≤ s.1.length → ((List.range n).flatMap fun i => pHits r x g i (getD' s.1 i dP)).length ≤ n * 64 := fun n hn' => by
    have := flatMap_len (fun i => pHits r x g i (getD' s.1 i dP)) 64 (List.range n) (fun i hi => by
      have hi' := List.mem_range.1 hi
      unfold pHits
      rw [List.length_map]
      have := hits_len r x (getD' s.1 i dP)
      have := area_len (hval i (by omega))
      omega)
    rw [List.length_range] at this
    exact this
  have hI := iterW_states (f := patternFind_L3 k r x ((u, g, ()), ())) (k.length + 1) (fun i => ((acc ++ (List.range i).flatMap (fun i => pHits r x g i (getD' s.1 i dP)), (i : Int), ()), (flp (getD' s.1 (min i k.length) dP), ()))) ((acc ++ gHits r x g s.1, ()), (flp (getD' s.1 k.length dP), ())) (fun i hi => by
    have hmin : min i k.length = i := by omega
    have hv := hval i (by omega)
    have hb := hfl i (by omega)
    rw [hmin, find_L3, hw, decide_eq_true (by omega), cond_true, plist_spec hR hv, Option.bind_some, app_hits r x _ hv _ _ _ _ _ _ (by rw [List.length_append]; omega), Option.bind_some]
    by_cases hik : i < k.length
    · obtain ⟨h1, h2⟩ := hst i hik
      simp only [List.length_singleton] at h1 h2
      rw [show 1 + i = i + 1 by omega] at h1 h2
      simp only [Nat.add_sub_cancel] at h1 h2
      rw [decide_eq_true (by omega), cond_true, at?_eq k _ (by omega) (by omega), Option.bind_some]
      simp only [Int.toNat_natCast]
      rw [make_spec hv h2, Option.bind_some, Option.bind_some, Option.bind_some, w64_id (n := (i : Int) + 1) (by omega) (by omega), ← h1, List.range_succ, List.flatMap_append, List.flatMap_singleton, ← List.append_assoc, show min (i + 1) k.length = i + 1 by omega]
      rfl
    · have hik' : i = k.length := by omega
      rw [decide_eq_false (by omega), cond_false, Option.bind_some, Option.bind_some, w64_id (n := (i : Int) + 1) (by omega) (by omega), List.range_succ, List.flatMap_append, List.flatMap_singleton, ← List.append_assoc, show min (i + 1) k.length = i by omega]
      rfl) (by
    rw [find_L3, hw, show min (k.length + 1) k.length = k.length by omega, decide_eq_false (by omega), cond_false]
    unfold gHits
    rw [hlen1]
    rfl)
  refine ⟨flp (getD' s.1 k.length dP), ?_⟩
  rw [← h0]
  have hI' : iterW (patternFind_L3 k r x ((u, g, ()), ())) ((acc ++ [], (0 : Int), ()), (flp (getD' s.1 (min 0 k.length) dP), ())) = _ := hI
  rw [List.append_nil, Nat.zero_min] at hI'
  exact hI'
theorem find_L2 (gs : List (List Mv)) (r : Rules) (x : Patt) (acc : List Hit) (g : Int) : patternFind_L2 gs r x ((acc, g, ()), ()) = bif (decide (g < ((gs.length : Nat) : Int))) then (Option.bind (Option.bind (at? gs g) fun k => Option.bind (placeBegin r) fun b => Option.bind (iterW (patternFind_L3 k r x ((acc, g, ()), ())) ((acc, (0 : Int), ()), ((b.1.1, (b.1.2.1.1, (b.1.2.1.2.1, b.1.2.2))), ()))) fun y => some ((y.1.1, ()), ())) fun z : (List Hit × Unit) × Unit => some (Sum.inl ((z.1.1, w64 (g + 1), ()), ())))
  else some (Sum.inr ((acc, ()), ())) := rfl
theorem find_L1 (gs : List (List Mv)) (r : Rules) (g : Int) : patternFind_L1 gs r ((g, ()), ()) = bif (decide (g < ((gs.length : Nat) : Int))) then (Option.bind (at? gs g) fun k => Option.bind (plainRun r k) fun y => bif (y.2.2.1 != 0) then some (Sum.inr (Sum.inr (([] : List Hit), y.2.2))) else some (Sum.inl ((w64 (g + 1), ()), ())))
  else some (Sum.inr (Sum.inl ((), ()))) := rfl
theorem gHits_len {r : Rules} {x : Patt} {g : Int} {ps : List Place} {n : Nat} (h : ∀ p ∈ ps, p.1.length ≤ n) : (gHits r x g ps).length ≤ ps.length * n := by
  unfold gHits
  have := flatMap_len (fun i => pHits r x g i (getD' ps i dP)) n (List.range ps.length) (fun i hi => by
    have hi' := List.mem_range.1 hi
    unfold pHits
    rw [List.length_map, gd_eq ps i hi']
    exact Nat.le_trans (hits_len r x _) (h _ (List.getElem_mem _)))
  rwa [List.length_range] at this
theorem err_ne {r : Rules} : ∀ (k : List Mv) (s : List Place × List Mv) (e : Int), runG r k s = .inr e → ¬ e = 0 := by
  intro k
  induction k with
  | nil => intro s e h; cases h
  | cons m k ih =>
    intro s e h
    unfold runG at h
    split at h
    · exact ih _ _ h
    · rename_i c; cases h; exact c
def findRes (r : Rules) (x : Patt) (k : List Mv) : List Hit × Int × Unit := if pattErr r x = 0 then (match gameOf r k with
    | .inl s => (gHits r x 0 s.1 ++ gHits r x 1 [beginOf r], (0, ()))
    | .inr e => ([], (e, ()))) else ([], (pattErr r x, ()))
theorem find_spec (r : Rules) (x : Patt) (k : List Mv) (hr : Rng tyRules r) (hn : x.2.2.1.length ≤ 9223372036854775807) (hk : k.length ≤ 40) (h20 : r.start.length ≤ 20) : patternFind r x [k, []] = some (findRes r x k) := by
  obtain ⟨e1, _, e3⟩ := patt_spec r x hr hn
  unfold patternFind findRes
  rw [e1, Option.bind_some]
  by_cases c : pattErr r x = 0
  · have hR := e3 c
    rw [bne_f c, cond_false, if_pos c, show decide (((([k, []] : List (List Mv)).length : Nat) : Int) > 50) = false from rfl, cond_false]
    have g1 : gameOf r [] = .inl ([beginOf r], []) := rfl
    have f0 := find_L1 [k, []] r 0
    have f1 := find_L1 [k, []] r 1
    have f2 := find_L1 [k, []] r 2
    rw [show decide ((0 : Int) < ((([k, []] : List (List Mv)).length : Nat) : Int)) = true from rfl, cond_true, show at? ([k, []] : List (List Mv)) 0 = some k from rfl, Option.bind_some, run_spec r k hr (by omega), Option.bind_some] at f0
    rw [show decide ((1 : Int) < ((([k, []] : List (List Mv)).length : Nat) : Int)) = true from rfl, cond_true, show at? ([k, []] : List (List Mv)) 1 = some [] from rfl, Option.bind_some, run_spec r [] hr (by simp), Option.bind_some] at f1
    rw [show decide ((2 : Int) < ((([k, []] : List (List Mv)).length : Nat) : Int)) = false from rfl, cond_false] at f2
    have r1 : (runRes r []).2.2.1 = 0 := by unfold runRes; rw [if_pos hR.ok, g1]
    rw [bne_f r1, cond_false] at f1
    cases hg : gameOf r k with
    | inr e =>
      have he : ¬ e = 0 := err_ne k _ e hg
      have r0 : (runRes r k).2.2 = (e, ()) := by unfold runRes; rw [if_pos hR.ok, hg]
      rw [r0] at f0
      simp only [bne_t he, cond_true] at f0
      rw [iterW_inr f0, Option.bind_some]
      rfl
    | inl s =>
      have r0 : (runRes r k).2.2.1 = 0 := by unfold runRes; rw [if_pos hR.ok, hg]
      rw [bne_f r0, cond_false] at f0
      have hok := (run_ok k _ _ (begin_okG hR.ok) hg).1
      have hL1 : iterW (patternFind_L1 [k, []] r) (((0 : Int), ()), ()) = some (.inl ((), ())) := (iterW_inl f0).trans ((iterW_inl f1).trans (iterW_inr f2))
      rw [hL1, Option.bind_some]
      simp only [Sum.elim_inl]
      have hcell : ∀ p, Valid r p → p.1.length ≤ 20 := fun p hp => by
        have h1 : ((p.1.length : Nat) : Int) = r.width * r.height := hp.cells
        have h2 := (rules_valid hR.ok).start
        omega
      have hbv := begin_valid (rules_valid hR.ok)
      have l0 := gHits_len (r := r) (x := x) (g := 0) (fun p hp => hcell p (hok.all p hp))
      have l1 := gHits_len (r := r) (x := x) (g := 1) (ps := [beginOf r]) (n := 20) (fun p hp => by rw [List.mem_singleton.1 hp]; exact hcell _ hbv)
      have hsl := hok.len
      have hs2 : s.2 = [] ++ k := (run_ok k _ _ (begin_okG hR.ok) hg).2
      have hsl2 : s.2.length ≤ 40 := by rw [hs2]; simpa using hk
      have l0' : (gHits r x 0 s.1).length ≤ 820 := Nat.le_trans l0 (by
        calc s.1.length * 20 ≤ 41 * 20 := Nat.mul_le_mul_right _ (by omega)
          _ = 820 := rfl)
      have l1' : (gHits r x 1 [beginOf r]).length ≤ 20 := by simpa using l1
      obtain ⟨q0, a0⟩ := game_hits hR k hk s hg ([] : List Hit) [] 0 (by simp)
      obtain ⟨q1, a1⟩ := game_hits hR [] (by simp) ([beginOf r], []) g1 (gHits r x 0 s.1) (gHits r x 0 s.1) 1 (by omega)
      have b := begin_spec r hr
      rw [if_pos hR.ok] at b
      have h0 := find_L2 [k, []] r x [] 0
      have h1 := find_L2 [k, []] r x (gHits r x 0 s.1) 1
      have h2 := find_L2 [k, []] r x (gHits r x 0 s.1 ++ gHits r x 1 [beginOf r]) 2
      rw [show decide ((0 : Int) < ((([k, []] : List (List Mv)).length : Nat) : Int)) = true from rfl, cond_true, show at? ([k, []] : List (List Mv)) 0 = some k from rfl, Option.bind_some, b, Option.bind_some] at h0
      rw [show decide ((1 : Int) < ((([k, []] : List (List Mv)).length : Nat) : Int)) = true from rfl, cond_true, show at? ([k, []] : List (List Mv)) 1 = some [] from rfl, Option.bind_some, b, Option.bind_some] at h1
      rw [show decide ((2 : Int) < ((([k, []] : List (List Mv)).length : Nat) : Int)) = false from rfl, cond_false] at h2
      have a0' : iterW (patternFind_L3 k r x (([], (0 : Int), ()), ())) (([], (0 : Int), ()), (((beginOf r).1, ((beginOf r).2.1.1, ((beginOf r).2.1.2.1, (beginOf r).2.2))), ())) = _ := a0
      have a1' : iterW (patternFind_L3 [] r x ((gHits r x 0 s.1, (1 : Int), ()), ())) ((gHits r x 0 s.1, (0 : Int), ()), (((beginOf r).1, ((beginOf r).2.1.1, ((beginOf r).2.1.2.1, (beginOf r).2.2))), ())) = _ := a1
      rw [a0', Option.bind_some, Option.bind_some] at h0
      rw [a1', Option.bind_some, Option.bind_some] at h1
      have hL2 : iterW (patternFind_L2 [k, []] r x) (([], (0 : Int), ()), ()) = some ((gHits r x 0 s.1 ++ gHits r x 1 [beginOf r], ()), ()) := (iterW_inl h0).trans ((iterW_inl h1).trans (iterW_inr h2))
      rw [hL2, Option.bind_some]
      have : decide ((((gHits r x 0 s.1 ++ gHits r x 1 [beginOf r]).length : Nat) : Int) > 1000) = false := decide_eq_false (by rw [List.length_append]; omega)
      simp only [this, cond_false]
  · rw [bne_t c, cond_true, if_neg c]
/-! ### the law's loops -/
theorem law_L3 (q : Place) (r : Rules) (x : Patt) (H : List Hit) (e : Int) (a b g ply k s : Int) : law3PatternFinds_L3 q r x (H, (e, ())) ((a, g, ()), ()) ((b, ply, ()), ()) ((k, s, ()), ()) = bif (decide (s < ((q.1.length : Nat) : Int))) then (Option.bind (α := ((Int × Unit) × (Unit)) ⊕ (((Int × Int × Unit) × (Unit)) ⊕ (((Int × Unit) × (Unit)) ⊕ (((Int × Unit) × (Unit)) ⊕ (((Int × Int × Unit) × (Unit)) ⊕ (((Int × Unit) × (Unit)) ⊕ (((Int × Unit) × (Unit)) ⊕ (((Int × Int × Unit) × (Unit)) ⊕ (((Int × Unit) × (Unit)) ⊕ Bool))))))))) (req (r.width != 0) (req (r.width != 0) (Option.bind (ref3Fits r x q (s.tmod r.width) (w64 (s.tdiv r.width))) fun f =>
    bif (!f) then some (Sum.inl ((k, ()), ())) else req (imp (!(decide (k ≥ ((H.length : Nat) : Int)))) (inb k H.length)) (bif ((decide (k ≥ ((H.length : Nat) : Int))) || (!(((getD' H k.toNat d0h).1 == g) && (((getD' H k.toNat d0h).2.1 == ply) && (((getD' H k.toNat d0h).2.2.1 == s) && true))))) then some (Sum.inr (Sum.inr (Sum.inr (Sum.inr (Sum.inr (Sum.inr (Sum.inr (Sum.inr (Sum.inr false)))))))))
      else some (Sum.inl ((w64 (k + 1), ()), ())))))) (Sum.elim (fun y => some (Sum.inl ((y.1.1, w64 (s + 1), ()), ()))) some))
  else some (Sum.inr (Sum.inl ((k, ()), ()))) := rfl
theorem range'_cons (s j : Nat) : List.range' s (j + 1) = s :: List.range' (s + 1) j := by simp [List.range']
theorem law_iter3 {r : Rules} {x : Patt} {q : Place} (hR : Right r x) (hv : Valid r q) (H : List Hit) (hH : H.length ≤ 100000) (e a b g : Int) (ply : Nat) (rest : List Hit) : ∀ (j s k : Nat), s + j = q.1.length →
    H.drop k = ((List.range' s j).filter fun s : Nat => atB r x q (s : Int)).map (fun s : Nat => (g, ((ply : Int), ((s : Int), ())))) ++ rest → k ≤ H.length →
    iterW (law3PatternFinds_L3 q r x (H, (e, ())) ((a, g, ()), ()) ((b, (ply : Int), ()), ())) (((k : Int), (s : Int), ()), ()) = some (.inl ((((k + ((List.range' s j).filter fun s : Nat => atB r x q (s : Int)).length : Nat) : Int), ()), ()))
  | 0, s, k, hs, hd, hk => by
    refine iterW_inr ?_
    rw [law_L3, decide_eq_false (by omega), cond_false]
    rfl
  | j + 1, s, k, hs, hd, hk => by
    have hq := sq_of hv (s := (s : Int)) (by omega) (by omega)
    have h64 := area_len hv
    have hw := hq.w
    have hdd := hq.d
    have hh := hq.h
    have hL := law_L3 q r x H e a b g (ply : Int) (k : Int) (s : Int)
    rw [decide_eq_true (by omega), cond_true, show (r.width != 0) = true from bne_t (by omega), req_true, req_true, w64_id (n := (s : Int).tdiv r.width) (by omega) (by omega), rfit_spec hR hv hq, Option.bind_some, w64_id (n := (s : Int) + 1) (by omega) (by omega)] at hL
    rw [range'_cons] at hd ⊢
    cases hat : atB r x q (s : Int) with
    | false =>
      rw [hat, Bool.not_false, cond_true, Option.bind_some] at hL
      rw [List.filter_cons_of_neg (p := fun s : Nat => atB r x q (s : Int)) (by simp [hat])] at hd ⊢
      rw [iterW_inl hL]
      exact law_iter3 hR hv H hH e a b g ply rest j (s + 1) k (by omega) hd hk
    | true =>
      rw [List.filter_cons_of_pos (p := fun s : Nat => atB r x q (s : Int)) hat] at hd ⊢
      have hkl : k < H.length := by
        refine Decidable.byContradiction fun hn => ?_
        rw [List.drop_eq_nil_of_le (by omega)] at hd
        cases hd
      rw [List.drop_eq_getElem_cons hkl, List.map_cons, List.cons_append, List.cons.injEq] at hd
      have hmv := mv_beq (getD' H k d0h) (g, ((ply : Int), ((s : Int), ())))
      rw [gd_eq H k hkl, decide_eq_true hd.1] at hmv
      rw [hat, Bool.not_true, cond_false, decide_eq_false (by omega), Bool.not_false, inbN H k hkl] at hL
      simp only [Int.toNat_natCast, imp, cond_true, req_true, Bool.false_or] at hL
      rw [gd_eq H k hkl] at hL
      have hmv' : (((H[k].1 == g) && ((H[k].2.1 == (ply : Int)) && ((H[k].2.2.1 == (s : Int)) && true)))) = true := hmv
      rw [hmv', Bool.not_true, cond_false, w64_id (by omega) (by omega), Option.bind_some] at hL
      rw [iterW_inl hL]
      have := law_iter3 hR hv H hH e a b g ply rest j (s + 1) (k + 1) (by omega) hd.2 (by omega)
      rw [List.length_cons, show k + (((List.range' (s + 1) j).filter fun s : Nat => atB r x q (s : Int)).length + 1) = k + 1 + ((List.range' (s + 1) j).filter fun s : Nat => atB r x q (s : Int)).length by omega]
      exact this
theorem law_L2 (P : List Place) (eP : Int) (a g : Int) (r : Rules) (x : Patt) (H : List Hit) (e k ply : Int) : law3PatternFinds_L2 (P, (eP, ())) ((a, g, ()), ()) r x (H, (e, ())) ((k, ply, ()), ()) = bif (decide (ply < (((getD' ([P, (P.take 1).drop 0]) g.toNat []).length : Nat) : Int))) then (Option.bind (α := ((Int × Unit) × (Unit)) ⊕ (((Int × Int × Unit) × (Unit)) ⊕ (((Int × Unit) × (Unit)) ⊕ (((Int × Unit) × (Unit)) ⊕ (((Int × Int × Unit) × (Unit)) ⊕ (((Int × Unit) × (Unit)) ⊕ Bool)))))) (Option.bind (at? (getD' ([P, (P.take 1).drop 0]) g.toNat []) ply) fun q =>
    Option.bind (α := ((Int × Unit) × (Unit)) ⊕ (((Int × Unit) × (Unit)) ⊕ (((Int × Int × Unit) × (Unit)) ⊕ (((Int × Unit) × (Unit)) ⊕ (((Int × Unit) × (Unit)) ⊕ (((Int × Int × Unit) × (Unit)) ⊕ (((Int × Unit) × (Unit)) ⊕ Bool))))))) (iterW (law3PatternFinds_L3 q r x (H, (e, ())) ((a, g, ()), ()) ((k, ply, ()), ())) ((k, (0 : Int), ()), ())) (Sum.elim (fun y => some (Sum.inl ((y.1.1, ()), ()))) some)) (Sum.elim (fun y => some (Sum.inl ((y.1.1, w64 (ply + 1), ()), ()))) some))
  else some (Sum.inr (Sum.inl ((k, ()), ()))) := rfl
theorem law_iter2 {r : Rules} {x : Patt} (hR : Right r x) (P : List Place) (eP a : Int) (g : Int) (L : List Place) (hL0 : getD' ([P, (P.take 1).drop 0]) g.toNat [] = L) (hL1 : L.length ≤ 1000) (hv : ∀ p ∈ L, Valid r p) (H : List Hit) (hH : H.length ≤ 100000) (e : Int) (rest : List Hit) : ∀ (j ply k : Nat), ply + j = L.length →
    H.drop k = ((List.range' ply j).flatMap fun i => pHits r x g i (getD' L i dP)) ++ rest → k ≤ H.length →
    iterW (law3PatternFinds_L2 (P, (eP, ())) ((a, g, ()), ()) r x (H, (e, ()))) (((k : Int), (ply : Int), ()), ()) = some (.inl ((((k + ((List.range' ply j).flatMap fun i => pHits r x g i (getD' L i dP)).length : Nat) : Int), ()), ()))
  | 0, ply, k, hs, hd, hk => by
    refine iterW_inr ?_
    rw [law_L2, hL0, decide_eq_false (by omega), cond_false]
    rfl
  | j + 1, ply, k, hs, hd, hk => by
    have hpl : ply < L.length := by omega
    have hvq := hv _ (List.getElem_mem hpl)
    have hF := law_L2 P eP a g r x H e (k : Int) (ply : Int)
    rw [hL0, decide_eq_true (by omega), cond_true, at?_eq L _ (by omega) (by omega), Option.bind_some] at hF
    simp only [Int.toNat_natCast] at hF
    rw [range'_cons, List.flatMap_cons] at hd ⊢
    rw [gd_eq L ply hpl] at hd ⊢
    have hph : pHits r x g ply L[ply] = ((List.range' 0 L[ply].1.length).filter fun s : Nat => atB r x L[ply] (s : Int)).map (fun s : Nat => (g, ((ply : Int), ((s : Int), ())))) := by
      unfold pHits hitsL
      rw [List.map_map, List.range_eq_range']
      rfl
    have h3 := law_iter3 hR hvq H hH e a (k : Int) g ply (((List.range' (ply + 1) j).flatMap fun i => pHits r x g i (getD' L i dP)) ++ rest) L[ply].1.length 0 k (by omega) (by rw [hd, hph, List.append_assoc]) hk
    have h3' : iterW (law3PatternFinds_L3 L[ply] r x (H, (e, ())) ((a, g, ()), ()) (((k : Int), (ply : Int), ()), ())) (((k : Int), (0 : Int), ()), ()) = _ := h3
    rw [h3', Option.bind_some] at hF
    simp only [Sum.elim_inl] at hF
    rw [Option.bind_some] at hF
    simp only [Sum.elim_inl] at hF
    rw [w64_id (n := (ply : Int) + 1) (by omega) (by omega)] at hF
    have hcnt : ((List.range' 0 L[ply].1.length).filter fun s : Nat => atB r x L[ply] (s : Int)).length = (pHits r x g ply L[ply]).length := by rw [hph, List.length_map]
    rw [hcnt] at hF
    rw [iterW_inl hF]
    have hk2 : k + (pHits r x g ply L[ply]).length ≤ H.length := by
      have := congrArg List.length hd
      rw [List.length_drop, List.length_append, List.length_append] at this
      omega
    have hd2 : H.drop (k + (pHits r x g ply L[ply]).length) = ((List.range' (ply + 1) j).flatMap fun i => pHits r x g i (getD' L i dP)) ++ rest := by
      rw [← List.drop_drop, hd, List.append_assoc, List.drop_left]
    have := law_iter2 hR P eP a g L hL0 hL1 hv H hH e rest j (ply + 1) (k + (pHits r x g ply L[ply]).length) (by omega) hd2 hk2
    rw [List.length_append, ← Nat.add_assoc]
    exact this
theorem law_L1 (P : List Place) (eP : Int) (r : Rules) (x : Patt) (H : List Hit) (e k g : Int) : law3PatternFinds_L1 (P, (eP, ())) r x (H, (e, ())) ((k, g, ()), ()) = bif (decide (g < ((([P, (P.take 1).drop 0]).length : Nat) : Int))) then (Option.bind (α := ((Int × Unit) × (Unit)) ⊕ (((Int × Int × Unit) × (Unit)) ⊕ (((Int × Unit) × (Unit)) ⊕ Bool))) (req (inb g ([P, (P.take 1).drop 0]).length) (Option.bind (α := ((Int × Unit) × (Unit)) ⊕ (((Int × Unit) × (Unit)) ⊕ (((Int × Int × Unit) × (Unit)) ⊕ (((Int × Unit) × (Unit)) ⊕ Bool)))) (iterW (law3PatternFinds_L2 (P, (eP, ())) ((k, g, ()), ()) r x (H, (e, ()))) ((k, (0 : Int), ()), ())) (Sum.elim (fun y => some (Sum.inl ((y.1.1, ()), ()))) some))) (Sum.elim (fun y => some (Sum.inl ((y.1.1, w64 (g + 1), ()), ()))) some))
  else some (Sum.inr (Sum.inl ((k, ()), ()))) := rfl
theorem law_L4 (P : List Place) (eP : Int) (r : Rules) (x : Patt) (c s : Int) : law3PatternFinds_L4 (P, (eP, ())) r x ((c, s, ()), ()) = bif (decide (s < (((getD' P (w64 (((P.length : Nat) : Int) - 1)).toNat dP).1.length : Nat) : Int))) then (req (r.width != 0) (req (r.width != 0) (Option.bind (ref3Fits r x (getD' P (w64 (((P.length : Nat) : Int) - 1)).toNat dP) (s.tmod r.width) (w64 (s.tdiv r.width))) fun f => Option.bind (bif f then some ((w64 (c + 1), ()), ()) else some ((c, ()), ())) fun y : (Int × Unit) × Unit => some (Sum.inl ((y.1.1, w64 (s + 1), ()), ())))))
  else some (Sum.inr ((c, ()), ())) := rfl
theorem count_hits {r : Rules} {x : Patt} {P : List Place} (eP : Int) (hR : Right r x) (h0 : 0 < P.length) (h1 : P.length ≤ 1000) (hv : Valid r (lastP P)) : iterW (law3PatternFinds_L4 (P, (eP, ())) r x) (((0 : Int), (0 : Int), ()), ()) = some (((((hitsL r x (lastP P)).length : Nat) : Int), ()), ()) := by
  have hw := w_last h0 (by omega)
  have hla : getD' P (P.length - 1) dP = lastP P := rfl
  have h64 := area_len hv
  have := iter_count (List.range (lastP P).1.length) (fun s : Nat => atB r x (lastP P) (s : Int)) (law3PatternFinds_L4 (P, (eP, ())) r x) (fun c => ((c, ()), ())) (fun i hi c hc0 hc1 => by
    have hi' : i < (lastP P).1.length := by simpa using hi
    have hq := sq_of hv (s := (i : Int)) (by omega) (by omega)
    have hww := hq.w
    have hd := hq.d
    have hh := hq.h
    rw [law_L4, hw, Int.toNat_natCast, hla, decide_eq_true (by omega), cond_true, show (r.width != 0) = true from bne_t (by omega), req_true, req_true, w64_id (n := (i : Int).tdiv r.width) (by omega) (by omega), rfit_spec hR hv hq, Option.bind_some, w64_id (n := (i : Int) + 1) (by omega) (by omega), w64_id (n := c + 1) (by omega) (by omega), List.getElem_range]
    cases atB r x (lastP P) (i : Int) <;> rfl) (fun c => by
    rw [law_L4, hw, Int.toNat_natCast, hla, List.length_range, decide_eq_false (by omega), cond_false])
  rw [this]
  unfold hitsL
  rw [List.length_map, List.countP_eq_length_filter]
theorem ati_spec (r : Rules) (x : Patt) (p : Place) (square : Int) (hr : Rng tyRules r) (hx : x.2.2.1.length ≤ 9223372036854775807) (hn : p.1.length ≤ 9223372036854775807) (hc : pattErr r x = 0) (hp : placeErr r p = 0) : patternAt_i r x p square = some (if 0 ≤ square ∧ square < ((p.1.length : Nat) : Int) then (atB r x p square, (0, ())) else (false, (1, ()))) := by
  obtain ⟨e1, _, e3⟩ := patt_spec r x hr hx
  have hv := valid_of hp
  unfold patternAt_i patternCheck_i
  rw [e1, Option.bind_some, bne_f hc, cond_false, place_spec r p hr hn, Option.bind_some, Option.bind_some, bne_f hp, cond_false]
  by_cases h : 0 ≤ square ∧ square < ((p.1.length : Nat) : Int)
  · rw [show ((decide (square < 0)) || (decide (square ≥ ((p.1.length : Nat) : Int)))) = false by simp; omega, cond_false, if_pos h, at_spec (e3 hc) hv (sq_of hv h.1 h.2)]
    rfl
  · rw [show ((decide (square < 0)) || (decide (square ≥ ((p.1.length : Nat) : Int)))) = true by simp; omega, cond_true, if_neg h]
theorem pall_spec (r : Rules) (x : Patt) (p : Place) (hr : Rng tyRules r) (hx : x.2.2.1.length ≤ 9223372036854775807) (hn : p.1.length ≤ 9223372036854775807) (hc : pattErr r x = 0) (hp : placeErr r p = 0) : patternAll r x p = some (hitsL r x p, (0, ())) := by
  obtain ⟨e1, _, e3⟩ := patt_spec r x hr hx
  unfold patternAll patternCheck_i
  rw [e1, Option.bind_some, bne_f hc, cond_false, place_spec r p hr hn, Option.bind_some, Option.bind_some, bne_f hp, cond_false, plist_spec (e3 hc) (valid_of hp)]
  rfl
theorem tic_p : pattErr law3Tic (1, (1, ([0], (-1, ())))) = 0 := by decide +kernel
theorem tic_b : placeErr law3Tic (beginOf law3Tic) = 0 := by decide +kernel
theorem tic_at : atB law3Tic (1, (1, ([0], (-1, ())))) (beginOf law3Tic) 4 = true := by decide +kernel
theorem patterns_true : law3Patterns = some true := by
  have e1 : placeBegin law3Tic = some (beginOf law3Tic, 0, ()) := by rw [begin_spec _ tic_rng, if_pos tic_ok]
  have e2 := ati_spec law3Tic (1, (1, ([0], (-1, ())))) (beginOf law3Tic) 4 tic_rng (by decide) (by decide) tic_p tic_b
  rw [if_pos (by decide +kernel), tic_at] at e2
  unfold law3Patterns
  simp only [agree_self, rep_eta]
  rw [e1, Option.bind_some]
  simp only [pl_eta]
  rw [e2]
  simp only [Option.bind_some, agree_self]
  rfl
theorem law3PatternFinds_true (r : Rules) (x : Patt) (l : List Mv) (square : Int) (hr : Rng tyRules r) (hx : Rng (.st (.int .i64) (.st (.int .i64) (.st (.sl (.int .i64)) (.st (.int .i64) .nil)))) x) (hl : Rng (.sl (.st (.int .i64) (.st (.int .i64) (.st (.int .i64) .nil)))) l) (hs : Rng (.int .i64) square) : law3PatternFinds r x l square = some true := by
  have hlen : l.length ≤ 9223372036854775807 := hl.1
  have hxn : x.2.2.1.length ≤ 9223372036854775807 := hx.2.2.1.1
  have hcut : law3Cut l = some (l.take 40) := by
    unfold law3Cut
    by_cases c : 40 < l.length
    · rw [if_pos (by omega)]
      have : boundsI 0 40 l.length = true := by simp [boundsI]; omega
      rw [this, req_true]
      rfl
    · rw [if_neg (by omega)]
      have : boundsI 0 ((l.length : Nat) : Int) l.length = true := by simp [boundsI]
      rw [this, req_true, Int.toNat_natCast, List.drop_zero, List.take_length, List.take_of_length_le (by omega)]
  unfold law3PatternFinds
  rw [patterns_true, Option.bind_some, Bool.not_true, cond_false, hcut, Option.bind_some]
  cases hgr : law3Great r with
  | true => rfl
  | false =>
    have h20 : r.start.length ≤ 20 := by
      have : decide (((r.2.2.2.2.1.length : Nat) : Int) > 20) = false := hgr
      rw [decide_eq_false_iff_not] at this
      show r.2.2.2.2.1.length ≤ 20
      omega
    generalize hkk : l.take 40 = k
    have hk : k.length ≤ 40 := by rw [← hkk]; simp; omega
    obtain ⟨p1, p2, p3⟩ := patt_spec r x hr hxn
    rw [cond_false, p2, Option.bind_some, find_spec r x k hr hxn hk h20, Option.bind_some, p1, Option.bind_some, bne_self_eq_false, cond_false, places_spec r k hr (by omega), Option.bind_some]
    unfold findRes placesRes
    by_cases c : pattErr r x = 0
    · have hR := p3 c
      simp only [c, if_true, if_pos hR.ok, beq_self_eq_true, cond_true, Option.bind_some]
      cases hg : gameOf r k with
      | inr e =>
        simp only
        rw [bne_t (err_ne k _ e hg), cond_true]
        simp
      | inl s =>
        have hg' : runG r k ([beginOf r], []) = .inl s := hg
        have hok := (run_ok k _ _ (begin_okG hR.ok) hg').1
        obtain ⟨hn, hpre⟩ := run_pre k _ _ hg'
        have hlen1 : s.1.length = k.length + 1 := by rw [hn]; simp; omega
        have hbv := begin_valid (rules_valid hR.ok)
        simp only [bne_self_eq_false, cond_false]
        have hb1 : boundsI 0 1 s.1.length = true := by simp [boundsI]; omega
        rw [hb1, req_true]
        have h0 : getD' s.1 0 dP = beginOf r := by rw [hpre 0 (by simp)]; rfl
        have hta : (s.1.take 1).drop 0 = [beginOf r] := by
          rw [List.drop_zero]
          match hs1 : s.1 with
          | [] => rw [hs1] at hlen1; simp at hlen1
          | a :: t =>
            have : getD' s.1 0 dP = a := by rw [hs1]; rfl
            rw [h0] at this
            rw [this]
            rfl
        have hcell : ∀ p, Valid r p → p.1.length ≤ 20 := fun p hp => by
          have h1 : ((p.1.length : Nat) : Int) = r.width * r.height := hp.cells
          have h2 := (rules_valid hR.ok).start
          omega
        have l0 := gHits_len (r := r) (x := x) (g := 0) (fun p hp => hcell p (hok.all p hp))
        have l1 := gHits_len (r := r) (x := x) (g := 1) (ps := [beginOf r]) (n := 20) (fun p hp => by rw [List.mem_singleton.1 hp]; exact hcell _ hbv)
        have hHl : (gHits r x 0 s.1 ++ gHits r x 1 [beginOf r]).length ≤ 100000 := by
          rw [List.length_append]
          simp only [List.length_singleton] at l1
          omega
        have gr : ∀ g (L : List Place), gHits r x g L = (List.range' 0 L.length).flatMap fun i => pHits r x g i (getD' L i dP) := fun g L => by unfold gHits; rw [List.range_eq_range']
        generalize hH : gHits r x 0 s.1 ++ gHits r x 1 [beginOf r] = H at hHl
        have i0 := law_iter2 hR s.1 0 0 0 s.1 rfl (by omega) hok.all H hHl 0 (gHits r x 1 [beginOf r]) s.1.length 0 0 (by omega) (by rw [List.drop_zero, ← hH, gr 0 s.1]) (Nat.zero_le _)
        rw [← gr 0 s.1, Nat.zero_add] at i0
        have hd1 : H.drop (gHits r x 0 s.1).length = gHits r x 1 [beginOf r] := by rw [← hH, List.drop_left]
        have hle : (gHits r x 0 s.1).length ≤ H.length := by rw [← hH, List.length_append]; omega
        have i1 := law_iter2 hR s.1 0 ((gHits r x 0 s.1).length : Int) 1 [beginOf r] hta (by simp) (fun p hp => by rw [List.mem_singleton.1 hp]; exact hbv) H hHl 0 [] 1 0 (gHits r x 0 s.1).length rfl (by rw [hd1, gr 1 [beginOf r], List.append_nil]; rfl) hle
        have hg1 : (List.range' 0 1).flatMap (fun i => pHits r x 1 i (getD' [beginOf r] i dP)) = gHits r x 1 [beginOf r] := by rw [gr 1 [beginOf r]]; rfl
        rw [hg1, show (gHits r x 0 s.1).length + (gHits r x 1 [beginOf r]).length = H.length by rw [← hH, List.length_append]] at i1
        have f0 := law_L1 s.1 0 r x H 0 0 0
        have f1 := law_L1 s.1 0 r x H 0 ((gHits r x 0 s.1).length : Int) 1
        have f2 := law_L1 s.1 0 r x H 0 (H.length : Int) 2
        have i0' : iterW (law3PatternFinds_L2 (s.1, (0, ())) (((0 : Int), (0 : Int), ()), ()) r x (H, (0, ()))) (((0 : Int), (0 : Int), ()), ()) = _ := i0
        have i1' : iterW (law3PatternFinds_L2 (s.1, (0, ())) ((((gHits r x 0 s.1).length : Int), (1 : Int), ()), ()) r x (H, (0, ()))) ((((gHits r x 0 s.1).length : Int), (0 : Int), ()), ()) = _ := i1
        rw [show decide ((0 : Int) < ((([s.1, (s.1.take 1).drop 0]).length : Nat) : Int)) = true from rfl, cond_true, show inb (0 : Int) ([s.1, (s.1.take 1).drop 0]).length = true from rfl, req_true, i0', Option.bind_some] at f0
        simp only [Sum.elim_inl] at f0
        rw [Option.bind_some] at f0
        simp only [Sum.elim_inl] at f0
        rw [show decide ((1 : Int) < ((([s.1, (s.1.take 1).drop 0]).length : Nat) : Int)) = true from rfl, cond_true, show inb (1 : Int) ([s.1, (s.1.take 1).drop 0]).length = true from rfl, req_true, i1', Option.bind_some] at f1
        simp only [Sum.elim_inl] at f1
        rw [Option.bind_some] at f1
        simp only [Sum.elim_inl] at f1
        rw [show decide ((2 : Int) < ((([s.1, (s.1.take 1).drop 0]).length : Nat) : Int)) = false from rfl, cond_false] at f2
        have hL : iterW (law3PatternFinds_L1 (s.1, (0, ())) r x (H, (0, ()))) (((0 : Int), (0 : Int), ()), ()) = some (.inl (((H.length : Int), ()), ())) := (iterW_inl f0).trans ((iterW_inl f1).trans (iterW_inr f2))
        rw [hL, Option.bind_some]
        simp only [Sum.elim_inl]
        have hv := hok.last
        have h64 := area_len hv
        have hp0 := valid_ok hR.ok hv
        have hw := w_last (L := s.1) (by omega) (by omega)
        have hla : getD' s.1 (s.1.length - 1) (([], (([], ([], ())), ((0 : Int), ((0 : Int), ())))) : Place) = lastP s.1 := rfl
        rw [hw, inbN s.1 (s.1.length - 1) (by omega), req_true]
        simp only [Int.toNat_natCast, hla]
        rw [ati_spec r x _ square hr hxn (by omega) c hp0, Option.bind_some, pall_spec r x _ hr hxn (by omega) c hp0, Option.bind_some, count_hits 0 hR (by omega) (by omega) hv]
        have hwid := (rules_valid hR.ok).w1
        have hw0 : (r.2.1 != 0) = true := bne_t (by show ¬ r.width = 0; omega)
        have himp : ∀ b, imp b true = true := fun b => by cases b <;> rfl
        by_cases hsq : 0 ≤ square ∧ square < (((lastP s.1).1.length : Nat) : Int)
        · have q := sq_of hv hsq.1 hsq.2
          have qd := q.d
          have qh := q.h
          rw [show ((decide (square < 0)) || (decide (square ≥ (((lastP s.1).1.length : Nat) : Int)))) = false by simp; omega, cond_false, hw0, himp, req_true, req_true]
          have hf : ref3Fits r x (lastP s.1) (square.tmod r.2.1) (w64 (square.tdiv r.2.1)) = some (atB r x (lastP s.1) square) := by
            have e : w64 (square.tdiv r.width) = square.tdiv r.width := w64_id (by omega) (by omega)
            have := rfit_spec hR hv q
            rw [← e] at this
            exact this
          rw [hf]
          simp only [if_pos hsq, bne_self_eq_false, Bool.not_false, gopt, cond_true, Option.bind_some, beq_self_eq_true, Bool.not_true, Bool.or_self, cond_false, Sum.elim_inl, Bool.and_self]
        · rw [show ((decide (square < 0)) || (decide (square ≥ (((lastP s.1).1.length : Nat) : Int)))) = true by simp; omega, cond_true]
          simp only [if_neg hsq, bne_self_eq_false, Bool.or_self, cond_false, Option.bind_some, Sum.elim_inl, beq_self_eq_true, Bool.and_self]
    · simp only [if_neg c]
      rw [beq_f c, cond_false, Option.bind_some, bne_t c, cond_true]
      simp
end Go.Proofs.Ytaaigenpmaiodaa
