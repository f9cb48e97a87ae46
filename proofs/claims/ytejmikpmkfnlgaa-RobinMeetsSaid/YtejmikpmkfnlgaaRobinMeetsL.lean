/- The law RobinMeets, in plain Lean. No condition of its own. -/
import Derived.Test.YtejmikpmkfnlgaaRobinMeetsB
namespace Go.Proofs.Ytejmikpmkfnlgaa
open Go.Den
set_option linter.unusedVariables false
set_option linter.unusedSimpArgs false
set_option maxRecDepth 100000

theorem even_odd (i : Int) (h : 0 ≤ i) : (i.tmod 2 == 1) = !(i.tmod 2 == 0) := by
  have : i.tmod 2 = 0 ∨ i.tmod 2 = 1 := by rw [Int.tmod_eq_emod_of_nonneg h]; omega
  rcases this with e | e <;> rw [e] <;> rfl
theorem meet_flip {h a b : Int} (H : Odd31 h) (ha : 0 ≤ a ∧ a < h) (hb : 0 ≤ b ∧ b < h) (hne : a ≠ b) : meet h b a = ((meet h a b).1, !(meet h a b).2) := by
  obtain ⟨p1, p2, p3⟩ := placed H ha hb hne
  obtain ⟨m1, m2, _⟩ := meets H p1 p2
  rcases p3 with ⟨e1, e2⟩ | ⟨e1, e2⟩
  · rw [e1, e2] at m1 m2
    rw [m2, congrArg Prod.snd m1, even_odd _ (by omega)]
  · rw [e1, e2] at m1 m2
    rw [m1, congrArg Prod.snd m2, even_odd _ (by omega)]
    simp
theorem meetAll_flip {h a b : Int} (H : Odd31 h) (ha : 0 ≤ a ∧ a ≤ h) (hb : 0 ≤ b ∧ b ≤ h) (hne : a ≠ b) : meetAll h b a = ((meetAll h a b).1, !(meetAll h a b).2) := by
  unfold meetAll
  by_cases c1 : a = h
  · rw [if_pos c1, if_neg (show ¬ b = h by omega), if_pos c1]
    simp
  · by_cases c2 : b = h
    · rw [if_pos c2, if_neg c1, if_pos c2]
    · rw [if_neg c2, if_neg c1, if_neg c1, if_neg c2]
      exact meet_flip H ⟨ha.1, by omega⟩ ⟨hb.1, by omega⟩ hne
/-- a game of a round -/
def game (first turned : Bool) (x y : Int) : Int × Int × Unit := bif first == turned then (y, x, ()) else (x, y, ())
theorem game_meet {h : Int} {first turned : Bool} {x y r : Int} (H : Odd31 h) (hx : 0 ≤ x ∧ x ≤ h) (hy : 0 ≤ y ∧ y ≤ h) (hne : x ≠ y) (hm : meetAll h x y = (r, first)) :
    meetAll h (game first turned x y).1 (game first turned x y).2.1 = (r, !turned) := by
  unfold game
  cases first <;> cases turned <;> simp [hm, meetAll_flip H hx hy hne]
/-- the games of a round -/
def tops (n h round : Int) : List (Int × Int × Unit) := bif n.tmod 2 == 0 then [game ((round.tmod h).tmod 2 == 0) (decide (round ≥ h)) (round.tmod h) (n - 1)] else []
def gameAt (h round : Int) (j : Nat) : Int × Int × Unit := game (((j : Int) + 1).tmod 2 == 0) (decide (round ≥ h)) (px h (round.tmod h) ((j : Int) + 1)) (py h (round.tmod h) ((j : Int) + 1))
def gamesOf (n h round : Int) (k : Nat) : List (Int × Int × Unit) := tops n h round ++ (List.range k).map (gameAt h round)
structure Size (n h : Int) (k : Nat) : Prop where
  sn : 2 ≤ n ∧ n ≤ 32
  sk : k < 16
  sh : h = 2 * k + 1
  st : (n.tmod 2 = 0 ∧ n = h + 1) ∨ (n.tmod 2 = 1 ∧ n = h)
  half : robinHalf n = h
theorem size_of {n : Int} (hn : 2 ≤ n ∧ n ≤ 32) : ∃ h k, Size n h k := by
  have : n.tmod 2 = 0 ∨ n.tmod 2 = 1 := by rw [Int.tmod_eq_emod_of_nonneg (by omega)]; omega
  rcases this with e | e
  · have e' := e
    rw [Int.tmod_eq_emod_of_nonneg (by omega)] at e'
    refine ⟨n - 1, ((n - 2) / 2).toNat, hn, by omega, by omega, .inl ⟨e, by omega⟩, ?_⟩
    unfold robinHalf
    rw [e, w64_id (n := n + 0) (by omega) (by omega), w64_id (by omega) (by omega)]
    omega
  · have e' := e
    rw [Int.tmod_eq_emod_of_nonneg (by omega)] at e'
    refine ⟨n, ((n - 1) / 2).toNat, hn, by omega, by omega, .inr ⟨e, rfl⟩, ?_⟩
    unfold robinHalf
    rw [e, w64_id (n := n + 1) (by omega) (by omega), w64_id (by omega) (by omega)]
    omega
theorem Size.odd {n h : Int} {k : Nat} (S : Size n h k) : Odd31 h := ⟨k, S.sk, S.sh⟩
theorem games_spec {n h : Int} {k : Nat} (S : Size n h k) {round : Int} (hr : 0 ≤ round ∧ round < 2 * h) : robinGames n round = some (gamesOf n h round k) := by
  obtain ⟨hn, hk, hh, ht, hhalf⟩ := S
  have hrm : 0 ≤ round.tmod h ∧ round.tmod h < h := ⟨Int.tmod_nonneg _ hr.1, Int.tmod_lt_of_pos _ (by omega)⟩
  have hne0 : (h != 0) = true := bne_t (by omega)
  have hhi : w64 (w64 ((w64 (h + 1)).tdiv 2) - 1) = k := by
    rw [w64_id (n := h + 1) (by omega) (by omega), show (h + 1).tdiv 2 = (k : Int) + 1 by rw [Int.tdiv_eq_ediv_of_nonneg (by omega)]; omega, w64_id (n := (k : Int) + 1) (by omega) (by omega), w64_id (by omega) (by omega)]
    omega
  have hloop : ∀ pre : List (Int × Int × Unit), pre.length ≤ 1 → iterW (robinGames_L1 n round) ((1, ()), ((pre, ()), ())) = some ((), ((pre ++ (List.range k).map (gameAt h round), ()), ())) := by
    intro pre hp
    have := iterW_states (f := robinGames_L1 n round) k (fun j => ((((j : Int) + 1), ()), ((pre ++ (List.range j).map (gameAt h round), ()), ()))) ((), ((pre ++ (List.range k).map (gameAt h round), ()), ())) (fun j hj => by
      unfold robinGames_L1
      have hlt : (j : Int) + 1 ≤ k := by omega
      have hroom : room (pre.length + j + 1) 16 = true := room_ok (by omega)
      simp only [hhalf, hhi, hlt, decide_true, cond_true, hne0, req_true, w64_id (n := round.tmod h + ((j : Int) + 1)) (by omega) (by omega), w64_id (n := round.tmod h + h) (by omega) (by omega), w64_id (n := round.tmod h + h - ((j : Int) + 1)) (by omega) (by omega), w64_id (n := (j : Int) + 1 + 1) (by omega) (by omega)]
      cases hc : (((j : Int) + 1).tmod 2 == 0) == decide (round ≥ h) with
      | true =>
        simp only [cond_true, Option.bind_some, List.range_succ, List.map_append, List.map_cons, List.map_nil]
        simp [gameAt, game, hc, px, py, hroom, req]
      | false =>
        simp only [cond_false, Option.bind_some, List.range_succ, List.map_append, List.map_cons, List.map_nil]
        simp [gameAt, game, hc, px, py, hroom, req]) (by
      unfold robinGames_L1
      have : ¬ (k : Int) + 1 ≤ k := by omega
      simp only [hhalf, hhi, this, decide_false, cond_false])
    simpa using this
  unfold robinGames
  simp only [hhalf, hne0, req_true, w64_id (n := n - 1) (by omega) (by omega)]
  unfold gamesOf tops
  rcases ht with ⟨e, _⟩ | ⟨e, _⟩
  · have hroom : room 1 16 = true := by decide
    rw [e]
    simp only [beq_self_eq_true, cond_true, game]
    cases hc : ((round.tmod h).tmod 2 == 0) == decide (round ≥ h) with
    | true => simp [hroom, req, hloop [(n - 1, round.tmod h, ())] (by simp)]
    | false => simp [hroom, req, hloop [(round.tmod h, n - 1, ())] (by simp)]
  · rw [e]
    simp [hloop [] (by simp)]
theorem games_mem {n h : Int} {k : Nat} (S : Size n h k) {round : Int} (hr : 0 ≤ round ∧ round < 2 * h) {a b : Int} :
    (a, b, ()) ∈ gamesOf n h round k ↔ ((0 ≤ a ∧ a < n) ∧ (0 ≤ b ∧ b < n) ∧ a ≠ b ∧ meetAll h a b = (round.tmod h, !decide (round ≥ h))) := by
  have H := S.odd
  obtain ⟨hn, hk, hh, ht, hhalf⟩ := S
  have hrm : 0 ≤ round.tmod h ∧ round.tmod h < h := ⟨Int.tmod_nonneg _ hr.1, Int.tmod_lt_of_pos _ (by omega)⟩
  have hk1 : (h - 1).tdiv 2 = k := by rw [Int.tdiv_eq_ediv_of_nonneg (by omega)]; omega
  have hnh : h ≤ n ∧ n ≤ h + 1 := by omega
  have hall : ∀ {x y : Int}, (0 ≤ x ∧ x < h) → (0 ≤ y ∧ y < h) → meetAll h x y = meet h x y := fun hx hy => by unfold meetAll; rw [if_neg (by omega), if_neg (by omega)]
  constructor
  · intro hm
    rcases List.mem_append.1 hm with hm | hm
    · unfold tops at hm
      rcases ht with ⟨e, en⟩ | ⟨e, en⟩
      · rw [e] at hm
        simp only [beq_self_eq_true, cond_true, List.mem_singleton] at hm
        have hx : meetAll h (round.tmod h) (n - 1) = (round.tmod h, (round.tmod h).tmod 2 == 0) := by
          unfold meetAll
          rw [if_neg (by omega), if_pos (by omega)]
        have g := game_meet (turned := decide (round ≥ h)) H ⟨hrm.1, by omega⟩ (show 0 ≤ n - 1 ∧ n - 1 ≤ h by omega) (by omega) hx
        rw [← hm] at g
        refine ⟨?_, ?_, ?_, g⟩ <;> (unfold game at hm; cases hc : ((round.tmod h).tmod 2 == 0) == decide (round ≥ h) <;> rw [hc] at hm <;> simp at hm <;> omega)
      · rw [e] at hm
        simp at hm
    · obtain ⟨j, hj, hm⟩ := List.mem_map.1 hm
      rw [List.mem_range] at hj
      obtain ⟨m1, m2, m3, m4, m5⟩ := meets H hrm (i := (j : Int) + 1) ⟨by omega, by omega⟩
      have g := game_meet (turned := decide (round ≥ h)) H (show 0 ≤ _ ∧ px h (round.tmod h) ((j : Int) + 1) ≤ h by omega) (show 0 ≤ _ ∧ py h (round.tmod h) ((j : Int) + 1) ≤ h by omega) m5 ((hall m3 m4).trans m1)
      unfold gameAt at hm
      rw [hm] at g
      refine ⟨?_, ?_, ?_, g⟩ <;> (unfold game at hm; cases hc : ((((j : Int) + 1).tmod 2 == 0) == decide (round ≥ h)) <;> rw [hc] at hm <;> simp at hm <;> omega)
  · rintro ⟨ha, hb, hne, hm⟩
    have key : ∀ {x y : Int} {f : Bool}, meetAll h x y = (round.tmod h, f) → (x = a ∧ y = b ∨ x = b ∧ y = a) → (a, b, ()) = game f (decide (round ≥ h)) x y := by
      intro x y f h1 h2
      unfold game
      rcases h2 with ⟨rfl, rfl⟩ | ⟨rfl, rfl⟩
      · rw [hm] at h1
        have : f = !decide (round ≥ h) := (congrArg Prod.snd h1).symm
        rw [this]
        cases decide (round ≥ h) <;> rfl
      · have := meetAll_flip H (show 0 ≤ x ∧ x ≤ h by omega) (show 0 ≤ y ∧ y ≤ h by omega) (fun e => hne e.symm)
        rw [h1, hm] at this
        have : (!decide (round ≥ h)) = !f := congrArg Prod.snd this
        have : f = decide (round ≥ h) := by
          revert this
          cases f <;> cases decide (round ≥ h) <;> simp
        rw [this]
        cases decide (round ≥ h) <;> rfl
    refine List.mem_append.2 ?_
    by_cases c : a = h ∨ b = h
    · have en : n = h + 1 := by omega
      have e : n.tmod 2 = 0 := by
        rcases ht with ⟨e, _⟩ | ⟨e, e'⟩
        · exact e
        · omega
      left
      unfold tops
      rw [e]
      simp only [beq_self_eq_true, cond_true, List.mem_singleton]
      have hx : meetAll h (round.tmod h) (n - 1) = (round.tmod h, (round.tmod h).tmod 2 == 0) := by
        unfold meetAll
        rw [if_neg (by omega), if_pos (by omega)]
      refine key hx ?_
      unfold meetAll at hm
      rcases c with c | c
      · rw [if_pos c] at hm
        have := congrArg Prod.fst hm
        simp only at this
        right
        omega
      · rw [if_neg (by omega), if_pos c] at hm
        have := congrArg Prod.fst hm
        simp only at this
        left
        omega
    · right
      have ha' : 0 ≤ a ∧ a < h := by omega
      have hb' : 0 ≤ b ∧ b < h := by omega
      obtain ⟨p1, p2, p3⟩ := placed H ha' hb' hne
      have hm' := hm
      rw [hall ha' hb'] at hm'
      rw [congrArg Prod.fst hm'] at p3
      refine List.mem_map.2 ⟨(place h a b).toNat - 1, List.mem_range.2 (by omega), ?_⟩
      have ei : (((place h a b).toNat - 1 : Nat) : Int) + 1 = place h a b := by omega
      unfold gameAt
      rw [ei]
      obtain ⟨m1, m2, m3, m4, m5⟩ := meets H hrm p2
      exact (key ((hall m3 m4).trans m1) p3).symm
theorem games_len {n h : Int} {k : Nat} (S : Size n h k) {round : Int} : ((gamesOf n h round k).length : Int) = n.tdiv 2 := by
  obtain ⟨hn, hk, hh, ht, hhalf⟩ := S
  unfold gamesOf tops
  rw [Int.tdiv_eq_ediv_of_nonneg (by omega)]
  rcases ht with ⟨e, en⟩ | ⟨e, en⟩ <;> rw [e] <;> simp <;> omega
def many (h : Int) (twice : Bool) : Int := bif twice then 2 * h else h
theorem rounds_spec {n h : Int} {k : Nat} (S : Size n h k) (twice : Bool) : robinRounds_i n twice = (many h twice, 0, ()) := by
  obtain ⟨hn, hk, hh, ht, hhalf⟩ := S
  unfold robinRounds_i robinRounds many
  have : (decide (n < 2) || decide (n > 32)) = false := by simp only [Bool.or_eq_false_iff, decide_eq_false_iff_not]; omega
  rw [this, hhalf, w64_id (n := 2 * h) (by omega) (by omega)]
  cases twice <;> rfl
/-- does a game answer the question? -/
def asked (twice : Bool) (a b : Int) (p : Int × Int × Unit) : Bool := (p.1 == a && (p.2.1 == b && true)) || (!twice && (p.1 == b && (p.2.1 == a && true)))
theorem when_inner (l : List (Int × Int × Unit)) (hl : l.length ≤ 100) (a b : Int) (twice : Bool) (t : Int) :
    iterW (robinWhen_L2 l a b twice ((t, ()), ())) ((0, ()), ()) = some (bif l.any (asked twice a b) then .inr (.inr (.inr (.inr (t, 0, ())))) else .inl ((), ())) := by
  refine iterW_any l (asked twice a b) _ _ _ (fun i hi => ?_) ?_
  · unfold robinWhen_L2
    have h1 : (i : Int) < (l.length : Int) := by omega
    have h2 : inb (i : Int) l.length = true := inb_iff.2 ⟨by omega, h1⟩
    have h3 : getD' l ((i : Int)).toNat (0, 0, ()) = l[i] := by simp [getD', List.getD, List.getElem?_eq_getElem hi]
    simp only [h1, decide_true, cond_true, h2, req_true, h3, w64_id (n := (i : Int) + 1) (by omega) (by omega)]
    rfl
  · unfold robinWhen_L2
    simp
theorem when_spec {n h : Int} {k : Nat} (S : Size n h k) (twice : Bool) {a b : Int} (ha : 0 ≤ a ∧ a < n) (hb : 0 ≤ b ∧ b < n) (hne : a ≠ b) :
    robinWhen n twice a b = some (bif twice && !(meetAll h a b).2 then (meetAll h a b).1 + h else (meetAll h a b).1, 0, ()) := by
  have H := S.odd
  have hrs := rounds_spec S twice
  have S' := S
  obtain ⟨hn, hk, hh, ht, hhalf⟩ := S'
  have hnh : h ≤ n ∧ n ≤ h + 1 := by omega
  have hmr : 0 ≤ (meetAll h a b).1 ∧ (meetAll h a b).1 < h := by
    unfold meetAll
    by_cases c1 : a = h
    · rw [if_pos c1]; simp only; omega
    · rw [if_neg c1]
      by_cases c2 : b = h
      · rw [if_pos c2]; simp only; omega
      · rw [if_neg c2]; exact (placed H ⟨ha.1, by omega⟩ ⟨hb.1, by omega⟩ hne).1
  -- which rounds have it
  have hany : ∀ t : Int, 0 ≤ t → t < many h twice → (gamesOf n h t k).any (asked twice a b) = decide (t = (bif twice && !(meetAll h a b).2 then (meetAll h a b).1 + h else (meetAll h a b).1)) := by
    intro t h1 h2
    have h2' : t < 2 * h := by unfold many at h2; cases twice <;> simp at h2 <;> omega
    have hab := games_mem S ⟨h1, h2'⟩ (a := a) (b := b)
    have hba := games_mem S ⟨h1, h2'⟩ (a := b) (b := a)
    have hfl := meetAll_flip H (show 0 ≤ a ∧ a ≤ h by omega) (show 0 ≤ b ∧ b ≤ h by omega) hne
    rw [hfl] at hba
    have hA : (gamesOf n h t k).any (asked twice a b) = true ↔ ((a, b, ()) ∈ gamesOf n h t k ∨ (twice = false ∧ (b, a, ()) ∈ gamesOf n h t k)) := by
      rw [List.any_eq_true]
      constructor
      · rintro ⟨⟨x, y, _⟩, hm, hx⟩
        simp only [asked, Bool.or_eq_true, Bool.and_eq_true, beq_iff_eq, Bool.not_eq_true', and_true] at hx
        rcases hx with ⟨rfl, rfl⟩ | ⟨ht, rfl, rfl⟩
        · exact .inl hm
        · exact .inr ⟨ht, hm⟩
      · rintro (hm | ⟨ht, hm⟩)
        · exact ⟨_, hm, by simp [asked]⟩
        · exact ⟨_, hm, by simp [asked, ht]⟩
    have htm : t.tmod h = if t < h then t else t - h := by
      rw [Int.tmod_eq_emod_of_nonneg h1]
      split
      · rw [Int.emod_eq_of_lt h1 (by assumption)]
      · rw [← Int.sub_emod_right, Int.emod_eq_of_lt (by omega) (by omega)]
    rw [Bool.eq_iff_iff, hA, hab, hba, decide_eq_true_eq]
    generalize meetAll h a b = q at hmr ⊢
    obtain ⟨r, f⟩ := q
    simp only at hmr
    simp only [Prod.mk.injEq, htm]
    cases twice with
    | true =>
      simp only [many, cond_true] at h2
      cases f
      · simp only [Bool.not_false, Bool.and_self, cond_true]
        by_cases c : t < h
        · have : decide (t ≥ h) = false := by simp; omega
          simp [c, this]; omega
        · have : decide (t ≥ h) = true := by simp; omega
          simp [c, this, ha, hb, hne]; omega
      · simp only [Bool.not_true, Bool.and_false, cond_false]
        by_cases c : t < h
        · have : decide (t ≥ h) = false := by simp; omega
          simp [c, this, ha, hb, hne]; omega
        · have : decide (t ≥ h) = true := by simp; omega
          simp [c, this]; omega
    | false =>
      simp only [many, cond_false] at h2
      have : decide (t ≥ h) = false := by simp; omega
      have hne' : b ≠ a := fun e => hne e.symm
      cases f <;> simp [h2, this, ha, hb, hne, hne'] <;> omega
  unfold robinWhen
  have htwo : robinTwo n a b = true := by
    unfold robinTwo
    simp [ha, hb, hne]
  rw [hrs]
  simp only [bne_self_eq_false, cond_false, htwo, Bool.not_true]
  generalize hT : (bif twice && !(meetAll h a b).2 then (meetAll h a b).1 + h else (meetAll h a b).1) = T at hany ⊢
  have hTr : 0 ≤ T ∧ T < many h twice := by
    rw [← hT]
    unfold many
    cases twice <;> cases (meetAll h a b).2 <;> simp <;> omega
  have hm2 : many h twice ≤ 2 * h := by unfold many; cases twice <;> simp <;> omega
  have hbody : ∀ t : Int, 0 ≤ t → t < many h twice → robinWhen_L1 n twice a b ((t, ()), ()) = bif decide (t = T) then some (.inr (.inr (t, 0, ()))) else some (.inl ((t + 1, ()), ())) := by
    intro t h1 h2
    unfold robinWhen_L1
    have hl : (gamesOf n h t k).length ≤ 100 := by
      have := games_len S (round := t)
      rw [Int.tdiv_eq_ediv_of_nonneg (by omega)] at this
      omega
    simp only [hrs, h2, decide_true, cond_true, games_spec S ⟨h1, by omega⟩, Option.bind_some, when_inner _ hl, hany t h1 h2, w64_id (n := t + 1) (by omega) (by omega)]
    cases decide (t = T) <;> rfl
  have := iterW_states (f := robinWhen_L1 n twice a b) T.toNat (fun i => (((i : Int), ()), ())) (.inr (T, 0, ())) (fun i hi => by
    rw [hbody (i : Int) (by omega) (by omega), decide_eq_false (by omega)]
    rfl) (by
    rw [hbody _ (by omega) (by omega), decide_eq_true (by omega), show ((T.toNat : Nat) : Int) = T by omega]
    rfl)
  rw [show (((0 : Int), ()), ()) = ((((0 : Nat) : Int), ()), ()) from rfl, this]
  rfl
theorem check_in {n h : Int} {k : Nat} (S : Size n h k) (twice : Bool) (round : Int) : robinCheck n twice round = some (if 0 ≤ round ∧ round < many h twice then 0 else 1) := by
  unfold robinCheck
  rw [rounds_spec S twice]
  by_cases c : 0 ≤ round ∧ round < many h twice
  · have : (decide (round < 0) || decide (round ≥ many h twice)) = false := by simp only [Bool.or_eq_false_iff, decide_eq_false_iff_not]; omega
    simp [this, c]
  · have : (decide (round < 0) || decide (round ≥ many h twice)) = true := by simp only [Bool.or_eq_true, decide_eq_true_eq]; omega
    simp [this, c]
theorem law3RobinMeets_true (n : Int) (twice : Bool) (a b round : Int) (h1 : Rng (.int .i64) n) (h2 : Rng .bool twice) (h3 : Rng (.int .i64) a) (h4 : Rng (.int .i64) b) (h5 : Rng (.int .i64) round) : law3RobinMeets n twice a b round = some true := by
  unfold law3RobinMeets
  have h0 : law3Rounds = true := by decide +kernel
  rw [h0]
  simp only [Bool.not_true, cond_false]
  by_cases hn : 2 ≤ n ∧ n ≤ 32
  · obtain ⟨h, k, S⟩ := size_of hn
    have H := S.odd
    have hrs := rounds_spec S twice
    have hck := check_in S twice round
    have hc : (decide (n < 2) || decide (n > 32)) = false := by simp only [Bool.or_eq_false_iff, decide_eq_false_iff_not]; omega
    have hm : w64 (n + n.tmod 2) = h + 1 := by
      rcases S.st with ⟨e, e'⟩ | ⟨e, e'⟩ <;> rw [e] <;> rw [w64_id (by omega) (by omega)] <;> omega
    have hsh := S.sh
    have hsk := S.sk
    have hm1 : w64 (h + 1 - 1) = h := by rw [show h + 1 - 1 = h by omega]; exact w64_id (by omega) (by omega)
    have hne0 : (h != 0) = true := bne_t (by omega)
    have hbye : robinBye n twice round = some (if 0 ≤ round ∧ round < many h twice then (if n.tmod 2 = 0 then -1 else round.tmod h, 0, ()) else (0, 1, ())) := by
      unfold robinBye
      rw [hck, S.half]
      by_cases c : 0 ≤ round ∧ round < many h twice
      · by_cases d : n.tmod 2 = 0
        · simp [c, d]
        · simp [c, d, beq_f d, hne0, req]
      · simp [c]
    have hrd : robinRound n twice round = some (if 0 ≤ round ∧ round < many h twice then (gamesOf n h round k, 0, ()) else ([], 1, ())) := by
      unfold robinRound
      rw [hck]
      by_cases c : 0 ≤ round ∧ round < many h twice
      · have : round < 2 * h := by have := c.2; unfold many at this; cases twice <;> simp at this <;> omega
        simp [c, games_spec S ⟨c.1, this⟩]
      · simp [c]
    have hwant : (bif twice then some ((w64 (h + h), ()), ()) else some ((h, ()), ()) : Option ((Int × Unit) × Unit)) = some ((many h twice, ()), ()) := by
      unfold many
      cases twice
      · rfl
      · simp only [cond_true, w64_id (n := h + h) (by omega) (by omega)]
        rw [show h + h = 2 * h by omega]
    -- the part about the pair
    have hpair : ∀ q, robinWhen n twice a b = some q → (bif (decide ((if b < a then b else a) < 0) || decide ((if b > a then b else a) ≥ n)) || a == b then some (q.2.1 == 1 && q.1 == 0)
        else Option.bind (ref3Round (h + 1) a b) fun r15 => Option.bind (bif twice && !r15.2.1 then some ((w64 (r15.1 + h), ()), ()) else some ((r15.1, ()), ())) fun x16 => some (q.2.1 == 0 && q.1 == x16.1.1)) = some true := by
      intro q hq
      by_cases c : (0 ≤ a ∧ a < n) ∧ (0 ≤ b ∧ b < n) ∧ a ≠ b
      · obtain ⟨ha, hb, hne⟩ := c
        have hnh : h ≤ n ∧ n ≤ h + 1 := by have := S.st; omega
        have hcond : ((decide ((if b < a then b else a) < 0) || decide ((if b > a then b else a) ≥ n)) || a == b) = false := by
          simp only [Bool.or_eq_false_iff, decide_eq_false_iff_not, beq_f hne, and_true]
          constructor <;> split <;> omega
        rw [hcond, round_spec H (by omega) (by omega) hne]
        rw [when_spec S twice ha hb hne] at hq
        cases hq
        have hmr : 0 ≤ (meetAll h a b).1 ∧ (meetAll h a b).1 < h := by
          unfold meetAll
          by_cases c1 : a = h
          · rw [if_pos c1]; simp only; omega
          · rw [if_neg c1]
            by_cases c2 : b = h
            · rw [if_pos c2]; simp only; omega
            · rw [if_neg c2]; exact (placed H ⟨ha.1, by omega⟩ ⟨hb.1, by omega⟩ hne).1
        simp only [cond_false, Option.bind_some, w64_id (n := (meetAll h a b).1 + h) (by omega) (by omega)]
        cases twice && !(meetAll h a b).2 <;> simp
      · have hcond : ((decide ((if b < a then b else a) < 0) || decide ((if b > a then b else a) ≥ n)) || a == b) = true := by
          simp only [Bool.or_eq_true, decide_eq_true_eq, beq_iff_eq]
          by_cases e : a = b
          · exact .inr e
          · left
            by_cases l : b < a
            · rw [if_pos l, if_neg (by omega)]; omega
            · rw [if_neg l, if_pos (by omega)]; omega
        have htwo : robinTwo n a b = false := by
          unfold robinTwo
          rw [Bool.eq_false_iff]
          intro hh
          simp at hh
          exact c (by omega)
        unfold robinWhen at hq
        rw [hrs] at hq
        simp [htwo] at hq
        rw [hcond, ← hq]
        rfl
    have hwhen : ∃ q, robinWhen n twice a b = some q := by
      by_cases c : (0 ≤ a ∧ a < n) ∧ (0 ≤ b ∧ b < n) ∧ a ≠ b
      · exact ⟨_, when_spec S twice c.1 c.2.1 c.2.2⟩
      · have htwo : robinTwo n a b = false := by
          unfold robinTwo
          rw [Bool.eq_false_iff]
          intro hh
          simp at hh
          exact c (by omega)
        unfold robinWhen
        rw [hrs]
        simp [htwo]
    obtain ⟨q, hq⟩ := hwhen
    have hpq := hpair q hq
    rw [hrd, hbye, hq]
    simp only [Option.bind_some, hc, cond_false, hm, hm1, hwant, hrs, bne_self_eq_false, Bool.or_self]
    by_cases c : 0 ≤ round ∧ round < many h twice
    · have hlt : round < 2 * h := by have := c.2; unfold many at this; cases twice <;> simp at this <;> omega
      have c1 : (decide (round < 0) || decide (round ≥ many h twice)) = false := by simp only [Bool.or_eq_false_iff, decide_eq_false_iff_not]; omega
      have hlen := games_len S (round := round)
      have hw2 : w64 (n.tdiv 2) = n.tdiv 2 := by rw [Int.tdiv_eq_ediv_of_nonneg (by omega)]; exact w64_id (by omega) (by omega)
      have hrm : 0 ≤ round.tmod h ∧ round.tmod h < h := ⟨Int.tmod_nonneg _ c.1, Int.tmod_lt_of_pos _ (by omega)⟩
      have hL : iterW (law3RobinMeets_L1 (gamesOf n h round k, 0, ()) n round) ((0, ()), ()) = some (.inl ((), ())) := by
        have := iterW_any (gamesOf n h round k) (fun _ => false) (law3RobinMeets_L1 (gamesOf n h round k, 0, ()) n round) (.inr (.inr false)) (.inl ((), ())) (fun i hi => by
          unfold law3RobinMeets_L1
          have i1 : (i : Int) < ((gamesOf n h round k).length : Int) := by omega
          have i2 : inb (i : Int) (gamesOf n h round k).length = true := inb_iff.2 ⟨by omega, i1⟩
          have i3 : getD' (gamesOf n h round k) ((i : Int)).toNat (0, 0, ()) = (gamesOf n h round k)[i] := by simp [getD', List.getD, List.getElem?_eq_getElem hi]
          have hmem : (gamesOf n h round k)[i] ∈ gamesOf n h round k := List.getElem_mem hi
          have hl32 : (gamesOf n h round k).length ≤ 100 := by
            have := hlen
            rw [Int.tdiv_eq_ediv_of_nonneg (by omega)] at this
            omega
          generalize (gamesOf n h round k)[i] = p at hmem i3
          obtain ⟨x, y, _⟩ := p
          obtain ⟨g1, g2, g3, g4⟩ := (games_mem S ⟨c.1, hlt⟩).1 hmem
          have hnh : h ≤ n ∧ n ≤ h + 1 := by have := S.st; omega
          simp only [i1, decide_true, cond_true, i2, req_true, i3, hm, hm1, hne0, round_spec H (show 0 ≤ x ∧ x ≤ h by omega) (show 0 ≤ y ∧ y ≤ h by omega) g3, g4, Option.bind_some, bne_self_eq_false, Bool.false_or, w64_id (n := (i : Int) + 1) (by omega) (by omega)]
          have : ((!decide (round ≥ h)) == decide (round < h)) = true := by
            by_cases d : round < h
            · have : ¬ round ≥ h := by omega
              simp [d, this]
            · have : round ≥ h := by omega
              simp [d, this]
          simp [this]) (by unfold law3RobinMeets_L1; simp)
        have e0 : ((gamesOf n h round k).any fun _ => false) = false := by rw [List.any_eq_false]; simp
        rw [e0] at this
        exact this
      simp only [if_pos c, c1, cond_false, bne_self_eq_false, Bool.or_self, Bool.not_false, Bool.false_or, hw2, hlen, imp, Bool.cond_self, req_true, hL]
      rcases S.st with ⟨e, e'⟩ | ⟨e, e'⟩
      · simp only [e]
        exact hpq
      · have hr2 := round_spec H (a := round.tmod h) (b := h) (by omega) (by omega) (by omega)
        have hr3 : (meetAll h (round.tmod h) h).1 = round.tmod h := by
          unfold meetAll
          rw [if_neg (by omega), if_pos rfl]
        have hb1 : (round.tmod h == -1) = false := beq_f (by omega)
        simp only [e, hr2, hr3, hb1, hne0, req_true, Option.bind_some]
        simpa [e, hr2, hr3, hb1, hne0, req] using hpq
    · have c1 : (decide (round < 0) || decide (round ≥ many h twice)) = true := by simp only [Bool.or_eq_true, decide_eq_true_eq]; omega
      simp only [if_neg c, c1, cond_true]
      exact hpq
  · have hc : (decide (n < 2) || decide (n > 32)) = true := by simp only [Bool.or_eq_true, decide_eq_true_eq]; omega
    have hr : robinRounds_i n twice = (0, 4, ()) := by unfold robinRounds_i; rw [hc]; rfl
    have hk : robinCheck n twice round = some 4 := by unfold robinCheck; rw [hr]; rfl
    unfold robinRound robinBye robinWhen
    rw [hk, hr]
    simp [hc]
    decide
end Go.Proofs.Ytejmikpmkfnlgaa
