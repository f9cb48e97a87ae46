/- Contracts of strconv.Itoa and strings.Join. No condition of its own. -/
import Derived.Test.YtjikbbjjnndcbaaDoorBase
import Derived.Test.YtjikbbjjnndcbaaDoorStrS
import Derived.Shelf.Strconv.Itoa3
import Derived.Shelf.Strings.OnBuilder
namespace Go.Proofs.YtjikbbjjnndcbaaDoor
open Go.Den
set_option linter.unusedVariables false
set_option maxRecDepth 100000
theorem chg_below {w w' : World} (hd : drawsUp = false) (h : Go.RowKit.Below w.heap.size w w') : Go.Eng.Chg [] w w' :=
  ⟨h.os, h.tape, h.output, h.size, fun k hk _ => h.block k hk, fun e => by rw [hd] at e; cases e⟩
theorem chg_grown {w : World} {k : Nat} {os : Array Obj} : Go.Eng.Chg [] w (Go.Sort.grow (w.drewN k) os) :=
  ⟨rfl, rfl, rfl, by simp [Go.Sort.grow], fun j hj _ => by
    show (w.heap ++ os)[j]? = _
    rw [Array.getElem?_append_left hj], fun _ => Nat.le_add_right _ _⟩
theorem cond_inv {α : Type} {c : Bool} {x r : α} (h : (bif c then some x else none) = some r) : c = true ∧ x = r := by cases c <;> simp_all
theorem str_cells {w : World} {S : Nat → Prop} : ∀ {l : List ByteArray} {us : List Value}, RepL (fun (x : D .str) c => Rep w S .str x [] c) l us → us = l.map Value.string
  | [], us, h => h
  | n :: ns, us, ⟨c, r, h1, h2, h3⟩ => by
    subst h1
    rw [h2.2, str_cells h3]
    rfl
/-- THE TABLE, as the library's texts ask for it -/
theorem tab_pow10 {S : Nat → Prop} {w : World} (hT : TabR S w) : Go.Lib.TabIs Tryd.prog w "internal/strconv.uint64pow10" .u64 Go.Lib.pow10Tab := by
  obtain ⟨_, T, fz, h⟩ := hT 1 (Go.Lib.pow10Tab.map (Value.int .u64)) rfl
  have hg : Tryd.prog.globalNamed "internal/strconv.uint64pow10" = some 1 := by kernel_rfl
  unfold Go.Lib.TabIs World.var?
  rw [hg]
  show (match w.heap[1]? with | some (.cells cs _ _) => some cs | _ => none) = _
  rw [h]
def itoa_ren : Go.Shelf.Ren := ⟨fun | 171 => 43 | 243 => 75 | 246 => 96 | 283 => 101 | 284 => 102 | 285 => 103 | 286 => 104 | 129 => 123 | 317 => 122 | 318 => 124 | 319 => 125 | 320 => 126 | 337 => 141 | 338 => 41 | n => n, fun | 3 => 3 | 9 => 9 | 2 => 2 | 4 => 4 | 171 => 140 | 0 => 0 | 53 => 22 | 37 => 88 | 5 => 5 | 173 => 142 | 212 => 164 | 51 => 146 | 20 => 20 | 213 => 165 | 46 => 100 | 232 => 183 | 233 => 117 | n => n, fun | 17 => 1 | 18 => 5 | 19 => 0 | n => n⟩
open Go.Shelf in
theorem itoa_lay : Go.Proofs.LaysM.n171 Tryd.prog itoa_ren where
  mixed := by kernel_rfl
  f129 := Tryd.func123.trans (congrArg some (by kernel_rfl))
  f171 := Tryd.func43.trans (congrArg some (by kernel_rfl))
  f243 := Tryd.func75.trans (congrArg some (by kernel_rfl))
  f246 := Tryd.func96.trans (congrArg some (by kernel_rfl))
  f283 := Tryd.func101.trans (congrArg some (by kernel_rfl))
  f284 := Tryd.func102.trans (congrArg some (by kernel_rfl))
  f285 := Tryd.func103.trans (congrArg some (by kernel_rfl))
  f286 := Tryd.func104.trans (congrArg some (by kernel_rfl))
  f317 := Tryd.func122.trans (congrArg some (by kernel_rfl))
  f318 := Tryd.func124.trans (congrArg some (by kernel_rfl))
  f319 := Tryd.func125.trans (congrArg some (by kernel_rfl))
  f320 := Tryd.func126.trans (congrArg some (by kernel_rfl))
  f337 := Tryd.func141.trans (congrArg some (by kernel_rfl))
  f338 := Tryd.func41.trans (congrArg some (by kernel_rfl))
  t0 := Tryd.underlying0
  a0 := Tryd.isAgg0
  z0 := Tryd.sizeOf0
  v0 := Tryd.zeroValue0
  t2 := Tryd.underlying2
  a2 := Tryd.isAgg2
  z2 := Tryd.sizeOf2
  v2 := Tryd.zeroValue2
  t3 := Tryd.underlying3
  a3 := Tryd.isAgg3
  z3 := Tryd.sizeOf3
  v3 := Tryd.zeroValue3
  t4 := Tryd.underlying4
  a4 := Tryd.isAgg4
  z4 := Tryd.sizeOf4
  v4 := Tryd.zeroValue4
  t5 := Tryd.underlying5
  a5 := Tryd.isAgg5
  z5 := Tryd.sizeOf5
  v5 := Tryd.zeroValue5
  t9 := Tryd.underlying9
  a9 := Tryd.isAgg9
  z9 := Tryd.sizeOf9
  v9 := Tryd.zeroValue9
  t20 := Tryd.underlying20
  a20 := Tryd.isAgg20
  z20 := Tryd.sizeOf20
  v20 := Tryd.zeroValue20
  t37 := Tryd.underlying88
  a37 := Tryd.isAgg88
  z37 := Tryd.sizeOf88
  v37 := Tryd.zeroValue88
  t46 := Tryd.underlying100
  a46 := Tryd.isAgg100
  z46 := Tryd.sizeOf100
  v46 := Tryd.zeroValue100
  t51 := Tryd.underlying146
  a51 := Tryd.isAgg146
  z51 := Tryd.sizeOf146
  v51 := Tryd.zeroValue146
  t53 := Tryd.underlying22
  a53 := Tryd.isAgg22
  z53 := Tryd.sizeOf22
  v53 := Tryd.zeroValue22
  t171 := Tryd.underlying140
  a171 := Tryd.isAgg140
  z171 := Tryd.sizeOf140
  v171 := Tryd.zeroValue140
  t173 := Tryd.underlying142
  a173 := Tryd.isAgg142
  z173 := Tryd.sizeOf142
  v173 := Tryd.zeroValue142
  t212 := Tryd.underlying164
  a212 := Tryd.isAgg164
  z212 := Tryd.sizeOf164
  v212 := Tryd.zeroValue164
  t213 := Tryd.underlying165
  a213 := Tryd.isAgg165
  z213 := Tryd.sizeOf165
  t232 := Tryd.underlying183
  a232 := Tryd.isAgg183
  z232 := Tryd.sizeOf183
  v232 := Tryd.zeroValue183
  t233 := Tryd.underlying117
  a233 := Tryd.isAgg117
  z233 := Tryd.sizeOf117
  v233 := Tryd.zeroValue117
  g17 := by kernel_rfl
  g18 := by kernel_rfl
  g19 := by kernel_rfl
  i0 := by kernel_rfl
  i2 := by kernel_rfl
  i3 := by kernel_rfl
  i4 := by kernel_rfl
  i5 := by kernel_rfl
  i9 := by kernel_rfl
  i20 := by kernel_rfl
  i37 := by kernel_rfl
  i46 := by kernel_rfl
  i51 := by kernel_rfl
  i53 := by kernel_rfl
  i171 := by kernel_rfl
  i173 := by kernel_rfl
  i212 := by kernel_rfl
  i232 := by kernel_rfl
  i233 := by kernel_rfl
  m17 := by kernel_rfl
  m18 := by kernel_rfl
  m19 := by kernel_rfl
/-- strconv.Itoa -/
noncomputable def itoaS_con : Con := ⟨[.int .i64], true, [], .str, fun x => itoaS x.1, none⟩
theorem itoaS_ok : ConOK Tryd.prog 43 itoaS_con := by
  refine ⟨rfl, fun h => (by cases h), fun g h => (by cases h), fun w S args x r hS hT ha hr => ?_⟩
  obtain ⟨n, ⟨⟩⟩ := x
  obtain ⟨v, q, e1, ⟨cs, ⟨_, rfl⟩, rfl⟩, h2⟩ := ha
  obtain rfl : q = [] := h2
  obtain rfl : args = #[.int .i64 n] := by rw [← Array.toList_inj, e1]; rfl
  have hr : itoaS n = some r := hr
  obtain ⟨hb, rfl⟩ := cond_inv hr
  · simp only [Bool.and_eq_true, decide_eq_true_eq] at hb
    refine (Any.strconv_Itoa (P := Tryd.prog) (ρ := itoa_ren) itoa_lay n hb.1 hb.2 w (tab_pow10 hT)).mono ?_
    rintro e w' ⟨rfl, k, os, rfl⟩
    exact ⟨_, rfl, chg_grown, [], [.string ⟨(Go.Lib.itoa n).toArray⟩], List.nodup_nil, (by simp), ⟨rfl, rfl⟩, rfl⟩
def join_ren : Go.Shelf.Ren := ⟨fun | 156 => 49 | 165 => 76 | 166 => 61 | 169 => 63 | 240 => 85 | 241 => 97 | 276 => 105 | 277 => 121 | n => n, fun | 31 => 58 | 9 => 9 | 3 => 3 | 4 => 4 | 0 => 0 | 20 => 20 | 72 => 103 | 76 => 107 | 70 => 101 | 37 => 88 | 75 => 106 | 127 => 128 | 164 => 144 | 5 => 5 | 80 => 110 | n => n, fun | n => n⟩
open Go.Shelf in
theorem join_lay : Go.Proofs.Lays.n156 Tryd.prog join_ren where
  mixed := by kernel_rfl
  f156 := Tryd.func49.trans (congrArg some (by kernel_rfl))
  f165 := Tryd.func76.trans (congrArg some (by kernel_rfl))
  f166 := Tryd.func61.trans (congrArg some (by kernel_rfl))
  f169 := Tryd.func63.trans (congrArg some (by kernel_rfl))
  f240 := Tryd.func85.trans (congrArg some (by kernel_rfl))
  f241 := Tryd.func97.trans (congrArg some (by kernel_rfl))
  f276 := Tryd.func105.trans (congrArg some (by kernel_rfl))
  f277 := Tryd.func121.trans (congrArg some (by kernel_rfl))
  t0 := Tryd.underlying0
  a0 := Tryd.isAgg0
  z0 := Tryd.sizeOf0
  v0 := Tryd.zeroValue0
  t3 := Tryd.underlying3
  a3 := Tryd.isAgg3
  z3 := Tryd.sizeOf3
  v3 := Tryd.zeroValue3
  t4 := Tryd.underlying4
  a4 := Tryd.isAgg4
  z4 := Tryd.sizeOf4
  v4 := Tryd.zeroValue4
  t9 := Tryd.underlying9
  a9 := Tryd.isAgg9
  z9 := Tryd.sizeOf9
  v9 := Tryd.zeroValue9
  t20 := Tryd.underlying20
  a20 := Tryd.isAgg20
  z20 := Tryd.sizeOf20
  v20 := Tryd.zeroValue20
  t31 := Tryd.underlying58
  a31 := Tryd.isAgg58
  z31 := Tryd.sizeOf58
  v31 := Tryd.zeroValue58
  t37 := Tryd.underlying88
  a37 := Tryd.isAgg88
  z37 := Tryd.sizeOf88
  v37 := Tryd.zeroValue88
  t70 := Tryd.underlying101
  a70 := Tryd.isAgg101
  z70 := Tryd.sizeOf101
  v70 := Tryd.zeroValue101
  t72 := Tryd.underlying103
  a72 := Tryd.isAgg103
  z72 := Tryd.sizeOf103
  v72 := Tryd.zeroValue103
  t75 := Tryd.underlying106
  a75 := Tryd.isAgg106
  z75 := Tryd.sizeOf106
  v75 := Tryd.zeroValue106
  t76 := Tryd.underlying107
  a76 := Tryd.isAgg107
  z76 := Tryd.sizeOf107
  v76 := Tryd.zeroValue107
  t127 := Tryd.underlying128
  a127 := Tryd.isAgg128
  z127 := Tryd.sizeOf128
  v127 := Tryd.zeroValue128
  t164 := Tryd.underlying144
  a164 := Tryd.isAgg144
  z164 := Tryd.sizeOf144
  v164 := Tryd.zeroValue144
theorem join_extra : Go.Proofs.Builder.Extra Tryd.prog join_ren where
  sizeBuilder := by kernel_rfl
  liesBuilder := by kernel_rfl
  t5 := Tryd.underlying5
  a5 := Tryd.isAgg5
  z5 := Tryd.sizeOf5
  v5 := Tryd.zeroValue5
  infoByte := by kernel_rfl
  cellsByte := by kernel_rfl
  sizeByte := by kernel_rfl
  neB5 := by decide
/-- strings.Join -/
noncomputable def joinS_con : Con := ⟨[.sl .str, .str], true, [], .str, fun x => joinS x.1 x.2.1, none⟩
theorem joinS_ok : ConOK Tryd.prog 49 joinS_con := by
  refine ⟨rfl, fun h => (by cases h), fun g h => (by cases h), fun w S args x r hS hT ha hr => ?_⟩
  obtain ⟨l, sep, ⟨⟩⟩ := x
  obtain ⟨v, q, e1, ⟨cs, ⟨_, ao, cap, us, rfl, hcap, hrep, hne⟩, rfl⟩, v2, q2, rfl, ⟨cs2, ⟨_, rfl⟩, rfl⟩, h2⟩ := ha
  obtain rfl : q2 = [] := h2
  obtain rfl : args = #[.slice ao l.length cap, .string sep] := by rw [← Array.toList_inj, e1]; rfl
  have hr : joinS l sep = some r := hr
  obtain ⟨hb, rfl⟩ := cond_inv hr
  · simp only [Bool.and_eq_true] at hb
    have h3 := Nat.le_of_ble_eq_true hb.1
    have h4 := Nat.le_of_ble_eq_true hb.2
    have hus := str_cells hrep
    subst hus
    have fin : ∀ w', Go.Eng.Chg [] w w' → ∃ v, Ending.returned (.string ⟨(Go.Lib.join (l.map (·.data.toList)) sep.data.toList).toArray⟩) = Ending.returned v ∧ Go.Eng.Chg [] w w' ∧ ResR w w' S joinS_con (⟨(Go.Lib.join (l.map (·.data.toList)) sep.data.toList).toArray⟩ : ByteArray) v :=
      fun w' hc => ⟨_, rfl, hc, [], [.string ⟨(Go.Lib.join (l.map (·.data.toList)) sep.data.toList).toArray⟩], List.nodup_nil, (by simp), ⟨rfl, rfl⟩, rfl⟩
    by_cases h0 : l = []
    · subst h0
      refine (Any.strings_Join_none (P := Tryd.prog) (ρ := join_ren) join_lay join_extra ao cap sep w).mono ?_
      rintro e w' ⟨rfl, rfl⟩
      exact fin _ (Go.Eng.Chg.refl _ _)
    · obtain ⟨a, rfl, ha, hcells⟩ := hne h0
      obtain ⟨bk, o, spot⟩ := a
      have hsp : spot = none := by
        cases l with
        | nil => exact absurd rfl h0
        | cons x l' =>
          have := hcells 0 (.string x) rfl
          cases spot with
          | none => rfl
          | some s => exact absurd this (by simp [Addr.add, World.cell?]; split <;> simp)
      subst hsp
      refine (Any.strings_Join (P := Tryd.prog) (ρ := join_ren) join_lay join_extra bk o cap l sep w (fun j x hj => by
        have := hcells j (.string x) ((List.getElem?_map (f := Value.string) (l := (l : List ByteArray)) (i := j)).trans (congrArg (Option.map Value.string) hj))
        rwa [Go.Eng.adr_add] at this) (hS bk ha) h3 hcap h4).mono ?_
      rintro e w' ⟨rfl, hb⟩
      exact fin _ (chg_below rfl hb)
end Go.Proofs.YtjikbbjjnndcbaaDoor
