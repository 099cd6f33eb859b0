/- The plain law of MemTells: the reference's functions answer the same closed words as the program's. Conditions: the numbers have 64 bits. -/
import Derived.Test.YtceofdchbolidaaDoorPureMemSame
import Derived.Test.YtceofdchbolidaaDoorXAllx19
namespace Go.Proofs.YtceofdchbolidaaDoor.Pure2
set_option linter.unusedVariables false
set_option linter.unusedSimpArgs false
open Go.RowKit Go.Proofs.YtceofdchbolidaaDoor.XAll Go.Proofs.YtceofdchbolidaaDoor.Hand Go.Proofs.YtceofdchbolidaaDoor.Math Go.Proofs.YtceofdchbolidaaDoorW.PrintWords
theorem valid3_eq (k : Nat) (c n : Int) : linotyperef03_Valid.f (k + 1) c n = some (validB c n) := by
  unfold linotyperef03_Valid.f validB
  simp only [linotyperef03_Valid.j0]
  by_cases h1 : c = 1
  · subst h1
    simp [full]
    by_cases h : 0 ≤ n <;> simp [h]
  by_cases h3 : c = 3
  · subst h3
    simp [full]
    by_cases h : 0 ≤ n <;> simp [h]
  by_cases h4 : c = 4
  · subst h4
    simp [full]
    by_cases h : 0 ≤ n <;> simp [h]
  by_cases h5 : c = 5
  · subst h5
    simp [full]
    by_cases h : 0 ≤ n <;> simp [h]
  by_cases h6 : c = 6
  · subst h6
    simp [full]
    by_cases h : 0 ≤ n <;> simp [h]
  by_cases h7 : c = 7
  · subst h7
    simp [full]
    by_cases h : 0 ≤ n <;> simp [h]
  by_cases h2 : c = 2
  · subst h2
    simp [full]
    by_cases h : 4 ≤ n <;> simp [h]
  by_cases h8 : c = 8
  · subst h8
    simp [full]
    rfl
  · simp [full, h1, h2, h3, h4, h5, h6, h7, h8]
theorem wide5_eq (k : Nat) (c n : Int) : linotyperef05_wide.f (k + 1) c n = some (wideB c n) := by
  unfold linotyperef05_wide.f wideB
  by_cases h : c = 5
  · rw [if_pos h, valid3_eq k c n, beq_iff_eq.2 h]; rfl
  · rw [if_neg h, beq_eq_false_iff_ne.2 h]; rfl
theorem in_l (n : Int) (l : List Int) (hl : l.length < 1000) : ∀ (d k i : Nat), i + d = l.length → linotyperef05_in.l0 (k + d + 1) n l (i : Int) = some ((l.drop i).any fun x => x == n)
  | 0, k, i, h => by
    simp only [linotyperef05_in.l0]
    rw [if_neg (by omega), List.drop_eq_nil_of_le (by omega)]
    rfl
  | d + 1, k, i, h => by
    have hi : i < l.length := by omega
    have ih := in_l n l hl d k (i + 1) (by omega)
    show linotyperef05_in.l0 ((k + d + 1) + 1) n l (i : Int) = _
    generalize k + d + 1 = K at ih ⊢
    simp only [linotyperef05_in.l0]
    rw [if_pos (by omega), if_pos (by omega), List.drop_eq_getElem_cons hi, List.any_cons]
    have hr : rd l (i : Int) = l[i] := by simp [rd, List.getElem?_eq_getElem hi]
    rw [hr]
    by_cases e : l[i] = n
    · rw [if_pos e, beq_iff_eq.2 e]; rfl
    · rw [if_neg e, beq_eq_false_iff_ne.2 e, show wrap64 ((i : Int) + 1) = ((i + 1 : Nat) : Int) by unfold wrap64; omega, ih]
      rfl
theorem in_eq (k : Nat) (n : Int) (l : List Int) (hl : l.length < 1000) : linotyperef05_in.f (k + l.length + 1) n l = some (oneOf l n) := by
  unfold linotyperef05_in.f oneOf
  have := in_l n l hl l.length k 0 (by omega)
  rw [List.drop_zero] at this
  exact this
theorem chk_val (b0 b1 i0 i1 s d z : Int) : chk b0 b1 i0 i1 s d z = if d < -2147483648 ∨ 2147483648 ≤ d then 5 else if may b0 b1 i0 i1 s d z then 0 else 2 := by
  have h := chk_iff b0 b1 i0 i1 s d z
  by_cases c1 : d < -2147483648 ∨ 2147483648 ≤ d
  · rw [if_pos c1]; unfold chk; rw [if_pos c1]
  · rw [if_neg c1]
    by_cases hm : may b0 b1 i0 i1 s d z
    · rw [if_pos hm]; exact h.2 hm
    · rw [if_neg hm]
      have hne : chk b0 b1 i0 i1 s d z ≠ 0 := fun e => hm (h.1 e)
      unfold chk at hne ⊢
      rw [if_neg c1] at hne ⊢
      split
      · rfl
      · rename_i h1
        rw [if_neg h1] at hne
        split
        · rfl
        · rename_i h2
          rw [if_neg h2] at hne
          split
          · rfl
          · rename_i h3
            rw [if_neg h3] at hne
            split
            · rfl
            · rename_i h4
              rw [if_neg h4] at hne
              exact absurd rfl hne
theorem rj2 (k : Nat) (x : Bool) (b0 b1 i0 i1 s d z : Int) : linotyperef05_Check.j2 (k + 1) x b0 b1 i0 i1 s d z 5 4 = some (if x = true then 2 else if (rspB i0 i1 && (!(s == 1) || rspB b0 b1)) = true then 2 else 0) := by
  simp only [linotyperef05_Check.j2]
  show (if x = true then some 2 else if rspB i0 i1 = true then (if s = 1 then (if rspB b0 b1 = true then some 2 else some 0) else some 2) else some 0) = _
  cases x
  · cases rspB i0 i1
    · simp
    · by_cases h : s = 1
      · cases rspB b0 b1 <;> simp [h]
      · simp [h]
  · simp
theorem rj1 (k : Nat) (x : Bool) (b0 b1 i0 i1 s d z : Int) : linotyperef05_Check.j1 (k + 6) x b0 b1 i0 i1 s d z 8 0 5 4 =
    some (if x = true then 2 else if noneB i0 i1 = true then (if s = 0 then 0 else 2) else if (wideB i0 i1 && oneOf [1, 2, 4, 8] s && !(b0 == 8 && (b1 == 0))) = true then (if (rspB i0 i1 && (!(s == 1) || rspB b0 b1)) = true then 2 else 0) else 2) := by
  show linotyperef05_Check.j1 ((k + 5) + 1) x b0 b1 i0 i1 s d z 8 0 5 4 = _
  have hin : linotyperef05_in.f (k + 5) s [1, 2, 4, 8] = some (oneOf [1, 2, 4, 8] s) := in_eq k s [1, 2, 4, 8] (by decide)
  have hn : linotyperef05_none.f i0 i1 = some (noneB i0 i1) := rfl
  have h2 : ∀ x, linotyperef05_Check.j2 (k + 5) x b0 b1 i0 i1 s d z 5 4 = some (if x = true then 2 else if (rspB i0 i1 && (!(s == 1) || rspB b0 b1)) = true then 2 else 0) := fun x => rj2 (k + 4) x b0 b1 i0 i1 s d z
  simp only [linotyperef05_Check.j1, hn, show linotyperef05_wide.f (k + 5) i0 i1 = some (wideB i0 i1) from wide5_eq (k + 4) i0 i1, hin, h2, Option.bind_some]
  have hn2 := none_iff i0 i1
  generalize (b0 == 8 && (b1 == 0)) = q
  cases x
  · cases hb : noneB i0 i1
    · cases wideB i0 i1
      · simp
      · cases oneOf [1, 2, 4, 8] s
        · simp
        · cases q
          · simp
          · simp
    · rw [hb] at hn2
      have := hn2.1 rfl
      by_cases hs : s = 0
      · simp [this.1, this.2, hs]
      · simp [hs]
  · simp
def eref (b0 b1 i0 i1 s : Int) : Int := if (!noneB b0 b1 && !wideB b0 b1 && !(b0 == 8 && (b1 == 0))) = true then 2 else if noneB i0 i1 = true then (if s = 0 then 0 else 2) else if (wideB i0 i1 && oneOf [1, 2, 4, 8] s && !(b0 == 8 && (b1 == 0))) = true then (if (rspB i0 i1 && (!(s == 1) || rspB b0 b1)) = true then 2 else 0) else 2
theorem eref_two (b0 b1 i0 i1 s : Int) : eref b0 b1 i0 i1 s = 0 ∨ eref b0 b1 i0 i1 s = 2 := by
  unfold eref
  repeat' split
  all_goals first | exact .inl rfl | exact .inr rfl
theorem eref_iff (b0 b1 i0 i1 s z : Int) (hz : sizeB z = true) : eref b0 b1 i0 i1 s = 0 ↔ may b0 b1 i0 i1 s 0 z := by
  have n1 := none_iff b0 b1
  have n2 := none_iff i0 i1
  have r1 := rsp_iff b0 b1
  have r2 := rsp_iff i0 i1
  have w1 := wide_iff b0 b1
  have w2 := wide_iff i0 i1
  have s1 : oneOf [1, 2, 4, 8] s = true ↔ s = 1 ∨ s = 2 ∨ s = 4 ∨ s = 8 := by simp [oneOf]; omega
  unfold eref may
  rw [hz]
  cases hn : noneB i0 i1
  · rw [hn] at n2
    cases hs : oneOf [1, 2, 4, 8] s
    · rw [hs] at s1
      simp at s1 n2
      simp
      omega
    · rw [hs] at s1
      have s1 := s1.1 rfl
      cases hb : noneB b0 b1 <;> cases hw : wideB b0 b1 <;> cases hi : wideB i0 i1 <;> cases hr : rspB i0 i1 <;> cases hq : rspB b0 b1 <;>
        (rw [hb] at n1; rw [hw] at w1; rw [hi] at w2; rw [hr] at r2; rw [hq] at r1; simp at n1 n2 w1 w2 r1 r2; simp; omega)
  · rw [hn] at n2
    have n2 := n2.1 rfl
    by_cases hs : s = 0
    · cases hb : noneB b0 b1 <;> cases hw : wideB b0 b1 <;>
        (rw [hb] at n1; rw [hw] at w1; simp at n1 w1; simp [hs]; omega)
    · simp [hs]
      omega
theorem rcheck_eq (k : Nat) (b0 b1 i0 i1 s d z : Int) : linotyperef05_Check.f (k + 9) b0 b1 i0 i1 s d z = some (chk b0 b1 i0 i1 s d z) := by
  rw [chk_val]
  have hin : linotyperef05_in.f (k + 8) z [0, 1, 2, 4, 8, 16, 32] = some (sizeB z) := in_eq k z [0, 1, 2, 4, 8, 16, 32] (by decide)
  have hn : linotyperef05_none.f b0 b1 = some (noneB b0 b1) := rfl
  have h1 : ∀ x, linotyperef05_Check.j1 (k + 8) x b0 b1 i0 i1 s d z 8 0 5 4 = _ := fun x => rj1 (k + 2) x b0 b1 i0 i1 s d z
  have h0 : ∀ x, linotyperef05_Check.j0 (k + 9) x b0 b1 i0 i1 s d z = some (if x = true then 5 else if may b0 b1 i0 i1 s 0 z then 0 else 2) := by
    intro x
    show linotyperef05_Check.j0 ((k + 8) + 1) x b0 b1 i0 i1 s d z = _
    simp only [linotyperef05_Check.j0, hin, hn, h1, show linotyperef05_wide.f (k + 8) b0 b1 = some (wideB b0 b1) from wide5_eq (k + 7) b0 b1, Option.bind_some]
    cases x
    · simp only [Bool.false_eq_true, if_false]
      cases hz : sizeB z
      · have : ¬ may b0 b1 i0 i1 s 0 z := by unfold may; rw [hz]; simp
        rw [if_neg this]; simp
      · have he := eref_iff b0 b1 i0 i1 s z hz
        have key : some (eref b0 b1 i0 i1 s) = some (if may b0 b1 i0 i1 s 0 z then (0 : Int) else 2) := by
          by_cases hm : may b0 b1 i0 i1 s 0 z
          · rw [if_pos hm, he.2 hm]
          · rw [if_neg hm]
            rcases eref_two b0 b1 i0 i1 s with h | h
            · exact absurd (he.1 h) hm
            · rw [h]
        rw [← key]
        unfold eref
        simp only [if_true]
        cases noneB b0 b1
        · cases wideB b0 b1
          · simp
          · simp
        · simp
    · simp
  have hmay : ¬ (d < -2147483648 ∨ 2147483648 ≤ d) → (may b0 b1 i0 i1 s 0 z ↔ may b0 b1 i0 i1 s d z) := by
    intro h
    unfold may
    constructor
    · rintro ⟨_, h2⟩; exact ⟨by omega, h2⟩
    · rintro ⟨_, h2⟩; exact ⟨by omega, h2⟩
  have hif : ∀ (p q : Prop) [Decidable p] [Decidable q], (p ↔ q) → (if p then (0 : Int) else 2) = if q then 0 else 2 := by
    intro p q _ _ h
    by_cases hp : p
    · rw [if_pos hp, if_pos (h.1 hp)]
    · rw [if_neg hp, if_neg (fun e => hp (h.2 e))]
  unfold linotyperef05_Check.f
  simp only [h0]
  by_cases c1 : d < -2147483648
  · rw [if_pos c1, if_pos (show d < -2147483648 ∨ 2147483648 ≤ d from .inl c1)]; simp
  · rw [if_neg c1]
    by_cases c2 : 2147483648 ≤ d
    · rw [decide_eq_true (by omega), if_pos (show d < -2147483648 ∨ 2147483648 ≤ d from .inr c2)]; simp
    · have hx : ¬ (d < -2147483648 ∨ 2147483648 ≤ d) := by omega
      rw [decide_eq_false (by omega), if_neg hx, if_neg (by simp), hif _ _ (hmay hx)]
theorem rcanon_eq (k : Nat) (b0 b1 i0 i1 s d z : Int) : linotyperef05_Canon.f (k + 9) b0 b1 i0 i1 s d z = some (canon b0 b1 i0 i1 s d z) := by
  unfold linotyperef05_Canon.f
  rw [rcheck_eq k b0 b1 i0 i1 s d z]
  have hn : linotyperef05_none.f b0 b1 = some (noneB b0 b1) := rfl
  have n1 := none_iff b0 b1
  simp only [Option.bind_some, hn]
  by_cases hm : may b0 b1 i0 i1 s d z
  · have hc := (chk_iff b0 b1 i0 i1 s d z).2 hm
    rw [if_pos hc]
    have hm' := hm
    unfold may at hm'
    have hj : ∀ x, linotyperef05_Canon.j0 (k + 9) x b0 b1 i0 i1 s d z = some (if x = true then (i0, i1, 0, 0, 0, d, z, 0) else if s = 1 ∧ i1 = 4 then (i0, i1, b0, b1, s, d, z, 0) else (b0, b1, i0, i1, s, d, z, 0)) := by
      intro x
      show linotyperef05_Canon.j0 ((k + 8) + 1) x b0 b1 i0 i1 s d z = _
      simp only [linotyperef05_Canon.j0]
      cases x
      · by_cases h1 : s = 1 <;> by_cases h2 : i1 = 4 <;> simp [h1, h2]
      · simp
    rcases canon_cases hm with ⟨g1, g2, g3, _, _, _, e⟩ | ⟨g1, g2, g3, g4, g5, g6, g7, e⟩ | ⟨g1, g2, e⟩
    · rw [if_pos g1, hj, n1.2 ⟨g2, g3⟩, e]; simp
    · have hb : noneB b0 b1 = false := by
        cases h : noneB b0 b1
        · rfl
        · have := n1.1 h; omega
      rw [if_pos g1, hj, hb, e, if_neg (by simp), if_pos ⟨g1, g3⟩]
    · rw [e]
      by_cases hs : s = 1
      · have hb : noneB b0 b1 = false := by
          cases h : noneB b0 b1
          · rfl
          · have := n1.1 h; omega
        have h4 : ¬ (s = 1 ∧ i1 = 4) := by omega
        rw [if_pos hs, hj, hb, if_neg (by simp), if_neg h4]
      · have h4 : ¬ (s = 1 ∧ i1 = 4) := fun h => hs h.1
        rw [if_neg hs, hj, if_neg (by simp), if_neg h4]
  · obtain ⟨h1, h2⟩ := canon_not hm
    rw [if_neg h2, h1]
theorem rsame_eq (k : Nat) (b0 b1 i0 i1 s d z c0 c1 j0 j1 t e y : Int) :
    linotyperef05_Same.f (k + 9) b0 b1 i0 i1 s d z c0 c1 j0 j1 t e y = some (sameT (canon b0 b1 i0 i1 s d z) (canon c0 c1 j0 j1 t e y)) := by
  unfold linotyperef05_Same.f
  rw [rcanon_eq k b0 b1 i0 i1 s d z, rcanon_eq k c0 c1 j0 j1 t e y]
  simp only [Option.bind_some]
  unfold sameT
  split
  · split <;> rfl
  · rfl
theorem MemTells (a0 a1 a2 a3 a4 a5 a6 b0 b1 b2 b3 b4 b5 b6 : Int)
    (v0 : (Lit.int .i64 a0).wf = true) (v1 : (Lit.int .i64 a1).wf = true) (v2 : (Lit.int .i64 a2).wf = true) (v3 : (Lit.int .i64 a3).wf = true) (v4 : (Lit.int .i64 a4).wf = true) (v5 : (Lit.int .i64 a5).wf = true) (v6 : (Lit.int .i64 a6).wf = true)
    (w0 : (Lit.int .i64 b0).wf = true) (w1 : (Lit.int .i64 b1).wf = true) (w2 : (Lit.int .i64 b2).wf = true) (w3 : (Lit.int .i64 b3).wf = true) (w4 : (Lit.int .i64 b4).wf = true) (w5 : (Lit.int .i64 b5).wf = true) (w6 : (Lit.int .i64 b6).wf = true) :
    ∃ k, linotypelaw05_MemTells.f k a0 a1 a2 a3 a4 a5 a6 b0 b1 b2 b3 b4 b5 b6 = some true := by
  have ha1 := wf64 v1; have ha3 := wf64 v3; have ha4 := wf64 v4; have ha6 := wf64 v6
  have hb1 := wf64 w1; have hb3 := wf64 w3; have hb4 := wf64 w4; have hb6 := wf64 w6
  refine ⟨30, ?_⟩
  unfold linotypelaw05_MemTells.f
  have e1 := canon_eq 26 a0 a1 a2 a3 a4 a5 a6 ha3 ha1 ha4 ha6
  have e2 := rcanon_eq 21 a0 a1 a2 a3 a4 a5 a6
  have e3 := check_eq 26 a0 a1 a2 a3 a4 a5 a6 ha3 ha1 ha4 ha6
  have e4 := rcheck_eq 21 a0 a1 a2 a3 a4 a5 a6
  have e5 := same_eq 26 a0 a1 a2 a3 a4 a5 a6 b0 b1 b2 b3 b4 b5 b6 ha3 ha1 ha4 ha6 hb3 hb1 hb4 hb6
  have e6 := rsame_eq 21 a0 a1 a2 a3 a4 a5 a6 b0 b1 b2 b3 b4 b5 b6
  simp only [show (26 + 4 : Nat) = 30 from rfl] at e1 e3 e5
  simp only [show (21 + 9 : Nat) = 30 from rfl] at e2 e4 e6
  simp only [e1, e2, e3, e4, e5, e6, memAwake30, Option.bind_some]
  simp
end Go.Proofs.YtceofdchbolidaaDoor.Pure2
