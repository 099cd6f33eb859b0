/- The plain law of MemAddresses: the document's place is the program's. Conditions: the numbers have 64 bits. -/
import Derived.Test.YtceofdchbolidaaDoorPureMem3
import Derived.Test.YtceofdchbolidaaDoorXAllx20
namespace Go.Proofs.YtceofdchbolidaaDoor.Pure4
set_option linter.unusedVariables false
set_option linter.unusedSimpArgs false
open Go.RowKit Go.Proofs.YtceofdchbolidaaDoor.XAll Go.Proofs.YtceofdchbolidaaDoor.Hand Go.Proofs.YtceofdchbolidaaDoor.Math Go.Proofs.YtceofdchbolidaaDoor.Pure2 Go.Proofs.YtceofdchbolidaaDoorW.PrintWords
theorem valid3_eq (k : Nat) (c n : Int) : linotyperef03_Valid.f (k + 1) c n = some (validB c n) := by
  unfold linotyperef03_Valid.f validB
  simp only [linotyperef03_Valid.j0]
  by_cases h1 : c = 1
  · subst h1
    simp [full]
    by_cases h : 0 ≤ n <;> simp [h]
  by_cases h3 : c = 3
  · subst h3
    simp [full]
    by_cases h : 0 ≤ n <;> simp [h]
  by_cases h4 : c = 4
  · subst h4
    simp [full]
    by_cases h : 0 ≤ n <;> simp [h]
  by_cases h5 : c = 5
  · subst h5
    simp [full]
    by_cases h : 0 ≤ n <;> simp [h]
  by_cases h6 : c = 6
  · subst h6
    simp [full]
    by_cases h : 0 ≤ n <;> simp [h]
  by_cases h7 : c = 7
  · subst h7
    simp [full]
    by_cases h : 0 ≤ n <;> simp [h]
  by_cases h2 : c = 2
  · subst h2
    simp [full]
    by_cases h : 4 ≤ n <;> simp [h]
  by_cases h8 : c = 8
  · subst h8
    simp [full]
    rfl
  · simp [full, h1, h2, h3, h4, h5, h6, h7, h8]
theorem wide5_eq (k : Nat) (c n : Int) : linotyperef05_wide.f (k + 1) c n = some (wideB c n) := by
  unfold linotyperef05_wide.f wideB
  by_cases h : c = 5
  · rw [if_pos h, valid3_eq k c n, beq_iff_eq.2 h]; rfl
  · rw [if_neg h, beq_eq_false_iff_ne.2 h]; rfl
theorem in_l (n : Int) (l : List Int) (hl : l.length < 1000) : ∀ (d k i : Nat), i + d = l.length → linotyperef05_in.l0 (k + d + 1) n l (i : Int) = some ((l.drop i).any fun x => x == n)
  | 0, k, i, h => by
    simp only [linotyperef05_in.l0]
    rw [if_neg (by omega), List.drop_eq_nil_of_le (by omega)]
    rfl
  | d + 1, k, i, h => by
    have hi : i < l.length := by omega
    have ih := in_l n l hl d k (i + 1) (by omega)
    show linotyperef05_in.l0 ((k + d + 1) + 1) n l (i : Int) = _
    generalize k + d + 1 = K at ih ⊢
    simp only [linotyperef05_in.l0]
    rw [if_pos (by omega), if_pos (by omega), List.drop_eq_getElem_cons hi, List.any_cons]
    have hr : rd l (i : Int) = l[i] := by simp [rd, List.getElem?_eq_getElem hi]
    rw [hr]
    by_cases e : l[i] = n
    · rw [if_pos e, beq_iff_eq.2 e]; rfl
    · rw [if_neg e, beq_eq_false_iff_ne.2 e, show wrap64 ((i : Int) + 1) = ((i + 1 : Nat) : Int) by unfold wrap64; omega, ih]
      rfl
theorem in_eq (k : Nat) (n : Int) (l : List Int) (hl : l.length < 1000) : linotyperef05_in.f (k + l.length + 1) n l = some (oneOf l n) := by
  unfold linotyperef05_in.f oneOf
  have := in_l n l hl l.length k 0 (by omega)
  rw [List.drop_zero] at this
  exact this
theorem chk_val (b0 b1 i0 i1 s d z : Int) : chk b0 b1 i0 i1 s d z = if d < -2147483648 ∨ 2147483648 ≤ d then 5 else if may b0 b1 i0 i1 s d z then 0 else 2 := by
  have h := chk_iff b0 b1 i0 i1 s d z
  by_cases c1 : d < -2147483648 ∨ 2147483648 ≤ d
  · rw [if_pos c1]; unfold chk; rw [if_pos c1]
  · rw [if_neg c1]
    by_cases hm : may b0 b1 i0 i1 s d z
    · rw [if_pos hm]; exact h.2 hm
    · rw [if_neg hm]
      have hne : chk b0 b1 i0 i1 s d z ≠ 0 := fun e => hm (h.1 e)
      unfold chk at hne ⊢
      rw [if_neg c1] at hne ⊢
      split
      · rfl
      · rename_i h1
        rw [if_neg h1] at hne
        split
        · rfl
        · rename_i h2
          rw [if_neg h2] at hne
          split
          · rfl
          · rename_i h3
            rw [if_neg h3] at hne
            split
            · rfl
            · rename_i h4
              rw [if_neg h4] at hne
              exact absurd rfl hne
theorem rj2 (k : Nat) (x : Bool) (b0 b1 i0 i1 s d z : Int) : linotyperef05_Check.j2 (k + 1) x b0 b1 i0 i1 s d z 5 4 = some (if x = true then 2 else if (rspB i0 i1 && (!(s == 1) || rspB b0 b1)) = true then 2 else 0) := by
  simp only [linotyperef05_Check.j2]
  show (if x = true then some 2 else if rspB i0 i1 = true then (if s = 1 then (if rspB b0 b1 = true then some 2 else some 0) else some 2) else some 0) = _
  cases x
  · cases rspB i0 i1
    · simp
    · by_cases h : s = 1
      · cases rspB b0 b1 <;> simp [h]
      · simp [h]
  · simp
theorem rj1 (k : Nat) (x : Bool) (b0 b1 i0 i1 s d z : Int) : linotyperef05_Check.j1 (k + 6) x b0 b1 i0 i1 s d z 8 0 5 4 =
    some (if x = true then 2 else if noneB i0 i1 = true then (if s = 0 then 0 else 2) else if (wideB i0 i1 && oneOf [1, 2, 4, 8] s && !(b0 == 8 && (b1 == 0))) = true then (if (rspB i0 i1 && (!(s == 1) || rspB b0 b1)) = true then 2 else 0) else 2) := by
  show linotyperef05_Check.j1 ((k + 5) + 1) x b0 b1 i0 i1 s d z 8 0 5 4 = _
  have hin : linotyperef05_in.f (k + 5) s [1, 2, 4, 8] = some (oneOf [1, 2, 4, 8] s) := in_eq k s [1, 2, 4, 8] (by decide)
  have hn : linotyperef05_none.f i0 i1 = some (noneB i0 i1) := rfl
  have h2 : ∀ x, linotyperef05_Check.j2 (k + 5) x b0 b1 i0 i1 s d z 5 4 = some (if x = true then 2 else if (rspB i0 i1 && (!(s == 1) || rspB b0 b1)) = true then 2 else 0) := fun x => rj2 (k + 4) x b0 b1 i0 i1 s d z
  simp only [linotyperef05_Check.j1, hn, show linotyperef05_wide.f (k + 5) i0 i1 = some (wideB i0 i1) from wide5_eq (k + 4) i0 i1, hin, h2, Option.bind_some]
  have hn2 := none_iff i0 i1
  generalize (b0 == 8 && (b1 == 0)) = q
  cases x
  · cases hb : noneB i0 i1
    · cases wideB i0 i1
      · simp
      · cases oneOf [1, 2, 4, 8] s
        · simp
        · cases q
          · simp
          · simp
    · rw [hb] at hn2
      have := hn2.1 rfl
      by_cases hs : s = 0
      · simp [this.1, this.2, hs]
      · simp [hs]
  · simp
def eref (b0 b1 i0 i1 s : Int) : Int := if (!noneB b0 b1 && !wideB b0 b1 && !(b0 == 8 && (b1 == 0))) = true then 2 else if noneB i0 i1 = true then (if s = 0 then 0 else 2) else if (wideB i0 i1 && oneOf [1, 2, 4, 8] s && !(b0 == 8 && (b1 == 0))) = true then (if (rspB i0 i1 && (!(s == 1) || rspB b0 b1)) = true then 2 else 0) else 2
theorem eref_two (b0 b1 i0 i1 s : Int) : eref b0 b1 i0 i1 s = 0 ∨ eref b0 b1 i0 i1 s = 2 := by
  unfold eref
  repeat' split
  all_goals first | exact .inl rfl | exact .inr rfl
theorem eref_iff (b0 b1 i0 i1 s z : Int) (hz : sizeB z = true) : eref b0 b1 i0 i1 s = 0 ↔ may b0 b1 i0 i1 s 0 z := by
  have n1 := none_iff b0 b1
  have n2 := none_iff i0 i1
  have r1 := rsp_iff b0 b1
  have r2 := rsp_iff i0 i1
  have w1 := wide_iff b0 b1
  have w2 := wide_iff i0 i1
  have s1 : oneOf [1, 2, 4, 8] s = true ↔ s = 1 ∨ s = 2 ∨ s = 4 ∨ s = 8 := by simp [oneOf]; omega
  unfold eref may
  rw [hz]
  cases hn : noneB i0 i1
  · rw [hn] at n2
    cases hs : oneOf [1, 2, 4, 8] s
    · rw [hs] at s1
      simp at s1 n2
      simp
      omega
    · rw [hs] at s1
      have s1 := s1.1 rfl
      cases hb : noneB b0 b1 <;> cases hw : wideB b0 b1 <;> cases hi : wideB i0 i1 <;> cases hr : rspB i0 i1 <;> cases hq : rspB b0 b1 <;>
        (rw [hb] at n1; rw [hw] at w1; rw [hi] at w2; rw [hr] at r2; rw [hq] at r1; simp at n1 n2 w1 w2 r1 r2; simp; omega)
  · rw [hn] at n2
    have n2 := n2.1 rfl
    by_cases hs : s = 0
    · cases hb : noneB b0 b1 <;> cases hw : wideB b0 b1 <;>
        (rw [hb] at n1; rw [hw] at w1; simp at n1 w1; simp [hs]; omega)
    · simp [hs]
      omega
theorem rcheck_eq (k : Nat) (b0 b1 i0 i1 s d z : Int) : linotyperef05_Check.f (k + 9) b0 b1 i0 i1 s d z = some (chk b0 b1 i0 i1 s d z) := by
  rw [chk_val]
  have hin : linotyperef05_in.f (k + 8) z [0, 1, 2, 4, 8, 16, 32] = some (sizeB z) := in_eq k z [0, 1, 2, 4, 8, 16, 32] (by decide)
  have hn : linotyperef05_none.f b0 b1 = some (noneB b0 b1) := rfl
  have h1 : ∀ x, linotyperef05_Check.j1 (k + 8) x b0 b1 i0 i1 s d z 8 0 5 4 = _ := fun x => rj1 (k + 2) x b0 b1 i0 i1 s d z
  have h0 : ∀ x, linotyperef05_Check.j0 (k + 9) x b0 b1 i0 i1 s d z = some (if x = true then 5 else if may b0 b1 i0 i1 s 0 z then 0 else 2) := by
    intro x
    show linotyperef05_Check.j0 ((k + 8) + 1) x b0 b1 i0 i1 s d z = _
    simp only [linotyperef05_Check.j0, hin, hn, h1, show linotyperef05_wide.f (k + 8) b0 b1 = some (wideB b0 b1) from wide5_eq (k + 7) b0 b1, Option.bind_some]
    cases x
    · simp only [Bool.false_eq_true, if_false]
      cases hz : sizeB z
      · have : ¬ may b0 b1 i0 i1 s 0 z := by unfold may; rw [hz]; simp
        rw [if_neg this]; simp
      · have he := eref_iff b0 b1 i0 i1 s z hz
        have key : some (eref b0 b1 i0 i1 s) = some (if may b0 b1 i0 i1 s 0 z then (0 : Int) else 2) := by
          by_cases hm : may b0 b1 i0 i1 s 0 z
          · rw [if_pos hm, he.2 hm]
          · rw [if_neg hm]
            rcases eref_two b0 b1 i0 i1 s with h | h
            · exact absurd (he.1 h) hm
            · rw [h]
        rw [← key]
        unfold eref
        simp only [if_true]
        cases noneB b0 b1
        · cases wideB b0 b1
          · simp
          · simp
        · simp
    · simp
  have hmay : ¬ (d < -2147483648 ∨ 2147483648 ≤ d) → (may b0 b1 i0 i1 s 0 z ↔ may b0 b1 i0 i1 s d z) := by
    intro h
    unfold may
    constructor
    · rintro ⟨_, h2⟩; exact ⟨by omega, h2⟩
    · rintro ⟨_, h2⟩; exact ⟨by omega, h2⟩
  have hif : ∀ (p q : Prop) [Decidable p] [Decidable q], (p ↔ q) → (if p then (0 : Int) else 2) = if q then 0 else 2 := by
    intro p q _ _ h
    by_cases hp : p
    · rw [if_pos hp, if_pos (h.1 hp)]
    · rw [if_neg hp, if_neg (fun e => hp (h.2 e))]
  unfold linotyperef05_Check.f
  simp only [h0]
  by_cases c1 : d < -2147483648
  · rw [if_pos c1, if_pos (show d < -2147483648 ∨ 2147483648 ≤ d from .inl c1)]; simp
  · rw [if_neg c1]
    by_cases c2 : 2147483648 ≤ d
    · rw [decide_eq_true (by omega), if_pos (show d < -2147483648 ∨ 2147483648 ≤ d from .inr c2)]; simp
    · have hx : ¬ (d < -2147483648 ∨ 2147483648 ≤ d) := by omega
      rw [decide_eq_false (by omega), if_neg hx, if_neg (by simp), hif _ _ (hmay hx)]
theorem raddress_eq (k : Nat) (b0 b1 i0 i1 s d z : Int) (l : List Int) (nx : Int) : linotyperef05_Address.f (k + 9) b0 b1 i0 i1 s d z l nx = some (adr b0 b1 i0 i1 s d z l nx) := by
  unfold linotyperef05_Address.f adr
  rw [rcheck_eq k b0 b1 i0 i1 s d z]
  simp only [Option.bind_some]
  by_cases hc : chk b0 b1 i0 i1 s d z = 0
  · rw [if_pos hc, if_pos hc]
    have hm := (chk_iff b0 b1 i0 i1 s d z).1 hc
    unfold may at hm
    by_cases hl : l.length = 16
    · rw [if_pos (show (l.length : Int) = 16 by omega), if_pos hl]
      have hj : ∀ x, linotyperef05_Address.j0 (k + 9) l x b0 b1 i0 i1 s d z = some ((if b0 = 5 then (if s > 0 then wrap64 (wrap64 (x + rd l b1) + wrap64 (s * rd l i1)) else wrap64 (x + rd l b1)) else if s > 0 then wrap64 (x + wrap64 (s * rd l i1)) else x), 0) := by
        intro x
        show linotyperef05_Address.j0 ((k + 8) + 1) l x b0 b1 i0 i1 s d z = _
        simp only [linotyperef05_Address.j0]
        by_cases h5 : b0 = 5
        · rw [if_pos h5, if_pos h5, if_pos (by omega), if_pos (by omega)]
          by_cases hs : s > 0
          · rw [if_pos hs, if_pos hs, if_pos (by omega), if_pos (by omega)]
          · rw [if_neg hs, if_neg hs]
        · rw [if_neg h5, if_neg h5]
          by_cases hs : s > 0
          · rw [if_pos hs, if_pos hs, if_pos (by omega), if_pos (by omega)]
          · rw [if_neg hs, if_neg hs]
      simp only [hj]
      have n1 := none_iff b0 b1
      have n2 := none_iff i0 i1
      unfold base index
      by_cases hs : s > 0
      · have hn2 : ¬ noneB i0 i1 = true := fun e => by have := n2.1 e; omega
        rw [if_pos hs, if_pos hs, if_neg hn2]
        generalize wrap64 (s * rd l i1) = q
        by_cases h8 : b0 = 8
        · have h5 : ¬ b0 = 5 := by omega
          rw [if_pos h8, if_pos h8, if_neg h5]
          congr 2
          unfold wrap64; omega
        · rw [if_neg h8, if_neg h8]
          by_cases h5 : b0 = 5
          · have hn1 : ¬ noneB b0 b1 = true := fun e => by have := n1.1 e; omega
            rw [if_pos h5, if_neg hn1]
            generalize rd l b1 = r
            congr 2
            unfold wrap64; omega
          · have hn1 : noneB b0 b1 = true := n1.2 (by omega)
            rw [if_neg h5, if_pos hn1]
            congr 2
            unfold wrap64; omega
      · have hs0 : s = 0 := by omega
        have hn2 : noneB i0 i1 = true := n2.2 (by omega)
        subst hs0
        rw [if_neg hs, if_neg hs, if_pos hn2]
        have z0 : wrap64 (0 * 0) = 0 := by unfold wrap64; omega
        rw [z0]
        by_cases h8 : b0 = 8
        · have h5 : ¬ b0 = 5 := by omega
          rw [if_pos h8, if_pos h8, if_neg h5]
          congr 2
          unfold wrap64; omega
        · rw [if_neg h8, if_neg h8]
          by_cases h5 : b0 = 5
          · have hn1 : ¬ noneB b0 b1 = true := fun e => by have := n1.1 e; omega
            rw [if_pos h5, if_neg hn1]
            generalize rd l b1 = r
            congr 2
            unfold wrap64; omega
          · have hn1 : noneB b0 b1 = true := n1.2 (by omega)
            rw [if_neg h5, if_pos hn1]
            congr 2
            unfold wrap64; omega
    · rw [if_neg (show ¬ (l.length : Int) = 16 by omega), if_neg hl]
  · rw [if_neg hc, if_neg hc]
theorem MemAddresses (a0 a1 a2 a3 a4 a5 a6 : Int) (l : List Int) (nx : Int)
    (v0 : (Lit.int .i64 a0).wf = true) (v1 : (Lit.int .i64 a1).wf = true) (v2 : (Lit.int .i64 a2).wf = true) (v3 : (Lit.int .i64 a3).wf = true) (v4 : (Lit.int .i64 a4).wf = true) (v5 : (Lit.int .i64 a5).wf = true) (v6 : (Lit.int .i64 a6).wf = true)
    (wl : ∀ x ∈ l, (Lit.int .i64 x).wf = true) (wn : (Lit.int .i64 nx).wf = true) :
    ∃ k, l.length ≤ 20 → ∃ r1 r2, mem_Address.f k a0 a1 a2 a3 a4 a5 a6 l nx = some (r1, r2) ∧ linotyperef05_Address.f k a0 a1 a2 a3 a4 a5 a6 l nx = some (r1, r2) := by
  have ha1 := wf64 v1; have ha3 := wf64 v3; have ha4 := wf64 v4; have ha6 := wf64 v6
  exact ⟨30, fun _ => ⟨_, _, address_eq 25 a0 a1 a2 a3 a4 a5 a6 l nx ha3 ha1 ha4 ha6, raddress_eq 21 a0 a1 a2 a3 a4 a5 a6 l nx⟩⟩
end Go.Proofs.YtceofdchbolidaaDoor.Pure4
