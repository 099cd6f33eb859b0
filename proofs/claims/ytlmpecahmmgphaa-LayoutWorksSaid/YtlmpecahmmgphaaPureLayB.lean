/- What layout computes: the passes, over numbers. -/
import Derived.Test.YtlmpecahmmgphaaPureLayA
namespace Go.Proofs.Ytlmpecahmmgphaa.PureLay
open Go.RowKit Go.Proofs.Ytlmpecahmmgphaa.Lay Go.Proofs.Ytlmpecahmmgphaa.Math Go.Proofs.YtlmpecahmmgphaaW.PrintWords Go.Proofs.YtlmpecahmmgphaaW.PrintLast Go.Proofs.YtlmpecahmmgphaaW.PrintMore
open Go.Proofs.Ytlmpecahmmgphaa.XLay (S52 field_Fits.f field_Sign.f field_bits.f rd_T52 z52 layout_origin.f)
set_option linter.unusedVariables false
set_option linter.unusedSimpArgs false
theorem set_get (xs : List Bool) (i j : Nat) (v : Bool) (h : i < xs.length) : (xs.set i v).getD j false = if j = i then v else xs.getD j false := by
  simp only [List.getD_eq_getElem?_getD, List.getElem?_set]
  by_cases e : i = j
  · subst e; simp [h]
  · simp [e, Ne.symm e]
theorem nearL_get (ps : List PV) (at_ : List Int) (near : List Bool) : ∀ i, i ≤ near.length → ∀ j, (nearL ps at_ near i).getD j false = (near.getD j false || (decide (j < i) && lateP at_ (ps.getD j (.fix 0)) j)) := by
  intro i
  induction i with
  | zero => intro _ j; simp [nearL]
  | succ i ih =>
    intro hi j
    rw [nearL_succ]
    have h1 := ih (by omega)
    have hii := h1 i
    simp only [show ¬ i < i by omega, decide_false, Bool.false_and, Bool.or_false] at hii
    rw [hii]
    by_cases hc : near.getD i false = false ∧ lateP at_ (ps.getD i (.fix 0)) i = true
    · rw [if_pos hc, set_get _ _ _ _ (by rw [nearL_len]; omega)]
      by_cases e : j = i
      · subst e
        rw [if_pos rfl, hc.2, decide_eq_true (Nat.lt_succ_self _), Bool.true_and, Bool.or_true]
      · rw [if_neg e, h1 j]
        have : decide (j < i) = decide (j < i + 1) := by simp only [decide_eq_decide]; omega
        rw [this]
    · rw [if_neg hc, h1 j]
      by_cases e : j = i
      · subst e
        simp only [show ¬ j < j by omega, decide_false, Bool.false_and, Bool.or_false, show j < j + 1 by omega, decide_true, Bool.true_and]
        cases hn : near.getD j false with
        | true => rfl
        | false =>
          cases hl : lateP at_ (ps.getD j (.fix 0)) j with
          | false => rfl
          | true => exact absurd ⟨hn, hl⟩ hc
      · have : decide (j < i) = decide (j < i + 1) := by simp only [decide_eq_decide]; omega
        rw [this]
/-- A pass. -/
def F (ps : List PV) (o : Int) (near : List Bool) : List Bool := nearL ps (lieL ps near o ps.length) near ps.length
theorem F_len (ps : List PV) (o : Int) (near : List Bool) : (F ps o near).length = near.length := nearL_len _ _ _ _
theorem F_get (ps : List PV) (o : Int) (near : List Bool) (h : near.length = ps.length) (j : Nat) : (F ps o near).getD j false = (near.getD j false || (decide (j < ps.length) && lateP (lieL ps near o ps.length) (ps.getD j (.fix 0)) j)) := nearL_get _ _ _ _ (by omega) j
theorem F_mono (ps : List PV) (o : Int) (near : List Bool) (h : near.length = ps.length) (j : Nat) (hj : near.getD j false = true) : (F ps o near).getD j false = true := by rw [F_get _ _ _ h, hj]; rfl
theorem cnt : ∀ (xs ys : List Bool), xs.length = ys.length → (∀ j, xs.getD j false = true → ys.getD j false = true) → ys.count false ≤ xs.count false ∧ (xs ≠ ys → ys.count false < xs.count false) := by
  intro xs
  induction xs with
  | nil => intro ys hl _; cases ys with
    | nil => exact ⟨Nat.le_refl _, fun h => absurd rfl h⟩
    | cons _ _ => simp at hl
  | cons x xs ih =>
    intro ys hl h
    cases ys with
    | nil => simp at hl
    | cons y ys =>
      have h2 := ih ys (by simpa using hl) (fun j hj => by have := h (j + 1); simpa using this (by simpa using hj))
      have h0 := h 0
      simp only [List.getD_cons_zero] at h0
      simp only [List.count_cons]
      refine ⟨?_, fun hne => ?_⟩
      · cases x <;> cases y <;> simp at h0 ⊢ <;> omega
      · cases x <;> cases y <;> simp at h0 hne ⊢ <;> first | omega | (have := h2.2 hne; omega)
theorem planL_spec (ps : List PV) (o : Int) (I : List Bool → Prop) (hI : ∀ x, x.length = ps.length → I x → I (F ps o x)) : ∀ (k : Nat) (near : List Bool) (p : Int), near.count false < k → near.length = ps.length → 0 ≤ p → p + (near.count false : Int) ≤ 10000 → I near →
    ∃ nr p', planL ps o k near p = some (lieL ps nr o ps.length, nr, p') ∧ nr.length = ps.length ∧ F ps o nr = nr ∧ I nr ∧ p + 1 ≤ p' ∧ p' + (nr.count false : Int) ≤ p + 1 + (near.count false : Int) := by
  intro k
  induction k with
  | zero => intro near p h; omega
  | succ k ih =>
    intro near p hk hl h0 h1 hi
    rw [planL_succ, show nearL ps (lieL ps near o ps.length) near ps.length = F ps o near from rfl]
    have hw : wrap64 (p + 1) = p + 1 := w64 _ (by omega) (by omega)
    by_cases e : near = F ps o near
    · rw [if_pos e, hw]
      exact ⟨near, p + 1, rfl, hl, e.symm, hi, Int.le_refl _, by omega⟩
    · rw [if_neg e, hw]
      have hc := (cnt near (F ps o near) (F_len ps o near).symm (F_mono ps o near hl)).2 e
      obtain ⟨nr, p', e1, e2, e3, e4, e5, e6⟩ := ih (F ps o near) (p + 1) (by omega) (by rw [F_len]; exact hl) (by omega) (by omega) (hI near hl hi)
      exact ⟨nr, p', e1, e2, e3, e4, by omega, by omega⟩
theorem count_rep (n : Nat) : (List.replicate n false).count false = n := by simp
theorem planL_rep (ps : List PV) (o : Int) (hn : ps.length ≤ 200) (I : List Bool → Prop) (hI : ∀ x, x.length = ps.length → I x → I (F ps o x)) (h0 : I (List.replicate ps.length false)) :
    ∃ nr p', planL ps o (ps.length + 2) (List.replicate ps.length false) 0 = some (lieL ps nr o ps.length, nr, p') ∧ nr.length = ps.length ∧ F ps o nr = nr ∧ I nr ∧ 1 ≤ p' ∧ p' + (nr.count false : Int) ≤ 1 + (ps.length : Int) := by
  have := planL_spec ps o I hI (ps.length + 2) (List.replicate ps.length false) 0 (by rw [count_rep]; omega) (by simp) (Int.le_refl _) (by rw [count_rep]; omega) h0
  rw [count_rep] at this
  simpa using this
/-- Whether a branch's distance does not fit in a byte. -/
def lateB (ps : List PV) (near : List Bool) (o : Int) (i : Nat) : Bool := match ps.getD i (.fix 0) with
  | .br _ _ t off => !decide (-128 ≤ dst ps near o t off i ∧ dst ps near o t off i < 128)
  | _ => false
theorem late_eq {ps : List PV} {o : Int} (H : Fine ps o) (near : List Bool) (i : Nat) (hi : i < ps.length) : lateP (lieL ps near o ps.length) (ps.getD i (.fix 0)) i = lateB ps near o i := by
  have hok := H.ok i hi
  unfold lateB
  cases hv : ps.getD i (.fix 0) with
  | fix z => rfl
  | al n => rfl
  | br s n t off =>
    rw [hv] at hok
    obtain ⟨_, _, _, h1, h2, h3⟩ := hok
    show (!reachP _ t off i 8) = _
    rw [reach_eq H near t off i 8 (.inl rfl) hi h1 h2 h3, hf8]
/-- Whether a branch fits with a choice. -/
def fitB (ps : List PV) (near : List Bool) (o : Int) (i : Nat) : Bool := match ps.getD i (.fix 0) with
  | .br _ _ t off => decide (-hf (if near.getD i false then 32 else 8) ≤ dst ps near o t off i ∧ dst ps near o t off i < hf (if near.getD i false then 32 else 8))
  | _ => true
theorem fit_eq {ps : List PV} {o : Int} (H : Fine ps o) (near : List Bool) (i : Nat) (hi : i < ps.length) : fitP (lieL ps near o ps.length) (ps.getD i (.fix 0)) (near.getD i false) i = fitB ps near o i := by
  have hok := H.ok i hi
  unfold fitB
  cases hv : ps.getD i (.fix 0) with
  | fix z => rfl
  | al n => rfl
  | br s n t off =>
    rw [hv] at hok
    obtain ⟨_, _, _, h1, h2, h3⟩ := hok
    show reachP _ t off i (if near.getD i false = true then 32 else 8) = _
    exact reach_eq H near t off i _ (by cases near.getD i false <;> simp) hi h1 h2 h3
theorem fitsL_iff (ps : List PV) (near : List Bool) (at_ : List Int) : ∀ i, fitsL ps near at_ i = true ↔ ∀ j, j < i → fitP at_ (ps.getD j (.fix 0)) (near.getD j false) j = true := by
  intro i
  induction i with
  | zero => simp [fitsL]
  | succ i ih =>
    rw [fitsL_succ, Bool.and_eq_true, ih]
    constructor
    · intro ⟨h1, h2⟩ j hj
      rcases Nat.lt_succ_iff_lt_or_eq.1 hj with h | rfl
      · exact h1 j h
      · exact h2
    · intro h
      exact ⟨fun j hj => h j (by omega), h i (by omega)⟩
theorem fitsP_iff {ps : List PV} {o : Int} (H : Fine ps o) (near : List Bool) : fitsP ps o near = true ↔ ∀ j, j < ps.length → fitB ps near o j = true := by
  unfold fitsP
  rw [fitsL_iff]
  constructor
  · intro h j hj; rw [← fit_eq H near j hj]; exact h j hj
  · intro h j hj; rw [fit_eq H near j hj]; exact h j hj
theorem F_fix {ps : List PV} {o : Int} (H : Fine ps o) (nr : List Bool) (hl : nr.length = ps.length) (hF : F ps o nr = nr) (j : Nat) (hj : j < ps.length) (hn : nr.getD j false = false) : lateB ps nr o j = false := by
  have := F_get ps o nr hl j
  rw [hF, hn, late_eq H nr j hj, decide_eq_true hj] at this
  simpa using this.symm
theorem origin_eq (o : Int) : layout_origin.f o = some true ↔ 0 ≤ o ∧ o ≤ 140737488355328 := by
  unfold layout_origin.f
  by_cases h : o ≥ 0
  · rw [if_pos h]
    simp
    omega
  · rw [if_neg h]
    simp
    omega
theorem fine_of {l : List S52} {ps : List PV} {o : Int} (hn : l.length ≤ 200) (h : allP (l.length : Int) l = some ps) (h0 : 0 ≤ o) (h1 : o ≤ 140737488355328) : Fine ps o := by
  have hl := allP_len _ _ _ h
  refine ⟨fun i hi => ?_, by omega, h0, h1⟩
  have := (allP_inv _ l ps h i (by omega)).1
  rwa [← hl] at this
/-- What Plan is, where the pieces may be. -/
theorem Plan_none {l : List S52} (o : Int) (hn : l.length ≤ 200) (h : allP (l.length : Int) l = none) : XLay.layout_Plan.f l o = some ([], [], 0, 2) := by
  unfold XLay.layout_Plan.f layout_Plan.f
  rw [if_neg (by omega), h]
theorem Plan_out {l : List S52} {ps : List PV} {o : Int} (hn : l.length ≤ 200) (h : allP (l.length : Int) l = some ps) (ho : ¬ (0 ≤ o ∧ o ≤ 140737488355328)) : XLay.layout_Plan.f l o = some ([], [], 0, 5) := by
  unfold XLay.layout_Plan.f layout_Plan.f
  rw [if_neg (by omega), h]
  simp only []
  rw [if_neg (fun e => ho ((origin_eq o).1 e))]
theorem Plan_in {l : List S52} {ps : List PV} {o : Int} (hn : l.length ≤ 200) (h : allP (l.length : Int) l = some ps) (ho : 0 ≤ o ∧ o ≤ 140737488355328) {x : List Int × List Bool × Int} (hx : planL ps o (ps.length + 2) (List.replicate ps.length false) 0 = some x) : XLay.layout_Plan.f l o = some (planT ps o x) := by
  unfold XLay.layout_Plan.f layout_Plan.f
  rw [if_neg (by omega), h]
  simp only []
  rw [if_pos ((origin_eq o).2 ho), hx]
  rfl
end Go.Proofs.Ytlmpecahmmgphaa.PureLay
