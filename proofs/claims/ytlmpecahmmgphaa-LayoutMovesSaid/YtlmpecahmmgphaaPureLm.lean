/- The law LayoutMoves, over numbers and lists. -/
import Derived.Test.YtlmpecahmmgphaaPureLayB
import Derived.Test.YtlmpecahmmgphaaXLayx5
import Derived.Test.YtlmpecahmmgphaaLayLaw0
namespace Go.Proofs.Ytlmpecahmmgphaa.PureLm
open Go.RowKit Go.Proofs.Ytlmpecahmmgphaa.Lay Go.Proofs.Ytlmpecahmmgphaa.PureLay Go.Proofs.Ytlmpecahmmgphaa.Math Go.Proofs.YtlmpecahmmgphaaW.PrintWords Go.Proofs.YtlmpecahmmgphaaW.PrintLast Go.Proofs.YtlmpecahmmgphaaW.PrintMore
open Go.Proofs.Ytlmpecahmmgphaa.XLay hiding layout_Plan.f layout_Check.f layout_Fits.f
set_option linter.unusedVariables false
set_option linter.unusedSimpArgs false
theorem awake_eq (k : Nat) (h : 40 ≤ k) : linotypelaw27_awake.f k = some true := at_rounds (g := fun k => linotypelaw27_awake.f k) (linotypelaw27_awake.mono) h (by decide +kernel)
theorem bools_l0 (l0 : List Bool) (h20 : l0.length ≤ 20000) : ∀ d j k : Nat, j + d = l0.length → d < k → linotypekit_SameBools.l0 k l0 l0 (j : Int) = some true := by
  intro d
  induction d with
  | zero =>
    intro j k hj hk
    obtain ⟨k, rfl⟩ : ∃ m, k = m + 1 := ⟨k - 1, by omega⟩
    unfold linotypekit_SameBools.l0
    rw [if_neg (by omega)]
  | succ d ih =>
    intro j k hj hk
    obtain ⟨k, rfl⟩ : ∃ m, k = m + 1 := ⟨k - 1, by omega⟩
    unfold linotypekit_SameBools.l0
    rw [if_pos (by omega), if_pos (by omega), if_pos (by omega), if_neg (by simp), wrap_succ j (by omega)]
    exact ih (j + 1) k (by omega) (by omega)
theorem bools_eq (l0 : List Bool) (h20 : l0.length ≤ 20000) (k : Nat) (hk : l0.length < k) : linotypekit_SameBools.f k l0 l0 = some true := by
  unfold linotypekit_SameBools.f
  rw [if_pos rfl]
  exact bools_l0 l0 h20 l0.length 0 k (by omega) hk
theorem pick_eq (x : Int) : ∃ p, linotypekit_Pick.f x 140737488355328 = some p ∧ 0 ≤ p ∧ p < 140737488355328 := by
  unfold linotypekit_Pick.f
  rw [if_neg (by decide), if_neg (by decide)]
  by_cases h : Int.tmod x 140737488355328 < 0
  · rw [if_pos h]
    refine ⟨_, rfl, ?_⟩
    have := Int.lt_tmod_of_pos x (show (0 : Int) < 140737488355328 by decide)
    rw [w64 _ (by omega) (by omega)]
    omega
  · rw [if_neg h]
    refine ⟨_, rfl, by omega, ?_⟩
    exact Int.tmod_lt_of_pos x (by decide)
theorem l1_eq (p q : Int) (la lb : List Int) (x1 : List Bool) (x2 : Int) (y1 : List Bool) (y2 : Int) (hl : la.length = lb.length) (h20 : la.length ≤ 20000) (h : ∀ j : Nat, j < la.length → wrap64 (rd la (j : Int) - p) = wrap64 (rd lb (j : Int) - q)) : ∀ d j k : Nat, j + d = la.length → d < k → linotypelaw27_LayoutMoves.l1 k p q true (j : Int) la x1 x2 lb y1 y2 = some true := by
  intro d
  induction d with
  | zero =>
    intro j k hj hk
    obtain ⟨k, rfl⟩ : ∃ m, k = m + 1 := ⟨k - 1, by omega⟩
    unfold linotypelaw27_LayoutMoves.l1
    rw [if_neg (by omega)]
  | succ d ih =>
    intro j k hj hk
    obtain ⟨k, rfl⟩ : ∃ m, k = m + 1 := ⟨k - 1, by omega⟩
    unfold linotypelaw27_LayoutMoves.l1
    rw [if_pos (by omega), if_pos (by omega), if_pos (by omega), if_pos (h j (by omega)), wrap_succ j (by omega)]
    exact ih (j + 1) k (by omega) (by omega)
/-- The two answers go together. -/
structure Alike (p q : Int) (ra rb : List Int × List Bool × Int × Int) : Prop where
  e : ra.2.2.2 = rb.2.2.2
  l : ra.1.length = rb.1.length
  n : ra.2.1 = rb.2.1
  s : ra.2.2.1 = rb.2.2.1
  m : ra.1.length ≤ 1000 ∧ ra.2.1.length ≤ 1000
  w : ∀ j : Nat, j < ra.1.length → wrap64 (rd ra.1 (j : Int) - p) = wrap64 (rd rb.1 (j : Int) - q)
theorem end_eq (l : List S52) (a b : Int) (k : Nat) (hk : 1100 ≤ k) (h : ∀ p q, 0 ≤ p → p < 140737488355328 → 0 ≤ q → q < 140737488355328 → ∃ ra rb, XLay.layout_Plan.f l p = some ra ∧ XLay.layout_Plan.f l q = some rb ∧ Alike p q ra rb) :
    linotypelaw27_LayoutMoves.l0 k l a b true (l.length : Int) = some true := by
  obtain ⟨k, rfl⟩ : ∃ m, k = m + 1 := ⟨k - 1, by omega⟩
  obtain ⟨p, hp, p0, p1⟩ := pick_eq a
  obtain ⟨q, hq, q0, q1⟩ := pick_eq b
  obtain ⟨⟨a1, a2, a3, a4⟩, ⟨b1, b2, b3, b4⟩, h1, h2, H⟩ := h p q p0 p1 q0 q1
  obtain ⟨e1, e2, e3, e4, e5, e6⟩ := H
  simp only at e1 e2 e3 e4 e5 e6
  subst e1 e3 e4
  unfold linotypelaw27_LayoutMoves.l0
  rw [if_neg (by omega), hp]
  simp only [Option.bind_some]
  rw [hq]
  simp only [Option.bind_some]
  rw [h1]
  simp only [Option.bind_some]
  rw [h2]
  simp only [Option.bind_some]
  rw [if_pos trivial, if_pos (by omega), bools_eq a2 (by omega) k (by omega)]
  simp only [Option.bind_some]
  rw [if_pos trivial]
  obtain ⟨k, rfl⟩ : ∃ m, k = m + 1 := ⟨k - 1, by omega⟩
  rw [linotypelaw27_LayoutMoves.j1]
  rw [if_neg (by simp)]
  exact l1_eq p q a1 b1 a2 a3 a2 a3 e2 (by omega) e6 a1.length 0 k (by omega) (by omega)
theorem l0_eq (l : List S52) (a b : Int) (hn : l.length ≤ 200) (h : (∀ j : Nat, j < l.length → (rd_T52 l (j : Int)).f0 ≠ 3) → ∀ k, 1100 ≤ k → linotypelaw27_LayoutMoves.l0 k l a b true (l.length : Int) = some true) : ∀ d j k : Nat, j + d = l.length → d + 1100 ≤ k → (∀ i : Nat, i < j → (rd_T52 l (i : Int)).f0 ≠ 3) → linotypelaw27_LayoutMoves.l0 k l a b true (j : Int) = some true := by
  intro d
  induction d with
  | zero =>
    intro j k hj hk hi
    obtain rfl : j = l.length := by omega
    exact h hi k (by omega)
  | succ d ih =>
    intro j k hj hk hi
    obtain ⟨k, rfl⟩ : ∃ m, k = m + 1 := ⟨k - 1, by omega⟩
    unfold linotypelaw27_LayoutMoves.l0
    rw [if_pos (by omega), if_pos (by omega)]
    by_cases h3 : (rd_T52 l (j : Int)).f0 = 3
    · rw [if_pos h3]
    · rw [if_neg h3, wrap_succ j (by omega)]
      refine ih (j + 1) k (by omega) (by omega) fun i hij => ?_
      rcases Nat.lt_succ_iff_lt_or_eq.1 hij with g | rfl
      · exact hi i g
      · exact h3
theorem law_of (l : List S52) (a b : Int) (h : l.length ≤ 200 → (∀ j : Nat, j < l.length → (rd_T52 l (j : Int)).f0 ≠ 3) → ∀ p q, 0 ≤ p → p < 140737488355328 → 0 ≤ q → q < 140737488355328 → ∃ ra rb, XLay.layout_Plan.f l p = some ra ∧ XLay.layout_Plan.f l q = some rb ∧ Alike p q ra rb) :
    ∃ k, linotypelaw27_LayoutMoves.f k l a b = some true := by
  refine ⟨2000, ?_⟩
  unfold linotypelaw27_LayoutMoves.f
  rw [awake_eq 2000 (by omega)]
  simp only [Option.bind_some]
  by_cases hn : (l.length : Int) > 200
  · rw [if_pos hn]
  · rw [if_neg hn]
    exact l0_eq l a b (by omega) (fun h3 k hk => end_eq l a b k hk (h (by omega) h3)) l.length 0 2000 (by omega) (by omega) (fun i hi => absurd hi (by omega))
/-- Nothing is aligned. -/
def NoAl (ps : List PV) : Prop := ∀ j, j < ps.length → ∀ n, ps.getD j (.fix 0) ≠ .al n
theorem pos_move {ps : List PV} (hA : NoAl ps) (near : List Bool) (p q : Int) : ∀ i, i ≤ ps.length → posL ps near p i - p = posL ps near q i - q := by
  intro i
  induction i with
  | zero => intro _; show p - p = q - q; omega
  | succ i ih =>
    intro hi
    have h1 := ih (by omega)
    rw [posL_succ, posL_succ]
    have : szP (ps.getD i (.fix 0)) (near.getD i false) (posL ps near p i) = szP (ps.getD i (.fix 0)) (near.getD i false) (posL ps near q i) := by
      cases hv : ps.getD i (.fix 0) with
      | fix z => rfl
      | br s n t o => rfl
      | al n => exact absurd hv (hA i (by omega) n)
    omega
theorem dst_move {ps : List PV} (hA : NoAl ps) (near : List Bool) (p q : Int) (t off : Int) (i : Nat) (ht : t.toNat ≤ ps.length) (hi : i < ps.length) : dst ps near p t off i = dst ps near q t off i := by
  unfold dst
  have h1 := pos_move hA near p q t.toNat ht
  have h2 := pos_move hA near p q (i + 1) (by omega)
  omega
theorem late_move {ps : List PV} {p q : Int} (hA : NoAl ps) (H : Fine ps p) (near : List Bool) (i : Nat) (hi : i < ps.length) : lateB ps near p i = lateB ps near q i := by
  have hok := H.ok i hi
  unfold lateB
  cases hv : ps.getD i (.fix 0) with
  | fix z => rfl
  | al n => rfl
  | br s n t off =>
    rw [hv] at hok
    obtain ⟨_, _, _, h1, h2, h3⟩ := hok
    simp only []
    rw [dst_move hA near p q t off i (by omega) hi]
theorem fit_move {ps : List PV} {p q : Int} (hA : NoAl ps) (H : Fine ps p) (near : List Bool) (i : Nat) (hi : i < ps.length) : fitB ps near p i = fitB ps near q i := by
  have hok := H.ok i hi
  unfold fitB
  cases hv : ps.getD i (.fix 0) with
  | fix z => rfl
  | al n => rfl
  | br s n t off =>
    rw [hv] at hok
    obtain ⟨_, _, _, h1, h2, h3⟩ := hok
    simp only []
    rw [dst_move hA near p q t off i (by omega) hi]
theorem ext_bool {xs ys : List Bool} (hl : xs.length = ys.length) (h : ∀ j, xs.getD j false = ys.getD j false) : xs = ys := List.ext_getElem hl fun i h1 h2 => by
  have := h i
  simpa [List.getD_eq_getElem?_getD, h1, h2] using this
theorem F_move {ps : List PV} {p q : Int} (hA : NoAl ps) (H : Fine ps p) (G : Fine ps q) (near : List Bool) (hl : near.length = ps.length) : F ps p near = F ps q near := by
  refine ext_bool (by rw [F_len, F_len]) fun j => ?_
  rw [F_get _ _ _ hl, F_get _ _ _ hl]
  by_cases hj : j < ps.length
  · rw [late_eq H near j hj, late_eq G near j hj, late_move (q := q) hA H near j hj]
  · simp only [hj, decide_false, Bool.false_and]
theorem plan_move {ps : List PV} {p q : Int} (hA : NoAl ps) (H : Fine ps p) (G : Fine ps q) : ∀ (k : Nat) (near : List Bool) (c : Int), near.length = ps.length →
    (planL ps p k near c = none ∧ planL ps q k near c = none) ∨ ∃ nr c', nr.length = ps.length ∧ planL ps p k near c = some (lieL ps nr p ps.length, nr, c') ∧ planL ps q k near c = some (lieL ps nr q ps.length, nr, c') := by
  intro k
  induction k with
  | zero => intro near c _; exact .inl ⟨rfl, rfl⟩
  | succ k ih =>
    intro near c hl
    rw [planL_succ, planL_succ]
    have hF := F_move hA H G near hl
    unfold F at hF
    rw [← hF]
    split
    · exact .inr ⟨near, _, hl, rfl, rfl⟩
    · exact ih _ _ (by rw [nearL_len]; exact hl)
theorem noAl_of {l : List S52} {ps : List PV} (h : allP (l.length : Int) l = some ps) (h3 : ∀ j : Nat, j < l.length → (rd_T52 l (j : Int)).f0 ≠ 3) : NoAl ps := by
  intro j hj n hv
  have hl := allP_len _ _ _ h
  have := (allP_inv _ l ps h j (by omega)).2
  rw [hv] at this
  have h4 := h3 j (by omega)
  rw [rd_eq l j (by omega), this] at h4
  exact h4 rfl
theorem LayoutMoves (l : List S52) (a b : Int) (_ : ∀ x ∈ l, LayLaw0.WS x) (_ : LayLaw0.W64 a) (_ : LayLaw0.W64 b) : ∃ k, linotypelaw27_LayoutMoves.f k l a b = some true := by
  refine law_of l a b fun hn h3 p q p0 p1 q0 q1 => ?_
  cases h : allP (l.length : Int) l with
  | none => exact ⟨_, _, PureLay.Plan_none p hn h, PureLay.Plan_none q hn h, ⟨rfl, rfl, rfl, rfl, by decide, fun j hj => absurd hj (by simp)⟩⟩
  | some ps =>
    have hl := allP_len _ _ _ h
    have H := fine_of hn h p0 (by omega)
    have G := fine_of hn h q0 (by omega)
    have hA := noAl_of h h3
    obtain ⟨nr0, c0, e0, _⟩ := planL_rep ps p (by omega) (fun _ => True) (fun _ _ _ => trivial) trivial
    rcases plan_move hA H G (ps.length + 2) (List.replicate ps.length false) 0 (by simp) with ⟨hno, _⟩ | ⟨nr, c, hnr, e1, e2⟩
    · rw [hno] at e0; cases e0
    · refine ⟨_, _, Plan_in hn h ⟨p0, by omega⟩ e1, Plan_in hn h ⟨q0, by omega⟩ e2, ?_⟩
      have r1 := lie_pos H nr ps.length (Nat.le_refl _)
      have r2 := lie_pos G nr ps.length (Nat.le_refl _)
      have hm := pos_move hA nr p q ps.length (Nat.le_refl _)
      have hfit : fitsP ps p nr = fitsP ps q nr := by
        rw [Bool.eq_iff_iff, fitsP_iff H, fitsP_iff G]
        constructor
        · intro g j hj; rw [← fit_move (q := q) hA H nr j hj]; exact g j hj
        · intro g j hj; rw [fit_move (q := q) hA H nr j hj]; exact g j hj
      unfold planT
      simp only []
      rw [r1, r2, hm, hfit]
      split
      · exact ⟨rfl, rfl, rfl, rfl, by decide, fun j hj => absurd hj (by simp)⟩
      · split
        · refine ⟨rfl, by rw [lieL_len, lieL_len], rfl, rfl, ⟨by rw [lieL_len]; omega, by show nr.length ≤ 1000; omega⟩, fun j hj => ?_⟩
          rw [lieL_len] at hj
          simp only []
          rw [lie_pos H nr j (by omega), lie_pos G nr j (by omega), pos_move hA nr p q j (by omega)]
        · exact ⟨rfl, rfl, rfl, rfl, by decide, fun j hj => absurd hj (by simp)⟩
end Go.Proofs.Ytlmpecahmmgphaa.PureLm
