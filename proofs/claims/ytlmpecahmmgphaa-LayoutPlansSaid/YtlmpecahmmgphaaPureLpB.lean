/- The reference's plan is layout's. -/
import Derived.Test.YtlmpecahmmgphaaPureLpA
namespace Go.Proofs.Ytlmpecahmmgphaa.PureLp
open Go.RowKit Go.Proofs.Ytlmpecahmmgphaa.Lay Go.Proofs.Ytlmpecahmmgphaa.PureLay Go.Proofs.Ytlmpecahmmgphaa.Math Go.Proofs.YtlmpecahmmgphaaW.PrintWords Go.Proofs.YtlmpecahmmgphaaW.PrintLast Go.Proofs.YtlmpecahmmgphaaW.PrintMore
open Go.Proofs.Ytlmpecahmmgphaa.XLay hiding layout_Plan.f layout_Check.f layout_Fits.f
set_option linter.unusedVariables false
set_option linter.unusedSimpArgs false
def InS (l : List S52) : Prop := ∀ x ∈ l, -9223372036854775808 ≤ x.f2 ∧ x.f2 ≤ 9223372036854775807
theorem check_l0 (l : List S52) (hn : l.length ≤ 200) (hw : InS l) : ∀ d j k : Nat, j + d = l.length → d + 30 ≤ k → linotyperef27_Check.l0 k l (j : Int) = some (if (allP (l.length : Int) (l.drop j)).isSome = true then 0 else 2) := by
  intro d
  induction d with
  | zero =>
    intro j k hj hk
    obtain ⟨k, rfl⟩ : ∃ m, k = m + 1 := ⟨k - 1, by omega⟩
    rw [linotyperef27_Check.l0, if_neg (by omega), List.drop_of_length_le (by omega)]
    rfl
  | succ d ih =>
    intro j k hj hk
    obtain ⟨k, rfl⟩ : ∃ m, k = m + 1 := ⟨k - 1, by omega⟩
    have hjl : j < l.length := by omega
    rw [linotyperef27_Check.l0, if_pos (by omega), if_pos (by omega), rd_eq l j hjl, one_eq k (by omega) _ _ _ _ _ _ _ _ (hw _ (List.getElem_mem hjl)), wrap_succ j (by omega)]
    simp only [Option.bind_some]
    rw [List.drop_eq_getElem_cons hjl, ih (j + 1) k (by omega) (by omega)]
    simp only [allP]
    have hc : ∀ x : Option PV, x = none ∨ ∃ v, x = some v := fun x => by cases x with
      | none => exact .inl rfl
      | some v => exact .inr ⟨v, rfl⟩
    rcases hc (ofP l[j].f0 l[j].f1 l[j].f2 l[j].f3 l[j].f4 l[j].f5 l[j].f6 (l.length : Int)) with hof | ⟨v, hof⟩
    · simp [hof]
    · simp only [hof, Option.isSome_some, if_true, Option.bind_some]
      cases allP (l.length : Int) (l.drop (j + 1)) <;> rfl
theorem check_eq (l : List S52) (hn : l.length ≤ 200) (hw : InS l) (k : Nat) (hk : 300 ≤ k) : linotyperef27_Check.f k l = some (if (allP (l.length : Int) l).isSome = true then 0 else 2) := by
  unfold linotyperef27_Check.f
  rw [if_neg (by omega)]
  have := check_l0 l hn hw l.length 0 k (by omega) (by omega)
  rw [List.drop_zero] at this
  exact this
theorem size_eq {l : List S52} {ps : List PV} {o : Int} (hn : l.length ≤ 200) (h : allP (l.length : Int) l = some ps) (i : Nat) (hi : i < l.length) (e : Int) (nb : Bool) (h0 : 0 ≤ e) (he : e ≤ 1125899906842624) :
    linotyperef27_size.f l[i].f0 l[i].f1 l[i].f2 l[i].f3 l[i].f4 l[i].f5 l[i].f6 e nb = some (szP (ps.getD i (.fix 0)) nb e) := by
  have hi2 := allP_inv _ l ps h i hi
  unfold linotyperef27_size.f
  cases hv : ps.getD i (.fix 0) with
  | fix z =>
    rw [hv] at hi2
    rw [hi2.2]
    rfl
  | br s n t off =>
    rw [hv] at hi2
    rw [hi2.2]
    cases nb <;> rfl
  | al n =>
    rw [hv] at hi2
    obtain ⟨h1, h2, h3⟩ := hi2.1
    rw [hi2.2, if_neg (by simp), if_pos rfl, if_neg (by simp; omega)]
    have hm := Int.emod_nonneg e (show n ≠ 0 by omega)
    have hm2 := Int.emod_lt_of_pos e (show 0 < n by omega)
    simp only []
    rw [Int.tmod_eq_emod_of_nonneg h0, w64 _ (by omega) (by omega), Int.tmod_eq_emod_of_nonneg (by omega)]
    rfl
theorem lie_l0 {l : List S52} {ps : List PV} {o : Int} (hn : l.length ≤ 200) (h : allP (l.length : Int) l = some ps) (H : Fine ps o) (near : List Bool) (hr : near.length = l.length) : ∀ d i k : Nat, i + d = l.length → d < k → linotyperef27_lie.l0 k l near (lieL ps near o i) (i : Int) = some (lieL ps near o l.length) := by
  have hl := allP_len _ _ _ h
  intro d
  induction d with
  | zero =>
    intro i k hi hk
    obtain ⟨k, rfl⟩ : ∃ m, k = m + 1 := ⟨k - 1, by omega⟩
    obtain rfl : i = l.length := by omega
    rw [linotyperef27_lie.l0, if_neg (by omega)]
  | succ d ih =>
    intro i k hi hk
    obtain ⟨k, rfl⟩ : ∃ m, k = m + 1 := ⟨k - 1, by omega⟩
    have hil : i < l.length := by omega
    have hlen := lieL_len ps near o i
    have hrd := lie_rd H near i (by omega) i (Nat.le_refl _)
    have hb := pos_bd H near i (by omega)
    have o0 := H.o0
    have o1 := H.o1
    have r1 : rdOf false near (i : Int) = near.getD i false := by simp [rdOf]
    have hst := step_eq _ _ (near.getD i false) (posL ps near o i) (H.ok i (by omega)) (by omega) (by omega)
    rw [linotyperef27_lie.l0, if_pos (by omega), if_pos (by omega), if_pos (by omega), if_pos (by omega), rd_eq l i hil, hrd, r1, size_eq (o := o) hn h i hil _ _ (by omega) (by omega)]
    simp only [Option.bind_some]
    rw [if_pos (by omega), wrap_succ i (by omega), w64 _ (by omega) (by omega), ← hst.1]
    have := ih (i + 1) k (by omega) (by omega)
    rw [lieL_succ, hrd] at this
    exact this
theorem lie_f {l : List S52} {ps : List PV} {o : Int} (hn : l.length ≤ 200) (h : allP (l.length : Int) l = some ps) (H : Fine ps o) (near : List Bool) (hr : near.length = l.length) (k : Nat) (hk : 201 < k) : linotyperef27_lie.f k l o near = some (lieL ps near o ps.length) := by
  have hl := allP_len _ _ _ h
  rw [hl]
  exact lie_l0 hn h H near hr l.length 0 k (by omega) (by omega)
theorem dist_eq {l : List S52} {ps : List PV} {o : Int} (hn : l.length ≤ 200) (h : allP (l.length : Int) l = some ps) (i : Nat) (hi : i < l.length) (at_ : List Int) (ha : at_.length = ps.length + 1) (s n t off : Int) (hv : ps.getD i (.fix 0) = .br s n t off) :
    linotyperef27_distance.f l[i].f0 l[i].f1 l[i].f2 l[i].f3 l[i].f4 l[i].f5 l[i].f6 at_ (i : Int) = some (wrap64 (wrap64 (rd at_ t + off) - rd at_ ((i : Int) + 1))) := by
  have hl := allP_len _ _ _ h
  have hi2 := allP_inv _ l ps h i hi
  rw [hv] at hi2
  obtain ⟨_, _, _, h1, h2, _⟩ := hi2.1
  rw [hi2.2]
  unfold linotyperef27_distance.f
  simp only []
  rw [if_pos h1, if_pos (by omega), wrap_succ i (by omega), if_pos (by omega), if_pos (by omega)]
  simp
theorem kind_br {l : List S52} {ps : List PV} (h : allP (l.length : Int) l = some ps) (i : Nat) (hi : i < l.length) : l[i].f0 = 2 ↔ ∃ s n t off, ps.getD i (.fix 0) = .br s n t off := by
  have hi2 := (allP_inv _ l ps h i hi).2
  cases hv : ps.getD i (.fix 0) with
  | fix z => rw [hv] at hi2; rw [hi2]; simp
  | br s n t off => rw [hv] at hi2; rw [hi2]; simp
  | al n => rw [hv] at hi2; rw [hi2]; simp
theorem pass_l0 {l : List S52} {ps : List PV} {o : Int} (hn : l.length ≤ 200) (h : allP (l.length : Int) l = some ps) (near : List Bool) (hr : near.length = l.length) (at_ : List Int) (ha : at_.length = ps.length + 1) : ∀ d i k : Nat, i + d = l.length → d < k →
    linotyperef27_pass.l0 k l (nearL ps at_ near i) at_ (decide (near ≠ nearL ps at_ near i)) (i : Int) = some (at_, decide (near ≠ nearL ps at_ near l.length), nearL ps at_ near l.length) := by
  have hl := allP_len _ _ _ h
  intro d
  induction d with
  | zero =>
    intro i k hi hk
    obtain ⟨k, rfl⟩ : ∃ m, k = m + 1 := ⟨k - 1, by omega⟩
    obtain rfl : i = l.length := by omega
    rw [linotyperef27_pass.l0, if_neg (by omega)]
  | succ d ih =>
    intro i k hi hk
    obtain ⟨k, rfl⟩ : ∃ m, k = m + 1 := ⟨k - 1, by omega⟩
    have hil : i < l.length := by omega
    have hnext := ih (i + 1) k (by omega) (by omega)
    have hlen := nearL_len ps at_ near i
    have hget := nearL_get ps at_ near i (by omega) i
    simp only [show ¬ i < i by omega, decide_false, Bool.false_and, Bool.or_false] at hget
    have r1 : rdOf false (nearL ps at_ near i) (i : Int) = near.getD i false := by rw [← hget]; simp [rdOf]
    have hs := nearL_succ ps at_ near i
    have hk2 := kind_br h i hil
    rw [linotyperef27_pass.l0, if_pos (by omega), if_pos (by omega), rd_eq l i hil, wrap_succ i (by omega), r1]
    by_cases hb : ∃ s n t off, ps.getD i (.fix 0) = .br s n t off
    · obtain ⟨s, n, t, off, hv⟩ := hb
      rw [if_pos (hk2.2 ⟨s, n, t, off, hv⟩), if_pos (by omega)]
      cases hnb : near.getD i false with
      | true =>
        rw [if_pos rfl]
        rw [hget, hnb, if_neg (fun g => absurd g.1 (by decide))] at hs
        rw [hs] at hnext
        exact hnext
      | false =>
        rw [if_neg (by decide), dist_eq (o := o) hn h i hil at_ ha s n t off hv]
        simp only [Option.bind_some]
        rw [rfits_eq _ 8 (.inl rfl), fits_some _ 8 (.inl rfl)]
        simp only [Option.bind_some]
        have hlate : lateP at_ (ps.getD i (.fix 0)) i = !reachP at_ t off i 8 := by rw [hv]; rfl
        have hre : (field_Fits.f (wrap64 (wrap64 (rd at_ t + off) - rd at_ ((i : Int) + 1))) 8).getD false = reachP at_ t off i 8 := rfl
        rw [hre]
        rw [hget, hnb, hlate] at hs
        cases hq : reachP at_ t off i 8 with
        | true =>
          rw [if_pos rfl]
          rw [hq, if_neg (fun g => absurd g.2 (by decide))] at hs
          rw [hs] at hnext
          exact hnext
        | false =>
          rw [if_neg (by decide)]
          rw [hq, if_pos ⟨rfl, rfl⟩] at hs
          have hne : near ≠ nearL ps at_ near (i + 1) := fun g => by
            have e1 : near.getD i false = (nearL ps at_ near (i + 1)).getD i false := by rw [← g]
            rw [hs, set_get _ _ _ _ (by omega), if_pos rfl, hnb] at e1
            cases e1
          rw [decide_eq_true hne, hs] at hnext
          simp only [Int.toNat_natCast]
          exact hnext
    · rw [if_neg (fun g => hb (hk2.1 g))]
      have hlate : lateP at_ (ps.getD i (.fix 0)) i = false := by
        cases hv : ps.getD i (.fix 0) with
        | fix z => rfl
        | al n => rfl
        | br s n t off => exact absurd ⟨s, n, t, off, hv⟩ hb
      rw [hlate, if_neg (fun g => absurd g.2 (by decide))] at hs
      rw [hs] at hnext
      exact hnext
theorem pass_f {l : List S52} {ps : List PV} {o : Int} (hn : l.length ≤ 200) (h : allP (l.length : Int) l = some ps) (H : Fine ps o) (near : List Bool) (hr : near.length = l.length) (k : Nat) (hk : 202 < k) :
    linotyperef27_pass.f k l o near = some (lieL ps near o ps.length, decide (near ≠ F ps o near), F ps o near) := by
  have hl := allP_len _ _ _ h
  unfold linotyperef27_pass.f
  rw [lie_f hn h H near hr k (by omega)]
  simp only [Option.bind_some]
  have := pass_l0 (o := o) hn h near hr (lieL ps near o ps.length) (lieL_len _ _ _ _) l.length 0 k (by omega) (by omega)
  rw [← hl] at this
  have e : decide (near ≠ nearL ps (lieL ps near o ps.length) near 0) = false := by simp [nearL]
  rw [e] at this
  exact this
theorem fits_l0 {l : List S52} {ps : List PV} {o : Int} (hn : l.length ≤ 200) (h : allP (l.length : Int) l = some ps) (near : List Bool) (hr : near.length = l.length) (at_ : List Int) (ha : at_.length = ps.length + 1) : ∀ d i k : Nat, i + d = l.length → 2 * d < k →
    (∀ j, j < i → fitP at_ (ps.getD j (.fix 0)) (near.getD j false) j = true) → linotyperef27_Fits.l0 k l near at_ (i : Int) = some (fitsL ps near at_ l.length) := by
  have hl := allP_len _ _ _ h
  intro d
  induction d with
  | zero =>
    intro i k hi hk hf
    obtain ⟨k, rfl⟩ : ∃ m, k = m + 1 := ⟨k - 1, by omega⟩
    obtain rfl : i = l.length := by omega
    rw [linotyperef27_Fits.l0, if_neg (by omega), (fitsL_iff ps near at_ l.length).2 hf]
  | succ d ih =>
    intro i k hi hk hf
    obtain ⟨k, rfl⟩ : ∃ m, k = m + 2 := ⟨k - 2, by omega⟩
    have hil : i < l.length := by omega
    have hnext := ih (i + 1) k (by omega) (by omega)
    have r1 : rdOf false near (i : Int) = near.getD i false := by simp [rdOf]
    have hk2 := kind_br h i hil
    have good : fitP at_ (ps.getD i (.fix 0)) (near.getD i false) i = true → linotyperef27_Fits.l0 k l near at_ ((i + 1 : Nat) : Int) = some (fitsL ps near at_ l.length) := fun g => hnext fun j hj => by
      rcases Nat.lt_succ_iff_lt_or_eq.1 hj with g2 | rfl
      · exact hf j g2
      · exact g
    have bad : fitP at_ (ps.getD i (.fix 0)) (near.getD i false) i = false → fitsL ps near at_ l.length = false := fun g => by
      have e1 : fitsL ps near at_ (i + 1) = false := by rw [fitsL_succ, g, Bool.and_false]
      have e2 := fitsL_false ps near at_ (i + 1) (l.length - (i + 1)) e1
      rwa [show i + 1 + (l.length - (i + 1)) = l.length by omega] at e2
    have j2e : ∀ b : Int, (b = 8 ∨ b = 32) → b = (if near.getD i false = true then 32 else 8) → linotyperef27_Fits.j2 (k + 1) l near at_ (i : Int) b = some (fitsL ps near at_ l.length) := fun b hb hbe => by
      rw [linotyperef27_Fits.j2, if_pos (by omega), if_pos (by omega), rd_eq l i hil, wrap_succ i (by omega)]
      by_cases hbr : ∃ s n t off, ps.getD i (.fix 0) = .br s n t off
      · obtain ⟨s, n, t, off, hv⟩ := hbr
        rw [if_pos (hk2.2 ⟨s, n, t, off, hv⟩), dist_eq (o := o) hn h i hil at_ ha s n t off hv]
        simp only [Option.bind_some]
        rw [rfits_eq _ b hb, fits_some _ b hb]
        simp only [Option.bind_some]
        have hre : (field_Fits.f (wrap64 (wrap64 (rd at_ t + off) - rd at_ ((i : Int) + 1))) b).getD false = reachP at_ t off i b := rfl
        rw [hre]
        have hfp : fitP at_ (ps.getD i (.fix 0)) (near.getD i false) i = reachP at_ t off i b := by rw [hv, hbe]; rfl
        rw [hfp] at good bad
        cases hq : reachP at_ t off i b with
        | true => rw [if_pos rfl]; exact good hq
        | false => rw [if_neg (by decide), bad hq]
      · rw [if_neg (fun g => hbr (hk2.1 g))]
        refine good ?_
        cases hv : ps.getD i (.fix 0) with
        | fix z => rfl
        | al n => rfl
        | br s n t off => exact absurd ⟨s, n, t, off, hv⟩ hbr
    rw [linotyperef27_Fits.l0, if_pos (by omega), if_pos (by omega), if_pos (by omega), r1]
    cases hnb : near.getD i false with
    | true => rw [if_pos rfl]; exact j2e 32 (.inr rfl) (by rw [hnb]; rfl)
    | false => rw [if_neg (by decide)]; exact j2e 8 (.inl rfl) (by rw [hnb]; rfl)
theorem fits_f {l : List S52} {ps : List PV} {o : Int} (hn : l.length ≤ 200) (hw : InS l) (h : allP (l.length : Int) l = some ps) (H : Fine ps o) (near : List Bool) (hr : near.length = l.length) (k : Nat) (hk : 600 ≤ k) :
    linotyperef27_Fits.f k l o near = some (fitsP ps o near) := by
  have hl := allP_len _ _ _ h
  obtain ⟨k, rfl⟩ : ∃ m, k = m + 1 := ⟨k - 1, by omega⟩
  unfold linotyperef27_Fits.f
  rw [check_eq l hn hw (k + 1) (by omega), h]
  simp only [Option.bind_some, Option.isSome_some, if_true]
  rw [within_eq, decide_eq_true ⟨H.o0, H.o1⟩]
  simp only [Option.bind_some, if_true]
  have e : ((near.length : Int) != (l.length : Int)) = false := by rw [hr]; simp
  rw [e, linotyperef27_Fits.j0, if_neg (by decide), lie_f hn h H near hr k (by omega)]
  simp only [Option.bind_some]
  have := fits_l0 (o := o) hn h near hr (lieL ps near o ps.length) (lieL_len _ _ _ _) l.length 0 k (by omega) (by omega) (fun j hj => absurd hj (by omega))
  rw [← hl] at this
  exact this
theorem plan_l0 {l : List S52} {ps : List PV} {o : Int} (hn : l.length ≤ 200) (hw : InS l) (h : allP (l.length : Int) l = some ps) (H : Fine ps o) : ∀ (d : Nat) (near : List Bool) (p : Int) (at0 : List Int) (x : List Int × List Bool × Int) (k : Nat), near.length = l.length → planL ps o d near p = some x → d + 700 ≤ k →
    linotyperef27_Plan.l0 k l o true at0 near p = some (planT ps o x) := by
  have hl := allP_len _ _ _ h
  intro d
  induction d with
  | zero => intro near p at0 x k _ hx; simp [planL] at hx
  | succ d ih =>
    intro near p at0 x k hr hx hk
    obtain ⟨k, rfl⟩ : ∃ m, k = m + 2 := ⟨k - 2, by omega⟩
    rw [planL_succ, show nearL ps (lieL ps near o ps.length) near ps.length = F ps o near from rfl] at hx
    rw [linotyperef27_Plan.l0, if_pos rfl, pass_f hn h H near hr (k + 1) (by omega)]
    simp only [Option.bind_some]
    by_cases e : near = F ps o near
    · rw [if_pos e] at hx
      obtain rfl := Option.some.inj hx
      rw [decide_eq_false (fun g => g e), linotyperef27_Plan.l0, if_neg (by decide), if_pos (by omega), if_pos (by rw [lieL_len]; omega), ← e]
      unfold planT
      simp only []
      rw [← hl]
      by_cases g : wrap64 (rd (lieL ps near o ps.length) (ps.length : Int) - o) > 1048576
      · rw [if_pos g, if_pos g]
      · rw [if_neg g, if_neg g, fits_f hn hw h H near hr k (by omega)]
        simp only [Option.bind_some]
        split <;> rfl
    · rw [if_neg e] at hx
      rw [decide_eq_true e]
      exact ih (F ps o near) _ _ x (k + 1) (by rw [F_len]; exact hr) hx (by omega)
theorem plan_f (l : List S52) (o : Int) (hn : l.length ≤ 200) (hw : InS l) (k : Nat) (hk : 1000 ≤ k) : ∃ r, XLay.layout_Plan.f l o = some r ∧ linotyperef27_Plan.f k l o = some r ∧ r.1.length ≤ 1000 ∧ r.2.1.length ≤ 1000 := by
  unfold linotyperef27_Plan.f
  rw [check_eq l hn hw k (by omega)]
  cases h : allP (l.length : Int) l with
  | none =>
    refine ⟨_, PureLay.Plan_none o hn h, ?_, by decide, by decide⟩
    simp
  | some ps =>
    have hl := allP_len _ _ _ h
    simp only [Option.bind_some, Option.isSome_some, if_true]
    rw [within_eq]
    by_cases ho : 0 ≤ o ∧ o ≤ 140737488355328
    · have H := fine_of hn h ho.1 ho.2
      obtain ⟨nr, p, e1, e2, _⟩ := planL_rep ps o (by omega) (fun _ => True) (fun _ _ _ => trivial) trivial
      refine ⟨_, Plan_in hn h ho e1, ?_, ?_, ?_⟩
      · rw [decide_eq_true ho]
        simp only [Option.bind_some, if_true]
        rw [if_pos (by omega), if_pos (by omega), Int.toNat_natCast, ← hl]
        rw [hl]
        rw [hl] at e1
        exact plan_l0 hn hw h H (l.length + 2) _ 0 [] _ k (by simp) e1 (by omega)
      · unfold planT
        simp only []
        split
        · decide
        · split
          · show (lieL ps nr o ps.length).length ≤ 1000
            rw [lieL_len]; omega
          · decide
      · unfold planT
        simp only []
        split
        · decide
        · split
          · show nr.length ≤ 1000; omega
          · decide
    · refine ⟨_, Plan_out hn h ho, ?_, by decide, by decide⟩
      rw [decide_eq_false ho]
      simp
end Go.Proofs.Ytlmpecahmmgphaa.PureLp
