/- The law LayoutPlans, over numbers and lists. -/
import Derived.Test.YtlmpecahmmgphaaPureLpB
import Derived.Test.YtlmpecahmmgphaaXLayx18
import Derived.Test.YtlmpecahmmgphaaLayLaw0
namespace Go.Proofs.Ytlmpecahmmgphaa.PureLp
open Go.RowKit Go.Proofs.Ytlmpecahmmgphaa.Lay Go.Proofs.Ytlmpecahmmgphaa.PureLay Go.Proofs.Ytlmpecahmmgphaa.Math Go.Proofs.YtlmpecahmmgphaaW.PrintWords Go.Proofs.YtlmpecahmmgphaaW.PrintLast Go.Proofs.YtlmpecahmmgphaaW.PrintMore
open Go.Proofs.Ytlmpecahmmgphaa.XLay hiding layout_Plan.f layout_Check.f layout_Fits.f
set_option linter.unusedVariables false
set_option linter.unusedSimpArgs false
theorem awake_eq (k : Nat) (h : 40 ≤ k) : linotypelaw27_awake.f k = some true := at_rounds (g := fun k => linotypelaw27_awake.f k) (linotypelaw27_awake.mono) h (by decide +kernel)
theorem bools_l0 (l0 : List Bool) (h20 : l0.length ≤ 20000) : ∀ d j k : Nat, j + d = l0.length → d < k → linotypekit_SameBools.l0 k l0 l0 (j : Int) = some true := by
  intro d
  induction d with
  | zero =>
    intro j k hj hk
    obtain ⟨k, rfl⟩ : ∃ m, k = m + 1 := ⟨k - 1, by omega⟩
    rw [linotypekit_SameBools.l0, if_neg (by omega)]
  | succ d ih =>
    intro j k hj hk
    obtain ⟨k, rfl⟩ : ∃ m, k = m + 1 := ⟨k - 1, by omega⟩
    rw [linotypekit_SameBools.l0, if_pos (by omega), if_pos (by omega), if_pos (by omega), if_neg (by simp), wrap_succ j (by omega)]
    exact ih (j + 1) k (by omega) (by omega)
theorem ints_l0 (l0 : List Int) (h20 : l0.length ≤ 20000) : ∀ d j k : Nat, j + d = l0.length → d < k → linotypekit_SameInts.l0 k l0 l0 (j : Int) = some true := by
  intro d
  induction d with
  | zero =>
    intro j k hj hk
    obtain ⟨k, rfl⟩ : ∃ m, k = m + 1 := ⟨k - 1, by omega⟩
    rw [linotypekit_SameInts.l0, if_neg (by omega)]
  | succ d ih =>
    intro j k hj hk
    obtain ⟨k, rfl⟩ : ∃ m, k = m + 1 := ⟨k - 1, by omega⟩
    rw [linotypekit_SameInts.l0, if_pos (by omega), if_pos (by omega), if_pos (by omega), if_pos rfl, wrap_succ j (by omega)]
    exact ih (j + 1) k (by omega) (by omega)
theorem pieces_l0 (l0 : List S52) (h20 : l0.length ≤ 20000) : ∀ d j k : Nat, j + d = l0.length → d < k → linotypekit_SamePieces.l0 k l0 l0 (j : Int) = some true := by
  intro d
  induction d with
  | zero =>
    intro j k hj hk
    obtain ⟨k, rfl⟩ : ∃ m, k = m + 1 := ⟨k - 1, by omega⟩
    rw [linotypekit_SamePieces.l0, if_neg (by omega)]
  | succ d ih =>
    intro j k hj hk
    obtain ⟨k, rfl⟩ : ∃ m, k = m + 1 := ⟨k - 1, by omega⟩
    rw [linotypekit_SamePieces.l0, if_pos (by omega), if_pos (by omega), if_pos (by omega), if_neg (by simp), wrap_succ j (by omega)]
    exact ih (j + 1) k (by omega) (by omega)
theorem over_l0 : ∀ (d j k : Nat) (x : List Int), x.length ≤ 20000 → j + d = x.length → d < k → ∃ r, linotypekit_OverInts.l0 k x (j : Int) = some r := by
  intro d
  induction d with
  | zero =>
    intro j k x h20 hj hk
    obtain ⟨k, rfl⟩ : ∃ m, k = m + 1 := ⟨k - 1, by omega⟩
    exact ⟨x, by rw [linotypekit_OverInts.l0, if_neg (by omega)]⟩
  | succ d ih =>
    intro j k x h20 hj hk
    obtain ⟨k, rfl⟩ : ∃ m, k = m + 1 := ⟨k - 1, by omega⟩
    rw [linotypekit_OverInts.l0, if_pos (by omega), if_pos (by omega), wrap_succ j (by omega)]
    exact ih (j + 1) k _ (by rw [List.length_set]; omega) (by rw [List.length_set]; omega) (by omega)
theorem overp_l0 (at_ : List Int) (p : Int) : ∀ (d j k : Nat) (x : List Bool), x.length ≤ 20000 → j + d = x.length → d < k → ∃ r, linotypekit_OverPlan.l0 k (j : Int) at_ x p = some r := by
  intro d
  induction d with
  | zero =>
    intro j k x h20 hj hk
    obtain ⟨k, rfl⟩ : ∃ m, k = m + 1 := ⟨k - 1, by omega⟩
    exact ⟨(at_, x), by rw [linotypekit_OverPlan.l0, if_neg (by omega)]⟩
  | succ d ih =>
    intro j k x h20 hj hk
    obtain ⟨k, rfl⟩ : ∃ m, k = m + 1 := ⟨k - 1, by omega⟩
    rw [linotypekit_OverPlan.l0, if_pos (by omega), if_pos (by omega), wrap_succ j (by omega)]
    exact ih (j + 1) k _ (by rw [List.length_set]; omega) (by rw [List.length_set]; omega) (by omega)
theorem over_f (at_ : List Int) (near : List Bool) (p : Int) (h1 : at_.length ≤ 1000) (h2 : near.length ≤ 1000) (k : Nat) (hk : 1100 ≤ k) : ∃ r, linotypekit_OverPlan.f k at_ near p = some r := by
  unfold linotypekit_OverPlan.f linotypekit_OverInts.f
  obtain ⟨r, hr⟩ := over_l0 at_.length 0 k at_ (by omega) (by omega) (by omega)
  rw [show linotypekit_OverInts.l0 k at_ 0 = some r from hr]
  exact overp_l0 r p near.length 0 k near (by omega) (by omega) (by omega)
theorem sameplan (at_ : List Int) (near : List Bool) (p : Int) (h1 : at_.length ≤ 1000) (h2 : near.length ≤ 1000) (k : Nat) (hk : 1100 ≤ k) : linotypekit_SamePlan.f k at_ near p at_ near p = some true := by
  unfold linotypekit_SamePlan.f linotypekit_SameInts.f linotypekit_SameBools.f
  rw [if_pos rfl, if_pos rfl, show linotypekit_SameInts.l0 k at_ at_ 0 = some true from ints_l0 at_ (by omega) at_.length 0 k (by omega) (by omega), show linotypekit_SameBools.l0 k near near 0 = some true from bools_l0 near (by omega) near.length 0 k (by omega) (by omega)]
  simp
theorem samepieces (l : List S52) (hn : l.length ≤ 200) (k : Nat) (hk : 1100 ≤ k) : linotypekit_SamePieces.f k l l = some true := by
  unfold linotypekit_SamePieces.f
  rw [if_pos rfl]
  exact pieces_l0 l (by omega) l.length 0 k (by omega) (by omega)
theorem law_k (l : List S52) (a1 : Int) (hw : InS l) (k : Nat) (hk : 1100 ≤ k) : linotypelaw27_LayoutPlans.f k l a1 = some true := by
  unfold linotypelaw27_LayoutPlans.f
  by_cases hn : (l.length : Int) > 200
  · rw [if_pos hn]
  · have hn2 : l.length ≤ 200 := by omega
    have hc : linotypekit_CopyPieces.f l = some l := by
      unfold linotypekit_CopyPieces.f
      simp only [Option.bind_some, List.length_nil, List.nil_append]
      rw [if_pos (by omega)]
    obtain ⟨⟨r1, r2, r3, r4⟩, e1, e2, e3, e4⟩ := plan_f l a1 hn2 hw k (by omega)
    obtain ⟨x, hx⟩ := over_f r1 r2 r3 e3 e4 k hk
    have hck : XLay.layout_Check.f l = some (if (allP (l.length : Int) l).isSome = true then 0 else 2) := by
      unfold XLay.layout_Check.f Lay.layout_Check.f
      rw [if_neg (by omega)]
      cases allP (l.length : Int) l <;> rfl
    rw [if_neg hn, hc]
    simp only [Option.bind_some]
    rw [e1]
    simp only [Option.bind_some]
    rw [e2]
    simp only [Option.bind_some]
    rw [sameplan r1 r2 r3 e3 e4 k hk]
    simp only [Option.bind_some]
    rw [if_pos trivial, if_pos trivial, hck]
    simp only [Option.bind_some]
    rw [check_eq l hn2 hw k (by omega)]
    simp only [Option.bind_some]
    rw [if_pos trivial, samepieces l hn2 k hk]
    simp only [Option.bind_some]
    rw [hx]
    simp only [Option.bind_some]
    rw [if_pos trivial, awake_eq k (by omega)]
    rfl
theorem LayoutPlans (l : List S52) (a1 : Int) (hw : ∀ x ∈ l, LayLaw0.WS x) (_ : LayLaw0.W64 a1) : ∃ k, linotypelaw27_LayoutPlans.f k l a1 = some true :=
  ⟨1100, law_k l a1 (fun x hx => wf64 (hw x hx).2.2.1) 1100 (Nat.le_refl _)⟩
end Go.Proofs.Ytlmpecahmmgphaa.PureLp
