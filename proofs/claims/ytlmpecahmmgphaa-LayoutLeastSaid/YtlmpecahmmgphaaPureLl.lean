/- The law LayoutLeast, over numbers and lists. -/
import Derived.Test.YtlmpecahmmgphaaPureLayB
import Derived.Test.YtlmpecahmmgphaaXLayx8
import Derived.Test.YtlmpecahmmgphaaLayLaw0
namespace Go.Proofs.Ytlmpecahmmgphaa.PureLl
open Go.RowKit Go.Proofs.Ytlmpecahmmgphaa.Lay Go.Proofs.Ytlmpecahmmgphaa.PureLay Go.Proofs.Ytlmpecahmmgphaa.Math Go.Proofs.YtlmpecahmmgphaaW.PrintWords Go.Proofs.YtlmpecahmmgphaaW.PrintLast Go.Proofs.YtlmpecahmmgphaaW.PrintMore
open Go.Proofs.Ytlmpecahmmgphaa.XLay hiding layout_Plan.f layout_Check.f layout_Fits.f
set_option linter.unusedVariables false
set_option linter.unusedSimpArgs false
theorem awake_eq (k : Nat) (h : 40 ≤ k) : linotypelaw27_awake.f k = some true := at_rounds (g := fun k => linotypelaw27_awake.f k) (linotypelaw27_awake.mono) h (by decide +kernel)
/-- Nothing is aligned, and no branch has an offset. -/
def Bare (ps : List PV) : Prop := ∀ j, j < ps.length → (∀ n, ps.getD j (.fix 0) ≠ .al n) ∧ ∀ s n t o, ps.getD j (.fix 0) = .br s n t o → o = 0
theorem sz_mono {ps : List PV} {o : Int} (H : Fine ps o) (B : Bare ps) {x c : List Bool} (h : ∀ j, x.getD j false = true → c.getD j false = true) (i : Nat) (hi : i < ps.length) (e f : Int) : 0 ≤ szP (ps.getD i (.fix 0)) (x.getD i false) e ∧ szP (ps.getD i (.fix 0)) (x.getD i false) e ≤ szP (ps.getD i (.fix 0)) (c.getD i false) f := by
  have hok := H.ok i hi
  have hb := (B i hi).1
  cases hv : ps.getD i (.fix 0) with
  | fix z => rw [hv] at hok; exact ⟨hok.1, Int.le_refl _⟩
  | al n => exact absurd hv (hb n)
  | br s n t off =>
    rw [hv] at hok
    obtain ⟨h1, h2, _⟩ := hok
    show 0 ≤ (if x.getD i false = true then n else s) ∧ (if x.getD i false = true then n else s) ≤ (if c.getD i false = true then n else s)
    cases hx : x.getD i false with
    | true => rw [h i hx, if_pos rfl]; omega
    | false =>
      rw [if_neg (by simp)]
      split <;> omega
theorem diff_mono {ps : List PV} {o : Int} (H : Fine ps o) (B : Bare ps) {x c : List Bool} (h : ∀ j, x.getD j false = true → c.getD j false = true) (a : Nat) : ∀ d, a + d ≤ ps.length → 0 ≤ posL ps x o (a + d) - posL ps x o a ∧ posL ps x o (a + d) - posL ps x o a ≤ posL ps c o (a + d) - posL ps c o a := by
  intro d
  induction d with
  | zero => intro _; simp
  | succ d ih =>
    intro hd
    have h1 := ih (by omega)
    have h2 := sz_mono H B h (a + d) (by omega) (posL ps x o (a + d)) (posL ps c o (a + d))
    rw [← Nat.add_assoc, posL_succ, posL_succ]
    omega
theorem dst_mono {ps : List PV} {o : Int} (H : Fine ps o) (B : Bare ps) {x c : List Bool} (h : ∀ j, x.getD j false = true → c.getD j false = true) (t : Int) (i : Nat) (hi : i < ps.length) (h0 : 0 ≤ t) (h1 : t ≤ ps.length) (g : -128 ≤ dst ps c o t 0 i ∧ dst ps c o t 0 i < 128) : -128 ≤ dst ps x o t 0 i ∧ dst ps x o t 0 i < 128 := by
  unfold dst at g ⊢
  by_cases e : t.toNat ≤ i + 1
  · have := diff_mono H B h t.toNat (i + 1 - t.toNat) (by omega)
    rw [show t.toNat + (i + 1 - t.toNat) = i + 1 by omega] at this
    omega
  · have := diff_mono H B h (i + 1) (t.toNat - (i + 1)) (by omega)
    rw [show i + 1 + (t.toNat - (i + 1)) = t.toNat by omega] at this
    omega
theorem below_F {ps : List PV} {o : Int} (H : Fine ps o) (B : Bare ps) {c : List Bool} (hc : ∀ j, j < ps.length → fitB ps c o j = true) (x : List Bool) (hl : x.length = ps.length) (h : ∀ j, x.getD j false = true → c.getD j false = true) : ∀ j, (F ps o x).getD j false = true → c.getD j false = true := by
  intro j hj
  rw [F_get ps o x hl, Bool.or_eq_true] at hj
  rcases hj with hj | hj
  · exact h j hj
  · rw [Bool.and_eq_true] at hj
    have hjn : j < ps.length := of_decide_eq_true hj.1
    have hlate := hj.2
    rw [late_eq H x j hjn] at hlate
    cases hcj : c.getD j false with
    | true => rfl
    | false =>
      have hf := hc j hjn
      have hok := H.ok j hjn
      have hb := B j hjn
      unfold lateB at hlate
      unfold fitB at hf
      rw [hcj] at hf
      cases hv : ps.getD j (.fix 0) with
      | fix z => rw [hv] at hlate; cases hlate
      | al n => rw [hv] at hlate; cases hlate
      | br s n t off =>
        rw [hv] at hlate hf hok
        obtain ⟨_, _, _, h1, h2, _⟩ := hok
        obtain rfl := hb.2 s n t off hv
        simp only [] at hlate hf
        have g := of_decide_eq_true hf
        rw [if_neg (by simp), hf8] at g
        have := dst_mono H B h t j hjn h1 h2 g
        rw [decide_eq_true this] at hlate
        cases hlate
theorem l1_eq (l : List S52) (ps : List PV) (c nr : List Bool) (at_ : List Int) (p : Int) (hn : l.length ≤ 200) (h : allP (l.length : Int) l = some ps) (hnr : nr.length = l.length) (hsub : ∀ j, nr.getD j false = true → c.getD j false = true) :
    ∀ d i k : Nat, i + d = l.length → 2 * d + 2 ≤ k → linotypelaw27_LayoutLeast.l1 k l c true (i : Int) at_ nr p = some true := by
  intro d
  induction d with
  | zero =>
    intro i k hi hk
    obtain ⟨k, rfl⟩ : ∃ m, k = m + 2 := ⟨k - 2, by omega⟩
    unfold linotypelaw27_LayoutLeast.l1
    rw [if_neg (by omega)]
    unfold linotypelaw27_LayoutLeast.j3
    rw [if_neg (by simp), if_pos rfl, hnr]
    simp
  | succ d ih =>
    intro i k hi hk
    obtain ⟨k, rfl⟩ : ∃ m, k = m + 2 := ⟨k - 2, by omega⟩
    have hnext := ih (i + 1) k (by omega) (by omega)
    have r1 : rdOf false nr (i : Int) = nr.getD i false := by simp [rdOf]
    have r2 : rdOf false c (i : Int) = c.getD i false := by simp [rdOf]
    unfold linotypelaw27_LayoutLeast.l1
    rw [if_pos (by omega), if_pos (by omega)]
    unfold linotypelaw27_LayoutLeast.j3
    rw [wrap_succ i (by omega), r1, r2, if_pos (show (0 : Int) ≤ (i : Int) by omega), if_pos (show (i : Int) < (nr.length : Int) by omega), if_pos (show (i : Int) < (l.length : Int) by omega)]
    by_cases hcl : (i : Int) < (c.length : Int)
    · rw [decide_eq_true hcl, if_pos rfl, if_pos hcl]
      cases hx : nr.getD i false with
      | false => rw [if_neg (by simp)]; exact hnext
      | true =>
        rw [if_pos rfl, hsub i hx, if_pos rfl]
        split
        · exact hnext
        · exact hnext
    · rw [decide_eq_false hcl, if_neg (by simp), if_pos rfl, hnr]
      simp
theorem end_eq (l : List S52) (o : Int) (c : List Bool) (hn : l.length ≤ 200) (hb : ∀ j : Nat, j < l.length → (rd_T52 l (j : Int)).f0 ≠ 3 ∧ ((rd_T52 l (j : Int)).f0 = 2 → (rd_T52 l (j : Int)).f5 = 0)) (k : Nat) (hk : 500 ≤ k) :
    linotypelaw27_LayoutLeast.l0 k l o c true (l.length : Int) = some true := by
  obtain ⟨k, rfl⟩ : ∃ m, k = m + 2 := ⟨k - 2, by omega⟩
  unfold linotypelaw27_LayoutLeast.l0
  rw [if_neg (by omega)]
  have j1t : ∀ a b p, linotypelaw27_LayoutLeast.j1 (k + 1) l c true true a b p = some true := fun a b p => by
    rw [linotypelaw27_LayoutLeast.j1]
    rw [if_pos rfl]
  cases h : allP (l.length : Int) l with
  | none =>
    rw [PureLay.Plan_none o hn h]
    simp only [Option.bind_some]
    rw [if_neg (by decide)]
    exact j1t _ _ _
  | some ps =>
    have hl := allP_len _ _ _ h
    by_cases ho : 0 ≤ o ∧ o ≤ 140737488355328
    · have H := fine_of hn h ho.1 ho.2
      have B : Bare ps := fun j hj => by
        have has := (allP_inv _ l ps h j (by omega)).2
        have h3 := hb j (by omega)
        rw [rd_eq l j (by omega)] at h3
        refine ⟨fun n hv => ?_, fun s n t off hv => ?_⟩
        · rw [hv] at has
          rw [has] at h3
          exact h3.1 rfl
        · rw [hv] at has
          rw [has] at h3
          exact h3.2 rfl
      by_cases hfit : c.length = l.length ∧ fitsP ps o c = true
      · have hc := (fitsP_iff H c).1 hfit.2
        obtain ⟨nr, p, e1, e2, e3, e4, e5, e6⟩ := planL_rep ps o (by omega) (fun x => ∀ j, x.getD j false = true → c.getD j false = true) (fun x hx hI => below_F H B hc x hx hI) (by intro j hj; simp [List.getD_eq_getElem?_getD, List.getElem?_replicate] at hj; split at hj <;> simp at hj)
        rw [Plan_in hn h ho e1]
        unfold planT
        simp only []
        split
        · simp only [Option.bind_some]; rw [if_neg (by decide)]; exact j1t _ _ _
        · split
          · simp only [Option.bind_some]
            have hF : XLay.layout_Fits.f l o c = some true := by
              unfold XLay.layout_Fits.f layout_Fits.f
              rw [if_neg (by omega), h]
              simp only []
              rw [if_pos ((origin_eq o).2 ho), if_pos hfit.1, hfit.2]
            rw [if_pos trivial, hF]
            simp only [Option.bind_some]
            rw [linotypelaw27_LayoutLeast.j1]
            rw [if_neg (by simp)]
            exact l1_eq l ps c nr _ p hn h (by omega) e4 l.length 0 k (by omega) (by omega)
          · simp only [Option.bind_some]; rw [if_neg (by decide)]; exact j1t _ _ _
      · have hF : XLay.layout_Fits.f l o c = some false := by
          unfold XLay.layout_Fits.f layout_Fits.f
          rw [if_neg (by omega), h]
          simp only []
          rw [if_pos ((origin_eq o).2 ho)]
          by_cases g : c.length = l.length
          · rw [if_pos g]
            cases hq : fitsP ps o c with
            | false => rfl
            | true => exact absurd ⟨g, hq⟩ hfit
          · rw [if_neg g]
        obtain ⟨nr, p, e1, e2, e3, e4, e5, e6⟩ := planL_rep ps o (by omega) (fun _ => True) (fun _ _ _ => trivial) trivial
        rw [Plan_in hn h ho e1]
        simp only [Option.bind_some]
        rw [hF]
        simp only [Option.bind_some]
        split
        · exact j1t _ _ _
        · exact j1t _ _ _
    · rw [Plan_out hn h ho]
      simp only [Option.bind_some]
      rw [if_neg (by decide)]
      exact j1t _ _ _
theorem l0_eq (l : List S52) (o : Int) (c : List Bool) (hn : l.length ≤ 200) : ∀ d j k : Nat, j + d = l.length → d + 500 ≤ k → (∀ i : Nat, i < j → (rd_T52 l (i : Int)).f0 ≠ 3 ∧ ((rd_T52 l (i : Int)).f0 = 2 → (rd_T52 l (i : Int)).f5 = 0)) → linotypelaw27_LayoutLeast.l0 k l o c true (j : Int) = some true := by
  intro d
  induction d with
  | zero =>
    intro j k hj hk hi
    obtain rfl : j = l.length := by omega
    exact end_eq l o c hn hi k (by omega)
  | succ d ih =>
    intro j k hj hk hi
    obtain ⟨k, rfl⟩ : ∃ m, k = m + 1 := ⟨k - 1, by omega⟩
    unfold linotypelaw27_LayoutLeast.l0
    rw [if_pos (by omega), if_pos (by omega)]
    by_cases h3 : (rd_T52 l (j : Int)).f0 = 3
    · rw [if_pos h3]
    · rw [if_neg h3]
      have hn := ih (j + 1) k (by omega) (by omega)
      rw [wrap_succ j (by omega)]
      by_cases h2 : (rd_T52 l (j : Int)).f0 = 2
      · rw [if_pos h2]
        by_cases h5 : (rd_T52 l (j : Int)).f5 = 0
        · rw [if_pos h5]
          refine hn fun i hij => ?_
          rcases Nat.lt_succ_iff_lt_or_eq.1 hij with g | rfl
          · exact hi i g
          · exact ⟨h3, fun _ => h5⟩
        · rw [if_neg h5]
      · rw [if_neg h2]
        refine hn fun i hij => ?_
        rcases Nat.lt_succ_iff_lt_or_eq.1 hij with g | rfl
        · exact hi i g
        · exact ⟨h3, fun e => absurd e h2⟩
theorem LayoutLeast (l : List S52) (o : Int) (c : List Bool) (_ : ∀ x ∈ l, LayLaw0.WS x) (_ : LayLaw0.W64 o) : ∃ k, linotypelaw27_LayoutLeast.f k l o c = some true := by
  refine ⟨2000, ?_⟩
  unfold linotypelaw27_LayoutLeast.f
  rw [awake_eq 2000 (by omega)]
  simp only [Option.bind_some]
  by_cases hn : (l.length : Int) > 200
  · rw [if_pos hn]
  · rw [if_neg hn]
    exact l0_eq l o c (by omega) l.length 0 2000 (by omega) (by omega) (fun i hi => absurd hi (by omega))
end Go.Proofs.Ytlmpecahmmgphaa.PureLl
