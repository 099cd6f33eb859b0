/- The law LayoutWorks, over numbers and lists. -/
import Derived.Test.YtlmpecahmmgphaaPureLayB
import Derived.Test.YtlmpecahmmgphaaXLayx7
import Derived.Test.YtlmpecahmmgphaaLayLaw0
namespace Go.Proofs.Ytlmpecahmmgphaa.PureLw
open Go.RowKit Go.Proofs.Ytlmpecahmmgphaa.Lay Go.Proofs.Ytlmpecahmmgphaa.PureLay Go.Proofs.Ytlmpecahmmgphaa.Math Go.Proofs.YtlmpecahmmgphaaW.PrintWords Go.Proofs.YtlmpecahmmgphaaW.PrintLast Go.Proofs.YtlmpecahmmgphaaW.PrintMore
open Go.Proofs.Ytlmpecahmmgphaa.XLay hiding layout_Plan.f layout_Check.f layout_Fits.f
set_option linter.unusedVariables false
set_option linter.unusedSimpArgs false
theorem awake_eq (k : Nat) (h : 40 ≤ k) : linotypelaw27_awake.f k = some true := at_rounds (g := fun k => linotypelaw27_awake.f k) (linotypelaw27_awake.mono) h (by decide +kernel)
def isBr : PV → Bool
  | .br _ _ _ _ => true
  | _ => false
/-- How many branches, how many near ones, there are ahead. -/
def brN (ps : List PV) : Nat → Nat
  | 0 => 0
  | i + 1 => brN ps i + if isBr (ps.getD i (.fix 0)) = true then 1 else 0
def trN (xs : List Bool) : Nat → Nat
  | 0 => 0
  | i + 1 => trN xs i + if xs.getD i false = true then 1 else 0
theorem brN_le (ps : List PV) (i : Nat) : brN ps i ≤ i := by
  induction i with
  | zero => exact Nat.le_refl _
  | succ i ih => show brN ps i + _ ≤ _; split <;> omega
theorem trN_cons (x : Bool) (xs : List Bool) (i : Nat) : trN (x :: xs) (i + 1) = (if x = true then 1 else 0) + trN xs i := by
  induction i with
  | zero => show 0 + _ = _; simp [trN]
  | succ i ih =>
    show trN (x :: xs) (i + 1) + (if (x :: xs).getD (i + 1) false = true then 1 else 0) = _
    rw [ih, List.getD_cons_succ]
    show _ = _ + (trN xs i + _)
    omega
theorem trN_count (xs : List Bool) : trN xs xs.length + xs.count false = xs.length := by
  induction xs with
  | nil => rfl
  | cons x xs ih =>
    rw [List.length_cons, trN_cons, List.count_cons]
    cases x <;> simp <;> omega
theorem tr_br {ps : List PV} {xs : List Bool} (h : ∀ j, xs.getD j false = true → isBr (ps.getD j (.fix 0)) = true) (i : Nat) : trN xs i ≤ brN ps i := by
  induction i with
  | zero => exact Nat.le_refl _
  | succ i ih =>
    show trN xs i + _ ≤ brN ps i + _
    by_cases e : xs.getD i false = true
    · rw [if_pos e, if_pos (h i e)]; omega
    · rw [if_neg e]; omega
theorem only_br (ps : List PV) (o : Int) (x : List Bool) (hl : x.length = ps.length) (h : ∀ j, x.getD j false = true → isBr (ps.getD j (.fix 0)) = true) : ∀ j, (F ps o x).getD j false = true → isBr (ps.getD j (.fix 0)) = true := by
  intro j hj
  rw [F_get ps o x hl, Bool.or_eq_true] at hj
  rcases hj with hj | hj
  · exact h j hj
  · rw [Bool.and_eq_true] at hj
    have := hj.2
    cases hv : ps.getD j (.fix 0) with
    | br s n t o => rfl
    | fix z => rw [hv] at this; cases this
    | al n => rw [hv] at this; cases this
theorem step_w (l : List S52) (ps : List PV) (o : Int) (nr : List Bool) (p : Int) (hn : l.length ≤ 200) (h : allP (l.length : Int) l = some ps) (H : Fine ps o) (hnr : nr.length = ps.length) (hb : ∀ j, nr.getD j false = true → isBr (ps.getD j (.fix 0)) = true) (hp1 : 1 ≤ p) (hp2 : p ≤ 1 + (brN ps ps.length : Int)) :
    ∀ d i k : Nat, i + d = l.length → 2 * d < k → linotypelaw27_LayoutWorks.l0 k l true (brN ps i : Int) (i : Int) (lieL ps nr o ps.length) nr p = some true := by
  have hl := allP_len _ _ _ h
  intro d
  induction d with
  | zero =>
    intro i k hi hk
    obtain ⟨k, rfl⟩ : ∃ m, k = m + 1 := ⟨k - 1, by omega⟩
    obtain rfl : i = l.length := by omega
    unfold linotypelaw27_LayoutWorks.l0
    have hle := brN_le ps l.length
    rw [if_neg (by omega), if_pos rfl, if_pos hp1, wrap_succ _ (by omega), decide_eq_true (by rw [← hl]; rw [hl]; rw [← hl]; omega)]
  | succ d ih =>
    intro i k hi hk
    obtain ⟨k, rfl⟩ : ∃ m, k = m + 2 := ⟨k - 2, by omega⟩
    have hip : i < ps.length := by omega
    have hin : i < l.length := by omega
    have hlen := lieL_len ps nr o ps.length
    have hle := brN_le ps i
    have q1 := lie_pos H nr i (by omega)
    have q2 := lie_pos H nr (i + 1) (by omega)
    have b1 := pos_bd H nr i (by omega)
    have b2 := pos_bd H nr (i + 1) (by omega)
    have o0 := H.o0
    have o1 := H.o1
    have hok := H.ok i hip
    have hst := step_eq _ _ (nr.getD i false) (posL ps nr o i) hok (by omega) (by omega)
    have hsub : wrap64 (posL ps nr o (i + 1) - posL ps nr o i) = szP (ps.getD i (.fix 0)) (nr.getD i false) (posL ps nr o i) := by
      rw [posL_succ, w64 _ (by omega) (by omega)]; omega
    have hnext := ih (i + 1) k (by omega) (by omega)
    have hbs : brN ps (i + 1) = brN ps i + if isBr (ps.getD i (.fix 0)) = true then 1 else 0 := rfl
    have has := (allP_inv _ l ps h i hin).2
    have hbi := hb i
    have hrd : rdOf false nr (i : Int) = nr.getD i false := by simp [rdOf]
    unfold linotypelaw27_LayoutWorks.l0
    rw [wrap_succ i (by omega), rd_eq l i hin, q1, q2, hsub, hrd, if_pos (by omega), if_pos (by omega), if_pos (by omega), if_pos (by omega), if_pos (by omega)]
    have j2e : ∀ (x8 x10 x11 : Int), linotypelaw27_LayoutWorks.j2 (k + 1) l true x8 (i : Int) x10 x11 (lieL ps nr o ps.length) nr p = (if l[i].f0 = 3 then (if x10 < 0 then (some false) else (if x10 ≥ l[i].f6 then (some false) else (if l[i].f6 = 0 then (none) else (if (Int.tmod (posL ps nr o (i + 1)) l[i].f6) = 0 then (linotypelaw27_LayoutWorks.l0 k l true x8 ((i + 1 : Nat) : Int) (lieL ps nr o ps.length) nr p) else (some false))))) else (if x10 = x11 then (linotypelaw27_LayoutWorks.l0 k l true x8 ((i + 1 : Nat) : Int) (lieL ps nr o ps.length) nr p) else (some false))) := fun x8 x10 x11 => by
      rw [linotypelaw27_LayoutWorks.j2, wrap_succ i (by omega), rd_eq l i hin, q2, if_pos (show (0 : Int) ≤ (i : Int) by omega), if_pos (show (i : Int) < (l.length : Int) by omega), if_pos (show (0 : Int) ≤ ((i + 1 : Nat) : Int) by omega), if_pos (show ((i + 1 : Nat) : Int) < ((lieL ps nr o ps.length).length : Int) by omega)]
    cases hv : ps.getD i (.fix 0) with
    | fix z =>
      rw [hv] at has hbs hbi
      rw [has]
      have hf : nr.getD i false = false := by
        cases e : nr.getD i false with
        | false => rfl
        | true => exact absurd (hbi e) (by simp [isBr])
      rw [hf]
      simp only [isBr] at hbs
      rw [show brN ps (i + 1) = brN ps i by simpa using hbs] at hnext
      rw [if_neg (by simp), if_pos (by omega), if_neg (by simp), j2e, has, if_neg (by simp)]
      rw [if_pos (show szP (.fix z) false (posL ps nr o i) = z from rfl)]
      exact hnext
    | br s n t off =>
      rw [hv] at has hbs
      rw [has]
      simp only [isBr, if_true] at hbs
      rw [hbs] at hnext
      rw [if_pos rfl, if_pos (by omega)]
      rw [wrap_succ (brN ps i) (by omega)]
      cases hf : nr.getD i false with
      | true =>
        rw [if_pos rfl, j2e, has, if_neg (by simp), if_pos (show szP (.br s n t off) true (posL ps nr o i) = n from rfl)]
        exact hnext
      | false =>
        rw [if_neg (by simp), j2e, has, if_neg (by simp), if_pos (show szP (.br s n t off) false (posL ps nr o i) = s from rfl)]
        exact hnext
    | al n =>
      rw [hv] at has hbs hbi hok
      rw [has]
      have hf : nr.getD i false = false := by
        cases e : nr.getD i false with
        | false => rfl
        | true => exact absurd (hbi e) (by simp [isBr])
      rw [hf]
      simp only [isBr] at hbs
      rw [show brN ps (i + 1) = brN ps i by simpa using hbs] at hnext
      obtain ⟨g1, g2, g3⟩ := hok
      have ha := al_eq n (posL ps nr o i) g1 g2 g3 (by omega) (by omega)
      have hsz : szP (.al n) false (posL ps nr o i) = (n - posL ps nr o i % n) % n := rfl
      have hps : posL ps nr o (i + 1) = posL ps nr o i + (n - posL ps nr o i % n) % n := by rw [posL_succ, hv]; rfl
      have hmod : Int.tmod (posL ps nr o (i + 1)) n = 0 := by
        rw [Int.tmod_eq_emod_of_nonneg (by omega), hps]
        rw [Int.add_emod, Int.emod_emod_of_dvd _ (Int.dvd_refl n), ← Int.add_emod]
        rw [show posL ps nr o i + (n - posL ps nr o i % n) = (posL ps nr o i - posL ps nr o i % n) + n by omega, Int.add_emod_right]
        rw [Int.sub_emod, Int.emod_emod_of_dvd _ (Int.dvd_refl n), ← Int.sub_emod, Int.sub_self]
        rfl
      rw [if_neg (by simp), if_pos (by omega), if_neg (by simp), j2e, has, if_pos rfl, hsz]
      simp only []
      rw [if_neg (by omega), if_neg (by omega), if_neg (by omega), if_pos hmod]
      exact hnext
theorem law_k (l : List S52) (o : Int) (k : Nat) (hk : 600 ≤ k) : linotypelaw27_LayoutWorks.f k l o = some true := by
  unfold linotypelaw27_LayoutWorks.f
  rw [awake_eq k (by omega)]
  simp only [Option.bind_some]
  by_cases hn : (l.length : Int) > 200
  · rw [if_pos hn]
  · rw [if_neg hn]
    have hn2 : l.length ≤ 200 := by omega
    cases h : allP (l.length : Int) l with
    | none =>
      rw [PureLay.Plan_none o hn2 h]
      simp
    | some ps =>
      have hl := allP_len _ _ _ h
      by_cases ho : 0 ≤ o ∧ o ≤ 140737488355328
      · have H := fine_of hn2 h ho.1 ho.2
        obtain ⟨nr, p, e1, e2, e3, e4, e5, e6⟩ := planL_rep ps o (by omega) (fun x => ∀ j, x.getD j false = true → isBr (ps.getD j (.fix 0)) = true) (fun x hx hI => only_br ps o x hx hI) (by intro j hj; simp [List.getD_eq_getElem?_getD, List.getElem?_replicate] at hj; split at hj <;> simp at hj)
        rw [Plan_in hn2 h ho e1]
        unfold planT
        simp only []
        split
        · rw [Option.bind_some, if_neg (show ¬ ((3 : Int) = 0) by decide), if_pos trivial, if_pos (show ((([] : List Int).length : Int)) = 0 from rfl), if_pos (show ((([] : List Bool).length : Int)) = 0 from rfl)]
          rfl
        · split
          · rename_i hfit
            have hc := trN_count nr
            have ht := tr_br e4 ps.length
            rw [e2] at hc
            have h0 : rd (lieL ps nr o ps.length) 0 = o := lie_pos H nr 0 (by omega)
            have hL : ((lieL ps nr o ps.length).length : Int) = wrap64 ((l.length : Int) + 1) := by rw [lieL_len, wrap_succ _ (by omega)]; omega
            have hF : XLay.layout_Fits.f l o nr = some true := by
              unfold XLay.layout_Fits.f layout_Fits.f
              rw [if_neg (by omega), h]
              simp only []
              rw [if_pos ((origin_eq o).2 ho), if_pos (by omega), hfit]
            rw [Option.bind_some, if_pos (show (lieL ps nr o ps.length, nr, p, (0 : Int)).2.2.2 = 0 from rfl)]
            rw [if_pos (show ((lieL ps nr o ps.length, nr, p, (0 : Int)).1.length : Int) = wrap64 ((l.length : Int) + 1) from hL)]
            rw [if_pos (show ((lieL ps nr o ps.length, nr, p, (0 : Int)).2.1.length : Int) = (l.length : Int) from by show (nr.length : Int) = _; omega)]
            rw [if_pos (show 0 < ((lieL ps nr o ps.length, nr, p, (0 : Int)).1.length : Int) from by show 0 < ((lieL ps nr o ps.length).length : Int); rw [lieL_len]; omega)]
            rw [if_pos (show rd (lieL ps nr o ps.length, nr, p, (0 : Int)).1 0 = o from h0)]
            rw [hF, Option.bind_some]
            obtain ⟨k, rfl⟩ : ∃ m, k = m + 1 := ⟨k - 1, by omega⟩
            rw [linotypelaw27_LayoutWorks.j0]
            rw [if_neg (by simp)]
            exact step_w l ps o nr p hn2 h H e2 e4 e5 (by omega) l.length 0 k (by omega) (by omega)
          · rw [Option.bind_some, if_neg (show ¬ ((5 : Int) = 0) by decide), if_pos trivial, if_pos (show ((([] : List Int).length : Int)) = 0 from rfl), if_pos (show ((([] : List Bool).length : Int)) = 0 from rfl)]
            rfl
      · rw [Plan_out hn2 h ho]
        simp
theorem LayoutWorks (l : List S52) (o : Int) (_ : ∀ x ∈ l, LayLaw0.WS x) (_ : LayLaw0.W64 o) : ∃ k, linotypelaw27_LayoutWorks.f k l o = some true := ⟨600, law_k l o 600 (Nat.le_refl _)⟩
end Go.Proofs.Ytlmpecahmmgphaa.PureLw
