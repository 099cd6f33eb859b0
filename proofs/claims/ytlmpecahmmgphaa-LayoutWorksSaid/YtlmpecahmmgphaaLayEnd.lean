/- Contracts of layout.Plan, Check and Fits, each over a function of lists. Condition: at most 20000 pieces. -/
import Derived.Test.YtlmpecahmmgphaaLayPlanA
import Derived.Test.YtlmpecahmmgphaaLayPlan
namespace Go.Proofs.Ytlmpecahmmgphaa.Lay
open Go.RowKit Go.Proofs.Ytlmpecahmmgphaa.XLay Go.Proofs.YtlmpecahmmgphaaW.PrintWords Go.Proofs.YtlmpecahmmgphaaW.PrintLast Go.Proofs.YtlmpecahmmgphaaW.PrintMore
set_option linter.unusedVariables false
set_option linter.unusedSimpArgs false
/-- What a piece that may be holds. -/
def okV (many : Int) : PV → Prop
  | .fix z => 0 ≤ z ∧ z ≤ 1048576
  | .br s n t o => 1 ≤ s ∧ s < n ∧ n ≤ 15 ∧ 0 ≤ t ∧ t ≤ many ∧ field_Fits.f o 32 = some true
  | .al n => 1 ≤ n ∧ n ≤ 4096 ∧ Go.bits .and .i64 n (n - 1) = 0
/-- How it lies as a piece. -/
def asV (p : S52) : PV → Prop
  | .fix z => p = ⟨1, z, 0, 0, 0, 0, 0⟩
  | .br s n t o => p = ⟨2, 0, s, n, t, o, 0⟩
  | .al n => p = ⟨3, 0, 0, 0, 0, 0, n⟩
theorem ofP_inv (p : S52) (many : Int) (v : PV) (h : ofP p.f0 p.f1 p.f2 p.f3 p.f4 p.f5 p.f6 many = some v) : okV many v ∧ asV p v := by
  obtain ⟨K, Z, S, N, T, O, A⟩ := p
  simp only [ofP] at h
  split at h
  · rename_i hK
    subst hK
    repeat (split at h; · cases h)
    split at h
    · rename_i hq
      obtain ⟨rfl, rfl, rfl, rfl, rfl⟩ := hq
      cases h
      exact ⟨⟨by omega, by omega⟩, rfl⟩
    · cases h
  · split at h
    · rename_i hK
      subst hK
      repeat (split at h; · cases h)
      split at h
      · rename_i hF
        split at h
        · rename_i hq
          obtain ⟨rfl, rfl⟩ := hq
          cases h
          exact ⟨⟨by omega, by omega, by omega, by omega, by omega, hF⟩, rfl⟩
        · cases h
      · cases h
    · split at h
      · rename_i hK
        subst hK
        repeat (split at h; · cases h)
        split at h
        · rename_i hF
          split at h
          · rename_i hq
            obtain ⟨rfl, rfl, rfl, rfl, rfl⟩ := hq
            cases h
            exact ⟨⟨by omega, by omega, hF⟩, rfl⟩
          · cases h
        · cases h
      · cases h
theorem allP_inv (many : Int) (l : List S52) (ps : List PV) (h : allP many l = some ps) : ∀ (i : Nat) (hi : i < l.length), okV many (ps.getD i (.fix 0)) ∧ asV l[i] (ps.getD i (.fix 0)) := by
  induction l generalizing ps with
  | nil => intro i hi; exact absurd hi (by simp)
  | cons q r ih =>
    simp only [allP] at h
    obtain ⟨v, hv, h⟩ := Option.bind_eq_some_iff.1 h
    obtain ⟨vs, h2, h⟩ := Option.bind_eq_some_iff.1 h
    cases h
    intro i hi
    cases i with
    | zero => exact ofP_inv q many v hv
    | succ i => exact ih vs h2 i (by simpa using hi)
theorem okT_all (l : List S52) (ps : List PV) (h : allP (l.length : Int) l = some ps) : OkT ps := by
  have hl := allP_len _ _ _ h
  intro i s n t o hi
  by_cases hlt : i < l.length
  · have := (allP_inv _ l ps h i hlt).1
    rw [hi] at this
    obtain ⟨_, _, _, h1, h2, _⟩ := this
    exact ⟨h1, by omega⟩
  · rw [List.getD_eq_getElem?_getD, List.getElem?_eq_none (by omega)] at hi
    exact absurd hi (by simp)
/-- layout.Check. -/
def layout_Check.f (l : List S52) : Option Int := if 20000 < l.length then none else match allP (l.length : Int) l with
  | none => some 2
  | some _ => some 0
/-- layout.Fits. -/
def layout_Fits.f (l : List S52) (o : Int) (near : List Bool) : Option Bool := if 20000 < l.length then none else match allP (l.length : Int) l with
  | none => some false
  | some ps => if layout_origin.f o = some true then (if near.length = l.length then some (fitsP ps o near) else some false) else some false
theorem origin_some (o : Int) : layout_origin.f o = some true ∨ layout_origin.f o = some false := by
  unfold layout_origin.f
  split
  · by_cases h : o ≤ 140737488355328
    · exact .inl (by rw [decide_eq_true h])
    · exact .inr (by rw [decide_eq_false h])
  · exact .inr rfl
theorem Plan_all (A0 : Option Addr) (c0 : Nat) (l : List S52) (a1 : Int) (r : List Int × List Bool × Int × Int) (w : World) (hr0 : Kd.C k52 w A0 l.length l) (hc0 : l.length ≤ c0) (h : layout_Plan.f l a1 = some r) :
    Calls Try.prog 41 #[.slice A0 l.length c0, .int .i64 a1] w (PlanPost w r) := by
  unfold layout_Plan.f at h
  split at h
  · cases h
  · rename_i h20
    cases hn : allP (l.length : Int) l with
    | none =>
      rw [hn] at h
      cases h
      exact Plan_none A0 c0 l a1 w hr0 hc0 (by omega) hn
    | some ps =>
      rw [hn] at h
      simp only [] at h
      rcases origin_some a1 with ho | ho
      · rw [if_pos ho] at h
        obtain ⟨x, hx, rfl⟩ := Option.map_eq_some_iff.1 h
        have hl := allP_len _ _ _ hn
        rw [hl] at hx
        exact Plan_some A0 c0 l a1 w hr0 hc0 (by omega) ps hn ho (okT_all l ps hn) x hx
      · rw [if_neg (by rw [ho]; simp)] at h
        cases h
        exact Plan_range A0 c0 l a1 w hr0 hc0 (by omega) ps hn ho
set_option maxHeartbeats 8000000 in
set_option maxRecDepth 100000 in
theorem Check_none (A0 : Option Addr) (c0 : Nat) (l : List S52) (w : World) (hr0 : Kd.C k52 w A0 l.length l) (hc0 : l.length ≤ c0) (h20 : l.length ≤ 20000) (hn : allP (l.length : Int) l = none) : Calls Try.prog 50 #[.slice A0 l.length c0] w fun e w' => e = .returned (.int .i64 2) ∧ Below w.heap.size w w' := by
  have HR0 := Aside0.mk hr0
  have HC0 := Aside0.mk hc0
  have H20 := Aside0.mk h20
  have HB := Aside0.mk (Below.refl w.heap.size w)
  clear hr0 hc0
  have HN := Aside0.mk hn
  clear hn
  go_enter Try.func50, Try.ntmps50
  go_wp2_with (first | ((with_reducible refine gate_callee (f := 60) rfl ?_); refine goesL_ (some 7) rfl rfl Try.func60 (by kernel_rfl) rfl #[.slice A0 l.length c0] rfl (by (try simp only [List.map_toArray, List.map_cons, List.map_nil]); first | done | rfl) ?_; (with_reducible refine (all_calls A0 c0 l _ ?side1 ?side2 ?side3).mono ?_); (case side1 => exact Kd.C_below HR0.out HB.out); (case side2 => exact HC0.out); (case side3 => exact H20.out); rintro e w7_ ⟨⟨h1_, -⟩, hb⟩; obtain rfl := h1_ HN.out; refine ⟨_, rfl, ?_⟩; have n0_ := Aside0.mk (below_step HB.out hb); clear HB; have HB := n0_; clear n0_; clear hb h1_))
  go_ret
  exact ⟨by first | rfl | (simp; done), HB.out⟩
set_option maxHeartbeats 8000000 in
set_option maxRecDepth 100000 in
theorem Check_some (A0 : Option Addr) (c0 : Nat) (l : List S52) (w : World) (hr0 : Kd.C k52 w A0 l.length l) (hc0 : l.length ≤ c0) (h20 : l.length ≤ 20000) (ps : List PV) (hn : allP (l.length : Int) l = some ps) : Calls Try.prog 50 #[.slice A0 l.length c0] w fun e w' => e = .returned (.int .i64 0) ∧ Below w.heap.size w w' := by
  have HR0 := Aside0.mk hr0
  have HC0 := Aside0.mk hc0
  have H20 := Aside0.mk h20
  have HB := Aside0.mk (Below.refl w.heap.size w)
  clear hr0 hc0
  have HN := Aside0.mk hn
  clear hn
  go_enter Try.func50, Try.ntmps50
  go_wp2_with (first | ((with_reducible refine gate_callee (f := 60) rfl ?_); refine goesL_ (some 7) rfl rfl Try.func60 (by kernel_rfl) rfl #[.slice A0 l.length c0] rfl (by (try simp only [List.map_toArray, List.map_cons, List.map_nil]); first | done | rfl) ?_; (with_reducible refine (all_calls A0 c0 l _ ?side1 ?side2 ?side3).mono ?_); (case side1 => exact Kd.C_below HR0.out HB.out); (case side2 => exact HC0.out); (case side3 => exact H20.out); rintro e w7_ ⟨⟨-, h1_⟩, hb⟩; obtain ⟨vx_, rfl, hx_⟩ := h1_ ps HN.out; refine ⟨_, rfl, ?_⟩; have HX0 := Aside0.mk (Kd.R_lower hx_ (below_size HB.out)); have n0_ := Aside0.mk (below_step HB.out hb); clear HB; have HB := n0_; clear n0_; clear hb h1_ hx_; obtain ⟨Ax, cx, ex_⟩ := Kd.R_slice HX0.out; subst ex_))
  go_ret
  exact ⟨by first | rfl | (simp; done), HB.out⟩
set_option maxHeartbeats 8000000 in
set_option maxRecDepth 100000 in
theorem Fits_none (A0 : Option Addr) (c0 : Nat) (l : List S52) (a1 : Int) (A2 : Option Addr) (c2 : Nat) (l2 : List Bool) (w : World) (hr0 : Kd.C k52 w A0 l.length l) (hc0 : l.length ≤ c0) (hr2 : Kd.C Kd.bool w A2 l2.length l2) (hc2 : l2.length ≤ c2) (h20 : l.length ≤ 20000) (hn : allP (l.length : Int) l = none) : Calls Try.prog 54 #[.slice A0 l.length c0, .int .i64 a1, .slice A2 l2.length c2] w fun e w' => e = .returned (.bool false) ∧ Below w.heap.size w w' := by
  have HR0 := Aside0.mk hr0
  have HC0 := Aside0.mk hc0
  have H20 := Aside0.mk h20
  have HB := Aside0.mk (Below.refl w.heap.size w)
  clear hr0 hc0
  have HN := Aside0.mk hn
  clear hn
  have HR2 := Aside0.mk hr2
  have HC2 := Aside0.mk hc2
  clear hr2 hc2
  go_enter Try.func54, Try.ntmps54
  go_wp2_with (first | ((with_reducible refine gate_callee (f := 60) rfl ?_); refine goesL_ (some 11) rfl rfl Try.func60 (by kernel_rfl) rfl #[.slice A0 l.length c0] rfl (by (try simp only [List.map_toArray, List.map_cons, List.map_nil]); first | done | rfl) ?_; (with_reducible refine (all_calls A0 c0 l _ ?side1 ?side2 ?side3).mono ?_); (case side1 => exact Kd.C_below HR0.out HB.out); (case side2 => exact HC0.out); (case side3 => exact H20.out); rintro e w11_ ⟨⟨h1_, -⟩, hb⟩; obtain rfl := h1_ HN.out; refine ⟨_, rfl, ?_⟩; have n0_ := Aside0.mk (below_step HB.out hb); clear HB; have HB := n0_; clear n0_; clear hb h1_))
  go_ret
  exact ⟨by first | rfl | (simp; done), HB.out⟩
set_option maxHeartbeats 8000000 in
set_option maxRecDepth 100000 in
theorem Fits_range (A0 : Option Addr) (c0 : Nat) (l : List S52) (a1 : Int) (A2 : Option Addr) (c2 : Nat) (l2 : List Bool) (w : World) (hr0 : Kd.C k52 w A0 l.length l) (hc0 : l.length ≤ c0) (hr2 : Kd.C Kd.bool w A2 l2.length l2) (hc2 : l2.length ≤ c2) (h20 : l.length ≤ 20000) (ps : List PV) (hn : allP (l.length : Int) l = some ps) (ho : layout_origin.f a1 = some false) : Calls Try.prog 54 #[.slice A0 l.length c0, .int .i64 a1, .slice A2 l2.length c2] w fun e w' => e = .returned (.bool false) ∧ Below w.heap.size w w' := by
  have HR0 := Aside0.mk hr0
  have HC0 := Aside0.mk hc0
  have H20 := Aside0.mk h20
  have HB := Aside0.mk (Below.refl w.heap.size w)
  clear hr0 hc0
  have HN := Aside0.mk hn
  clear hn
  have HR2 := Aside0.mk hr2
  have HC2 := Aside0.mk hc2
  clear hr2 hc2
  have HO := Aside0.mk ho
  clear ho
  go_enter Try.func54, Try.ntmps54
  go_wp2_with (first | ((with_reducible refine gate_callee (f := 60) rfl ?_); refine goesL_ (some 11) rfl rfl Try.func60 (by kernel_rfl) rfl #[.slice A0 l.length c0] rfl (by (try simp only [List.map_toArray, List.map_cons, List.map_nil]); first | done | rfl) ?_; (with_reducible refine (all_calls A0 c0 l _ ?side1 ?side2 ?side3).mono ?_); (case side1 => exact Kd.C_below HR0.out HB.out); (case side2 => exact HC0.out); (case side3 => exact H20.out); rintro e w11_ ⟨⟨-, h1_⟩, hb⟩; obtain ⟨vx_, rfl, hx_⟩ := h1_ ps HN.out; refine ⟨_, rfl, ?_⟩; have HX0 := Aside0.mk (Kd.R_lower hx_ (below_size HB.out)); have n0_ := Aside0.mk (below_step HB.out hb); clear HB; have HB := n0_; clear n0_; clear hb h1_ hx_; obtain ⟨Ax, cx, ex_⟩ := Kd.R_slice HX0.out; subst ex_) | (go_at_call 61; (with_reducible refine (layout_origin.calls a1 false _ HO.out).mono ?_); rintro e w18_ ⟨rfl, hd⟩; have hb := hd.below; have n0_ := Aside0.mk (Kd.R_below HX0.out hb); clear HX0; have HX0 := n0_; clear n0_; have n0_ := Aside0.mk (below_step HB.out hb); clear HB; have HB := n0_; clear n0_; clear hd hb))
  go_ret
  exact ⟨by first | rfl | (simp; done), HB.out⟩
set_option maxHeartbeats 8000000 in
set_option maxRecDepth 100000 in
theorem Fits_len (A0 : Option Addr) (c0 : Nat) (l : List S52) (a1 : Int) (A2 : Option Addr) (c2 : Nat) (l2 : List Bool) (w : World) (hr0 : Kd.C k52 w A0 l.length l) (hc0 : l.length ≤ c0) (hr2 : Kd.C Kd.bool w A2 l2.length l2) (hc2 : l2.length ≤ c2) (h20 : l.length ≤ 20000) (ps : List PV) (hn : allP (l.length : Int) l = some ps) (ho : layout_origin.f a1 = some true) (hl : l2.length ≠ l.length) : Calls Try.prog 54 #[.slice A0 l.length c0, .int .i64 a1, .slice A2 l2.length c2] w fun e w' => e = .returned (.bool false) ∧ Below w.heap.size w w' := by
  have HR0 := Aside0.mk hr0
  have HC0 := Aside0.mk hc0
  have H20 := Aside0.mk h20
  have HB := Aside0.mk (Below.refl w.heap.size w)
  clear hr0 hc0
  have HN := Aside0.mk hn
  clear hn
  have HR2 := Aside0.mk hr2
  have HC2 := Aside0.mk hc2
  clear hr2 hc2
  have HO := Aside0.mk ho
  clear ho
  have hl1 : ((l2.length : Int) == (l.length : Int)) = false := beq_eq_false_iff_ne.mpr (by omega)
  have hl2 : (l2.length == l.length) = false := beq_eq_false_iff_ne.mpr hl
  have hl3 : decide ((l2.length : Int) = (l.length : Int)) = false := decide_eq_false (by omega)
  go_enter Try.func54, Try.ntmps54
  go_wp2_with (first | ((with_reducible refine gate_callee (f := 60) rfl ?_); refine goesL_ (some 11) rfl rfl Try.func60 (by kernel_rfl) rfl #[.slice A0 l.length c0] rfl (by (try simp only [List.map_toArray, List.map_cons, List.map_nil]); first | done | rfl) ?_; (with_reducible refine (all_calls A0 c0 l _ ?side1 ?side2 ?side3).mono ?_); (case side1 => exact Kd.C_below HR0.out HB.out); (case side2 => exact HC0.out); (case side3 => exact H20.out); rintro e w11_ ⟨⟨-, h1_⟩, hb⟩; obtain ⟨vx_, rfl, hx_⟩ := h1_ ps HN.out; refine ⟨_, rfl, ?_⟩; have HX0 := Aside0.mk (Kd.R_lower hx_ (below_size HB.out)); have n0_ := Aside0.mk (below_step HB.out hb); clear HB; have HB := n0_; clear n0_; clear hb h1_ hx_; obtain ⟨Ax, cx, ex_⟩ := Kd.R_slice HX0.out; subst ex_) | (go_at_call 61; (with_reducible refine (layout_origin.calls a1 true _ HO.out).mono ?_); rintro e w18_ ⟨rfl, hd⟩; have hb := hd.below; have n0_ := Aside0.mk (Kd.R_below HX0.out hb); clear HX0; have HX0 := n0_; clear n0_; have n0_ := Aside0.mk (below_step HB.out hb); clear HB; have HB := n0_; clear n0_; clear hd hb))
  go_ret
  exact ⟨by first | rfl | (simp; done), HB.out⟩
set_option maxHeartbeats 8000000 in
set_option maxRecDepth 100000 in
theorem Fits_fits (A0 : Option Addr) (c0 : Nat) (l : List S52) (a1 : Int) (A2 : Option Addr) (c2 : Nat) (l2 : List Bool) (w : World) (hr0 : Kd.C k52 w A0 l.length l) (hc0 : l.length ≤ c0) (hr2 : Kd.C Kd.bool w A2 l2.length l2) (hc2 : l2.length ≤ c2) (h20 : l.length ≤ 20000) (ps : List PV) (hn : allP (l.length : Int) l = some ps) (ho : layout_origin.f a1 = some true) (hl : l2.length = l.length) : Calls Try.prog 54 #[.slice A0 l.length c0, .int .i64 a1, .slice A2 l2.length c2] w fun e w' => e = .returned (.bool (fitsP ps a1 l2)) ∧ Below w.heap.size w w' := by
  have HPL : Aside0 (l.length = ps.length) := ⟨(allP_len _ _ _ hn).symm⟩
  have HT := Aside0.mk (okT_all l ps hn)
  have HR0 := Aside0.mk hr0
  have HC0 := Aside0.mk hc0
  have H20 := Aside0.mk h20
  have HB := Aside0.mk (Below.refl w.heap.size w)
  clear hr0 hc0
  have HN := Aside0.mk hn
  clear hn
  have HR2 := Aside0.mk hr2
  have HC2 := Aside0.mk hc2
  clear hr2 hc2
  have HO := Aside0.mk ho
  clear ho
  have HLL := Aside0.mk hl
  have hl1 : ((l2.length : Int) == (l.length : Int)) = true := beq_iff_eq.mpr (by omega)
  have hl2 : (l2.length == l.length) = true := beq_iff_eq.mpr hl
  have hl3 : decide ((l2.length : Int) = (l.length : Int)) = true := decide_eq_true (by omega)
  clear hl
  go_enter Try.func54, Try.ntmps54
  go_wp2_with (first | ((with_reducible refine gate_callee (f := 60) rfl ?_); refine goesL_ (some 11) rfl rfl Try.func60 (by kernel_rfl) rfl #[.slice A0 l.length c0] rfl (by (try simp only [List.map_toArray, List.map_cons, List.map_nil]); first | done | rfl) ?_; (with_reducible refine (all_calls A0 c0 l _ ?side1 ?side2 ?side3).mono ?_); (case side1 => exact Kd.C_below HR0.out HB.out); (case side2 => exact HC0.out); (case side3 => exact H20.out); rintro e w11_ ⟨⟨-, h1_⟩, hb⟩; obtain ⟨vx_, rfl, hx_⟩ := h1_ ps HN.out; refine ⟨_, rfl, ?_⟩; have HX0 := Aside0.mk (Kd.R_lower hx_ (below_size HB.out)); have n0_ := Aside0.mk (below_step HB.out hb); clear HB; have HB := n0_; clear n0_; clear hb h1_ hx_; obtain ⟨Ax, cx, ex_⟩ := Kd.R_slice HX0.out; subst ex_) | (go_at_call 61; (with_reducible refine (layout_origin.calls a1 true _ HO.out).mono ?_); rintro e w18_ ⟨rfl, hd⟩; have hb := hd.below; have n0_ := Aside0.mk (Kd.R_below HX0.out hb); clear HX0; have HX0 := n0_; clear n0_; have n0_ := Aside0.mk (below_step HB.out hb); clear HB; have HB := n0_; clear n0_; clear hd hb) | (go_at_call 66; (with_reducible refine (fits_calls Ax cx ps a1 A2 c2 l2 _ ?sd1 ?sd2 ?sd3 ?sd4 ?sd5 ?sd6 HT.out).mono ?_); (case sd1 => exact (Kd.R_reads' HX0.out).2.2); (case sd2 => exact (Kd.R_reads' HX0.out).2.1); (case sd3 => exact Kd.C_below HR2.out HB.out); (case sd4 => exact HC2.out); (case sd5 => rw [← HPL.out]; exact H20.out); (case sd6 => exact HLL.out.trans HPL.out); rintro e w31_ ⟨rfl, hb⟩; have n0_ := Aside0.mk (below_step HB.out hb); clear HB; have HB := n0_; clear n0_; clear hb))
  go_ret
  exact ⟨by first | rfl | (simp; done), HB.out⟩
end Go.Proofs.Ytlmpecahmmgphaa.Lay
namespace Go.Proofs.Ytlmpecahmmgphaa.XLay
open Go.RowKit Go.Proofs.YtlmpecahmmgphaaW.PrintWords Go.Proofs.YtlmpecahmmgphaaW.PrintLast Go.Proofs.YtlmpecahmmgphaaW.PrintMore
def layout_Plan.f (l0 : List S52) (a1 : Int) : Option (List Int × List Bool × Int × Int) := Lay.layout_Plan.f l0 a1
def layout_Check.f (l0 : List S52) : Option Int := Lay.layout_Check.f l0
def layout_Fits.f (l0 : List S52) (a1 : Int) (l2 : List Bool) : Option Bool := Lay.layout_Fits.f l0 a1 l2
theorem layout_Plan.calls (A0 : Option Addr) (c0 : Nat) (l0 : List (S52)) (a1 : Int) (r1 : List Int) (r2 : List Bool) (r3 : Int) (r4 : Int) (w : World) (hr0 : Kd.C k52 w A0 l0.length l0) (hc0 : l0.length ≤ c0) (h : layout_Plan.f l0 a1 = some (r1, r2, r3, r4)) :
    Calls Try.prog 41 #[.slice A0 l0.length c0, .int .i64 a1] w fun e w' => ∃ v0_ v1_ : Value, e = .returned (.tuple #[.agg #[v0_, v1_, .int .i64 r3], .int .i64 r4]) ∧ Kd.R (Kd.int .i64) 3 w' w.heap.size (fun _ => True) v0_ r1 ∧ Kd.R Kd.bool 4 w' w.heap.size (fun _ => True) v1_ r2 ∧ Below w.heap.size w w' :=
  Lay.Plan_all A0 c0 l0 a1 (r1, r2, r3, r4) w hr0 hc0 h
theorem layout_Check.calls (A0 : Option Addr) (c0 : Nat) (l0 : List (S52)) (r : Int) (w : World) (hr0 : Kd.C k52 w A0 l0.length l0) (hc0 : l0.length ≤ c0) (h : layout_Check.f l0 = some r) :
    Calls Try.prog 50 #[.slice A0 l0.length c0] w fun e w' => e = .returned (.int .i64 r) ∧ Below w.heap.size w w' := by
  unfold layout_Check.f Lay.layout_Check.f at h
  split at h
  · cases h
  · cases hn : Lay.allP (l0.length : Int) l0 with
    | none => rw [hn] at h; cases h; exact Lay.Check_none A0 c0 l0 w hr0 hc0 (by omega) hn
    | some ps => rw [hn] at h; cases h; exact Lay.Check_some A0 c0 l0 w hr0 hc0 (by omega) ps hn
theorem layout_Fits.calls (A0 : Option Addr) (c0 : Nat) (l0 : List (S52)) (a1 : Int) (A2 : Option Addr) (c2 : Nat) (l2 : List Bool) (r : Bool) (w : World) (hr0 : Kd.C k52 w A0 l0.length l0) (hc0 : l0.length ≤ c0) (hr2 : Kd.C Kd.bool w A2 l2.length l2) (hc2 : l2.length ≤ c2) (h : layout_Fits.f l0 a1 l2 = some r) :
    Calls Try.prog 54 #[.slice A0 l0.length c0, .int .i64 a1, .slice A2 l2.length c2] w fun e w' => e = .returned (.bool r) ∧ Below w.heap.size w w' := by
  unfold layout_Fits.f Lay.layout_Fits.f at h
  split at h
  · cases h
  · cases hn : Lay.allP (l0.length : Int) l0 with
    | none => rw [hn] at h; cases h; exact Lay.Fits_none A0 c0 l0 a1 A2 c2 l2 w hr0 hc0 hr2 hc2 (by omega) hn
    | some ps =>
      rw [hn] at h
      simp only [] at h
      rcases Lay.origin_some a1 with ho | ho
      · rw [if_pos ho] at h
        by_cases hl : l2.length = l0.length
        · rw [if_pos hl] at h; cases h; exact Lay.Fits_fits A0 c0 l0 a1 A2 c2 l2 w hr0 hc0 hr2 hc2 (by omega) ps hn ho hl
        · rw [if_neg hl] at h; cases h; exact Lay.Fits_len A0 c0 l0 a1 A2 c2 l2 w hr0 hc0 hr2 hc2 (by omega) ps hn ho hl
      · rw [if_neg (by rw [ho]; simp)] at h
        cases h
        exact Lay.Fits_range A0 c0 l0 a1 A2 c2 l2 w hr0 hc0 hr2 hc2 (by omega) ps hn ho
end Go.Proofs.Ytlmpecahmmgphaa.XLay
