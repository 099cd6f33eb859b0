/- A contract of layout.Plan. Condition: at most 20000 pieces. -/
import Derived.Test.YtlmpecahmmgphaaLayPw
import Derived.WalkMore
namespace Go.Proofs.Ytlmpecahmmgphaa.Lay
open Go.RowKit Go.Proofs.Ytlmpecahmmgphaa.XLay Go.Proofs.YtlmpecahmmgphaaW.PrintWords Go.Proofs.YtlmpecahmmgphaaW.PrintLast Go.Proofs.YtlmpecahmmgphaaW.PrintMore
set_option linter.unusedVariables false
set_option linter.unusedSimpArgs false
/-- What Plan leaves. -/
def PlanPost (w : World) (r : List Int × List Bool × Int × Int) (e : Ending) (w' : World) : Prop := ∃ v0_ v1_ : Value, e = .returned (.tuple #[.agg #[v0_, v1_, .int .i64 r.2.2.1], .int .i64 r.2.2.2]) ∧ Kd.R (Kd.int .i64) 3 w' w.heap.size (fun _ => True) v0_ r.1 ∧ Kd.R Kd.bool 4 w' w.heap.size (fun _ => True) v1_ r.2.1 ∧ Below w.heap.size w w'
set_option maxHeartbeats 8000000 in
set_option maxRecDepth 100000 in
theorem Plan_none (A0 : Option Addr) (c0 : Nat) (l : List S52) (a1 : Int) (w : World) (hr0 : Kd.C k52 w A0 l.length l) (hc0 : l.length ≤ c0) (h20 : l.length ≤ 20000) (hn : allP (l.length : Int) l = none) :
    Calls Try.prog 41 #[.slice A0 l.length c0, .int .i64 a1] w (PlanPost w ([], [], 0, 2)) := by
  have hu56 := Try.underlying56
  have HR0 := Aside0.mk hr0
  have HC0 := Aside0.mk hc0
  have H20 := Aside0.mk h20
  have HB := Aside0.mk (Below.refl w.heap.size w)
  clear hr0 hc0
  have HN := Aside0.mk hn
  clear hn
  go_enter Try.func41, Try.ntmps41
  go_wp2_with (first | ((with_reducible refine gate_dst (N := 4) rfl ?_); refine box_event ?hg (N := 4) ?hd (cs := #[.slice none 0 0, .slice none 0 0, .int .i64 0]) (t := 56) ?hr ?_; (case hd => rfl); (case hg => rfl); (case hr => first | (go_simp; done) | (go_simp; rfl)); intro g4 hg w4_ hbox hb; have HL4 := Aside0.mk (show w.heap.size ≤ g4 from by rw [hg]; exact below_size HB.out); have n0_ := Aside0.mk (below_step HB.out hb); clear HB; have HB := n0_; clear n0_; have H4 := Aside0.mk hbox; clear hb hbox hg))
  go_step3
  go_wp2_with (first | ((with_reducible refine gate_callee (f := 60) rfl ?_); refine goesL_ (some 16) rfl rfl Try.func60 (by kernel_rfl) rfl #[.slice A0 l.length c0] rfl (by (try simp only [List.map_toArray, List.map_cons, List.map_nil]); first | done | rfl) ?_; (with_reducible refine (all_calls A0 c0 l _ ?side1 ?side2 ?side3).mono ?_); (case side1 => exact Kd.C_below HR0.out HB.out); (case side2 => exact HC0.out); (case side3 => exact H20.out); rintro e w16_ ⟨⟨h1_, -⟩, hb⟩; obtain rfl := h1_ HN.out; refine ⟨_, rfl, ?_⟩; have n0_ := Aside0.mk (blk_below H4.out hb); clear H4; have H4 := n0_; clear n0_; have n0_ := Aside0.mk (below_step HB.out hb); clear HB; have HB := n0_; clear n0_; clear hb h1_) | (refine put_ev rfl rfl 56 (.tmp 4) (.tmp 22) rfl g4 0 ?hx #[.slice none 0 0, .slice none 0 0, .int .i64 0] ?hy #[.slice none 0 0, .slice none 0 0, .int .i64 0] 56 H4.out ?hn ?hi ?h1 #[.slice none 0 0, .slice none 0 0, .int .i64 0] ?hc ?_; (case hx => rfl); (case hy => first | rfl | (go_simp; done)); (case hn => first | decide | exact Nat.le_refl _ | simp); (case hi => first | kernel_rfl | rfl); (case h1 => first | kernel_rfl | rfl | (simp [Value.oneCell'])); (case hc => kernel_rfl); intro w_ hown hoth hbel; have n0_ := Aside0.mk (hbel _ _ HL4.out HB.out); clear HB; have HB := n0_; clear n0_; have H4' := Aside0.mk hown; clear H4; have H4 := H4'; clear H4'; clear hown hbel hoth))
  (try rw [Exit.noGoto_ret])
  refine bodyPost_ret (results_ct rfl _ _ g4 56 #[.slice none 0 0, .slice none 0 0, .int .i64 0] (0, 0) _ rfl H4.out Try.underlying56 rfl (by kernel_rfl)) rfl ?_
  exact ⟨_, _, rfl, Kd.R_nil _ _ _ _ _, Kd.R_nil _ _ _ _ _, HB.out⟩
set_option maxHeartbeats 8000000 in
set_option maxRecDepth 100000 in
theorem Plan_range (A0 : Option Addr) (c0 : Nat) (l : List S52) (a1 : Int) (w : World) (hr0 : Kd.C k52 w A0 l.length l) (hc0 : l.length ≤ c0) (h20 : l.length ≤ 20000) (ps : List PV) (hn : allP (l.length : Int) l = some ps) (ho : layout_origin.f a1 = some false) :
    Calls Try.prog 41 #[.slice A0 l.length c0, .int .i64 a1] w (PlanPost w ([], [], 0, 5)) := by
  have hu56 := Try.underlying56
  have HR0 := Aside0.mk hr0
  have HC0 := Aside0.mk hc0
  have H20 := Aside0.mk h20
  have HB := Aside0.mk (Below.refl w.heap.size w)
  clear hr0 hc0
  have HPL : Aside0 (l.length = ps.length) := ⟨(allP_len _ _ _ hn).symm⟩
  have HN := Aside0.mk hn
  have HO := Aside0.mk ho
  clear hn ho
  go_enter Try.func41, Try.ntmps41
  go_wp2_with (first | ((with_reducible refine gate_dst (N := 4) rfl ?_); refine box_event ?hg (N := 4) ?hd (cs := #[.slice none 0 0, .slice none 0 0, .int .i64 0]) (t := 56) ?hr ?_; (case hd => rfl); (case hg => rfl); (case hr => first | (go_simp; done) | (go_simp; rfl)); intro g4 hg w4_ hbox hb; have HL4 := Aside0.mk (show w.heap.size ≤ g4 from by rw [hg]; exact below_size HB.out); have n0_ := Aside0.mk (below_step HB.out hb); clear HB; have HB := n0_; clear n0_; have H4 := Aside0.mk hbox; clear hb hbox hg))
  go_step3
  go_wp2_with (first | ((with_reducible refine gate_callee (f := 60) rfl ?_); refine goesL_ (some 16) rfl rfl Try.func60 (by kernel_rfl) rfl #[.slice A0 l.length c0] rfl (by (try simp only [List.map_toArray, List.map_cons, List.map_nil]); first | done | rfl) ?_; (with_reducible refine (all_calls A0 c0 l _ ?side1 ?side2 ?side3).mono ?_); (case side1 => exact Kd.C_below HR0.out HB.out); (case side2 => exact HC0.out); (case side3 => exact H20.out); rintro e w16_ ⟨⟨-, h1_⟩, hb⟩; obtain ⟨vx_, rfl, hx_⟩ := h1_ ps HN.out; refine ⟨_, rfl, ?_⟩; have HX0 := Aside0.mk (Kd.R_lower hx_ (below_size HB.out)); have n0_ := Aside0.mk (blk_below H4.out hb); clear H4; have H4 := n0_; clear n0_; have n0_ := Aside0.mk (below_step HB.out hb); clear HB; have HB := n0_; clear n0_; clear hb h1_ hx_; obtain ⟨Ax, cx, ex_⟩ := Kd.R_slice HX0.out; subst ex_; have HX : Aside0 (Kd.R kPV 80 w16_ w.heap.size (fun _ => True) (.slice Ax l.length cx) ps) := ⟨by rw [HPL.out]; exact HX0.out⟩; clear HX0; rw [← HPL.out]) | ((with_reducible refine gate_callee (f := 61) rfl ?_); refine goesL_ (some 26) rfl rfl Try.func61 (by kernel_rfl) rfl #[.int .i64 a1] rfl (by (try simp only [List.map_toArray, List.map_cons, List.map_nil]); first | done | rfl) ?_; (with_reducible refine (layout_origin.calls a1 false _ HO.out).mono ?_); rintro e w26_ ⟨rfl, hd⟩; refine ⟨_, rfl, ?_⟩; have hb := hd.below; have n0_ := Aside0.mk (blk_below H4.out hb); clear H4; have H4 := n0_; clear n0_; have n0_ := Aside0.mk (Kd.R_below HX.out hb); clear HX; have HX := n0_; clear n0_; have n0_ := Aside0.mk (below_step HB.out hb); clear HB; have HB := n0_; clear n0_; clear hd hb) | (refine put_ev rfl rfl 56 (.tmp 4) (.tmp 28) rfl g4 0 ?hx #[.slice none 0 0, .slice none 0 0, .int .i64 0] ?hy #[.slice none 0 0, .slice none 0 0, .int .i64 0] 56 H4.out ?hn ?hi ?h1 #[.slice none 0 0, .slice none 0 0, .int .i64 0] ?hc ?_; (case hx => rfl); (case hy => first | rfl | (go_simp; done)); (case hn => first | decide | exact Nat.le_refl _ | simp); (case hi => first | kernel_rfl | rfl); (case h1 => first | kernel_rfl | rfl | (simp [Value.oneCell'])); (case hc => kernel_rfl); intro w_ hown hoth hbel; have n0_ := Aside0.mk (hbel _ _ HL4.out HB.out); clear HB; have HB := n0_; clear n0_; have H4' := Aside0.mk hown; clear H4; have H4 := H4'; clear H4'; clear hown hbel hoth))
  (try rw [Exit.noGoto_ret])
  refine bodyPost_ret (results_ct rfl _ _ g4 56 #[.slice none 0 0, .slice none 0 0, .int .i64 0] (0, 0) _ rfl H4.out Try.underlying56 rfl (by kernel_rfl)) rfl ?_
  exact ⟨_, _, rfl, Kd.R_nil _ _ _ _ _, Kd.R_nil _ _ _ _ _, HB.out⟩
end Go.Proofs.Ytlmpecahmmgphaa.Lay
