/- A contract of layout.of: what a piece is, or that it may not be. No conditions. -/
import Derived.Test.YtlmpecahmmgphaaXLayx1
import Derived.Test.YtlmpecahmmgphaaXLayx2
import Derived.Deep.MidRow
import Derived.Deep.RegionHeld3
namespace Go.Proofs.Ytlmpecahmmgphaa.Lay
open Go.RowKit Go.Proofs.YtlmpecahmmgphaaW.PrintWords Go.Proofs.YtlmpecahmmgphaaW.PrintLast Go.Proofs.YtlmpecahmmgphaaW.PrintMore
set_option linter.unusedVariables false
set_option linter.unusedSimpArgs false
attribute [local go_sem high] XLay.eqA52
/-- The cells behind a store of some at an offset. -/
def put (cs : Array Value) : Nat → List Value → Array Value
  | _, [] => cs
  | o, v :: r => put (cs.setIfInBounds o v) (o + 1) r
theorem heap_setCells (g : Nat) (t : TypeId) : ∀ (vs : List Value) (o : Nat) (W : World) (cs : Array Value), W.heap[g]? = some (.cells cs t (0, 0)) → (W.setCells g o vs).heap[g]? = some (.cells (put cs o vs) t (0, 0))
  | [], _, _, _, h => h
  | v :: r, o, W, cs, h => heap_setCells g t r (o + 1) _ _ (heap_setCell_same W g o cs t v h)
theorem heap_setCells_other (g : Nat) : ∀ (vs : List Value) (o : Nat) (W : World) (b : Nat), b ≠ g → (W.setCells g o vs).heap[b]? = W.heap[b]?
  | [], _, _, _, _ => rfl
  | v :: r, o, W, b, h => (heap_setCells_other g r (o + 1) _ b h).trans (heap_setCell_other W ⟨g, o, none⟩ b v h)
theorem below_setCells {B : Nat} {w : World} (g : Nat) (hB : B ≤ g) : ∀ (vs : List Value) (o : Nat) (W : World), Below B w W → Below B w (W.setCells g o vs)
  | [], _, _, h => h
  | v :: r, o, W, h => below_setCells g hB r (o + 1) _ (Below.setCell h hB v)
theorem store_ev {P : Program} {ops : Array Oper} {rest : List Oper} {o : Oper} {a : Act} {W : World} {Q : Exit → Act → World → Prop} (hgd : o.guard = none) (ty : TypeId) (x y : Operand) (ho : o.op = .store ty x y)
    (g off : Nat) (hx : a.eval x = .pointer (some ⟨g, off, none⟩)) (vs : Array Value) (hy : a.eval y = .agg vs) (cs : Array Value) (t : TypeId) (hg : W.heap[g]? = some (.cells cs t (0, 0))) (hn : off + vs.size ≤ cs.size)
    (hi : (P.info? ty).map (·.size) = some vs.size) (h1 : vs.all (·.oneCell') = true) (cs' : Array Value) (hcs : put cs off vs.toList = cs')
    (h : ∀ w1, w1.heap[g]? = some (.cells cs' t (0, 0)) → (∀ b, b ≠ g → w1.heap[b]? = W.heap[b]?) → (∀ B w, B ≤ g → Below B w W → Below B w w1) → wpList P ops Q rest (a.put o.dst undef) w1) : wpList P ops Q (o :: rest) a W := by
  refine wpList_store_mid hgd ty x y ho g off vs hx hy (fun j hj => ?_) hi h1 ?_
  · rw [blk_cell hg, blk_frozen hg, Array.getElem?_eq_getElem (by omega)]
    exact ⟨rfl, rfl⟩
  · exact h _ (by rw [← hcs]; exact heap_setCells g t _ _ _ _ hg) (fun b hb => heap_setCells_other g _ _ _ _ hb) (fun B w hB hb => below_setCells g hB _ _ _ hb)
theorem store1_ev {P : Program} {ops : Array Oper} {rest : List Oper} {o : Oper} {a : Act} {W : World} {Q : Exit → Act → World → Prop} (hgd : o.guard = none) (g off : Nat) (v : Value)
    (cs : Array Value) (t : TypeId) (hg : W.heap[g]? = some (.cells cs t (0, 0))) (hr : (execOp a.eval o).run P W = .ok .skip (W.setCell ⟨g, off, none⟩ v)) (cs' : Array Value) (hcs : cs.setIfInBounds off v = cs')
    (h : ∀ w1, w1.heap[g]? = some (.cells cs' t (0, 0)) → (∀ b, b ≠ g → w1.heap[b]? = W.heap[b]?) → (∀ B w, B ≤ g → Below B w W → Below B w w1) → wpList P ops Q rest (a.put o.dst undef) w1) : wpList P ops Q (o :: rest) a W :=
  wpList_plain hgd fun K hK => by
    unfold Oper.wp
    rw [hr]
    exact hK _ _ (h _ (by rw [← hcs]; exact heap_setCell_same W g off cs t v hg) (fun b hb => heap_setCell_other W ⟨g, off, none⟩ b v hb) (fun B w hB hb => Below.setCell hb hB v))
theorem c7 {W : World} {g : Nat} {v0 v1 v2 v3 v4 v5 v6 : Value} (h : W.heap[g]? = some (.cells #[v0, v1, v2, v3, v4, v5, v6] 52 (0, 0))) : W.cell? ⟨g, 0, none⟩ = some v0 ∧ W.cell? ⟨g, 1, none⟩ = some v1 ∧ W.cell? ⟨g, 2, none⟩ = some v2 ∧ W.cell? ⟨g, 3, none⟩ = some v3 ∧ W.cell? ⟨g, 4, none⟩ = some v4 ∧ W.cell? ⟨g, 5, none⟩ = some v5 ∧ W.cell? ⟨g, 6, none⟩ = some v6 :=
  ⟨(blk_cell h 0).trans rfl, (blk_cell h 1).trans rfl, (blk_cell h 2).trans rfl, (blk_cell h 3).trans rfl, (blk_cell h 4).trans rfl, (blk_cell h 5).trans rfl, (blk_cell h 6).trans rfl⟩
theorem store_wp {P : Program} {o : Oper} {a : Act} {W : World} {K : Act → World → Prop} {Q : Exit → Act → World → Prop} (ty : TypeId) (x y : Operand) (ho : o.op = .store ty x y)
    (g off : Nat) (hx : a.eval x = .pointer (some ⟨g, off, none⟩)) (vs : Array Value) (hy : a.eval y = .agg vs) (cs : Array Value) (t : TypeId) (hg : W.heap[g]? = some (.cells cs t (0, 0))) (hn : off + vs.size ≤ cs.size)
    (hi : (P.info? ty).map (·.size) = some vs.size) (h1 : vs.all (·.oneCell') = true) (cs' : Array Value) (hcs : put cs off vs.toList = cs')
    (h : ∀ w1, w1.heap[g]? = some (.cells cs' t (0, 0)) → (∀ b, b ≠ g → w1.heap[b]? = W.heap[b]?) → (∀ B w, B ≤ g → Below B w W → Below B w w1) → K (a.put o.dst undef) w1) : o.wp P a W K Q := by
  refine wp_store_mid ty x y ho g off vs hx hy (fun j hj => ?_) hi h1 ?_
  · rw [blk_cell hg, blk_frozen hg, Array.getElem?_eq_getElem (by omega)]
    exact ⟨rfl, rfl⟩
  · exact h _ (by rw [← hcs]; exact heap_setCells g t _ _ _ _ hg) (fun b hb => heap_setCells_other g _ _ _ _ hb) (fun B w hB hb => below_setCells g hB _ _ _ hb)
set_option maxHeartbeats 4000000 in
set_option maxRecDepth 100000 in
theorem Of_f1 (Z S N T O A many : Int) (w : World) (h1 : Z < 0) : Calls Try.prog 74 #[.agg #[.int .i64 1, .int .i64 Z, .int .i64 S, .int .i64 N, .int .i64 T, .int .i64 O, .int .i64 A], .int .i64 many] w fun e w' => e = .returned (.nilIface) ∧ Below w.heap.size w w' := by
  have hu52 := Try.underlying52
  have HB := Aside0.mk (Below.refl w.heap.size w)
  go_enter Try.func74, Try.ntmps74
  go_wp2_with (first | ((with_reducible refine gate_dst (N := 2) rfl ?_); refine box_event ?hg (N := 2) ?hd (cs := #[.int .i64 1, .int .i64 Z, .int .i64 S, .int .i64 N, .int .i64 T, .int .i64 O, .int .i64 A]) (t := 52) ?hr ?_; (case hd => rfl); (case hg => rfl); (case hr => first | (go_simp; done) | (go_simp; rfl)); intro gp hg w_ hbox hb; have HLgp := Aside0.mk (show w.heap.size ≤ gp from by rw [hg]; exact below_size (by repeat (first | (with_reducible first | exact HB.out | apply below_alloc | apply pw_below_drewN | apply below_drew1) | exact HB.out))); clear hg; have HGp := Aside0.mk hbox; have n0_ := Aside0.mk (below_step (by repeat (first | (with_reducible first | exact HB.out | apply below_alloc | apply pw_below_drewN | apply below_drew1) | exact HB.out)) hb); clear HB; have HB := n0_; clear n0_; clear hb hbox) | ((with_reducible refine gate_dst (N := 6) rfl ?_); refine box_event ?hg (N := 6) ?hd (cs := #[.int .i64 0, .int .i64 0, .int .i64 0, .int .i64 0, .int .i64 0, .int .i64 0, .int .i64 0]) (t := 52) ?hr ?_; (case hd => rfl); (case hg => rfl); (case hr => first | (go_simp; done) | (go_simp; rfl)); intro go hg w_ hbox hb; have HLgo := Aside0.mk (show w.heap.size ≤ go from by rw [hg]; exact below_size (by repeat (first | (with_reducible first | exact HB.out | apply below_alloc | apply pw_below_drewN | apply below_drew1) | exact HB.out))); have Ngp_go := Aside0.mk (show gp ≠ go from by rw [hg]; exact Nat.ne_of_lt (blk_lt HGp.out)); clear hg; have n1_ := Aside0.mk (blk_below HGp.out hb); clear HGp; have HGp := n1_; clear n1_; have HGo := Aside0.mk hbox; have n0_ := Aside0.mk (below_step (by repeat (first | (with_reducible first | exact HB.out | apply below_alloc | apply pw_below_drewN | apply below_drew1) | exact HB.out)) hb); clear HB; have HB := n0_; clear n0_; clear hb hbox; have q_ := HGp.out; obtain ⟨kp_0, kp_1, kp_2, kp_3, kp_4, kp_5, kp_6⟩ := c7 q_; clear q_))
  go_ret
  exact ⟨by first | rfl | (simp; done), (by repeat (first | (with_reducible first | exact HB.out | apply below_alloc | apply pw_below_drewN | apply below_drew1) | exact HB.out))⟩
set_option maxHeartbeats 4000000 in
set_option maxRecDepth 100000 in
theorem Of_f2 (Z S N T O A many : Int) (w : World) (h1 : ¬ Z < 0) (h2 : 1048576 < Z) : Calls Try.prog 74 #[.agg #[.int .i64 1, .int .i64 Z, .int .i64 S, .int .i64 N, .int .i64 T, .int .i64 O, .int .i64 A], .int .i64 many] w fun e w' => e = .returned (.nilIface) ∧ Below w.heap.size w w' := by
  have hu52 := Try.underlying52
  have HB := Aside0.mk (Below.refl w.heap.size w)
  go_enter Try.func74, Try.ntmps74
  go_wp2_with (first | ((with_reducible refine gate_dst (N := 2) rfl ?_); refine box_event ?hg (N := 2) ?hd (cs := #[.int .i64 1, .int .i64 Z, .int .i64 S, .int .i64 N, .int .i64 T, .int .i64 O, .int .i64 A]) (t := 52) ?hr ?_; (case hd => rfl); (case hg => rfl); (case hr => first | (go_simp; done) | (go_simp; rfl)); intro gp hg w_ hbox hb; have HLgp := Aside0.mk (show w.heap.size ≤ gp from by rw [hg]; exact below_size (by repeat (first | (with_reducible first | exact HB.out | apply below_alloc | apply pw_below_drewN | apply below_drew1) | exact HB.out))); clear hg; have HGp := Aside0.mk hbox; have n0_ := Aside0.mk (below_step (by repeat (first | (with_reducible first | exact HB.out | apply below_alloc | apply pw_below_drewN | apply below_drew1) | exact HB.out)) hb); clear HB; have HB := n0_; clear n0_; clear hb hbox) | ((with_reducible refine gate_dst (N := 6) rfl ?_); refine box_event ?hg (N := 6) ?hd (cs := #[.int .i64 0, .int .i64 0, .int .i64 0, .int .i64 0, .int .i64 0, .int .i64 0, .int .i64 0]) (t := 52) ?hr ?_; (case hd => rfl); (case hg => rfl); (case hr => first | (go_simp; done) | (go_simp; rfl)); intro go hg w_ hbox hb; have HLgo := Aside0.mk (show w.heap.size ≤ go from by rw [hg]; exact below_size (by repeat (first | (with_reducible first | exact HB.out | apply below_alloc | apply pw_below_drewN | apply below_drew1) | exact HB.out))); have Ngp_go := Aside0.mk (show gp ≠ go from by rw [hg]; exact Nat.ne_of_lt (blk_lt HGp.out)); clear hg; have n1_ := Aside0.mk (blk_below HGp.out hb); clear HGp; have HGp := n1_; clear n1_; have HGo := Aside0.mk hbox; have n0_ := Aside0.mk (below_step (by repeat (first | (with_reducible first | exact HB.out | apply below_alloc | apply pw_below_drewN | apply below_drew1) | exact HB.out)) hb); clear HB; have HB := n0_; clear n0_; clear hb hbox; have q_ := HGp.out; obtain ⟨kp_0, kp_1, kp_2, kp_3, kp_4, kp_5, kp_6⟩ := c7 q_; clear q_))
  go_ret
  exact ⟨by first | rfl | (simp; done), (by repeat (first | (with_reducible first | exact HB.out | apply below_alloc | apply pw_below_drewN | apply below_drew1) | exact HB.out))⟩
set_option maxHeartbeats 4000000 in
set_option maxRecDepth 100000 in
theorem Of_fix (Z many : Int) (w : World) (h1 : ¬ Z < 0) (h2 : ¬ 1048576 < Z) : Calls Try.prog 74 #[.agg #[.int .i64 1, .int .i64 Z, .int .i64 0, .int .i64 0, .int .i64 0, .int .i64 0, .int .i64 0], .int .i64 many] w fun e w' => e = .returned (.iface 93 (.agg #[.int .i64 Z])) ∧ Below w.heap.size w w' := by
  have hu52 := Try.underlying52
  have HB := Aside0.mk (Below.refl w.heap.size w)
  go_enter Try.func74, Try.ntmps74
  go_wp2_with (first | ((with_reducible refine gate_dst (N := 2) rfl ?_); refine box_event ?hg (N := 2) ?hd (cs := #[.int .i64 1, .int .i64 Z, .int .i64 0, .int .i64 0, .int .i64 0, .int .i64 0, .int .i64 0]) (t := 52) ?hr ?_; (case hd => rfl); (case hg => rfl); (case hr => first | (go_simp; done) | (go_simp; rfl)); intro gp hg w_ hbox hb; have HLgp := Aside0.mk (show w.heap.size ≤ gp from by rw [hg]; exact below_size (by repeat (first | (with_reducible first | exact HB.out | apply below_alloc | apply pw_below_drewN | apply below_drew1) | exact HB.out))); clear hg; have HGp := Aside0.mk hbox; have n0_ := Aside0.mk (below_step (by repeat (first | (with_reducible first | exact HB.out | apply below_alloc | apply pw_below_drewN | apply below_drew1) | exact HB.out)) hb); clear HB; have HB := n0_; clear n0_; clear hb hbox) | ((with_reducible refine gate_dst (N := 6) rfl ?_); refine box_event ?hg (N := 6) ?hd (cs := #[.int .i64 0, .int .i64 0, .int .i64 0, .int .i64 0, .int .i64 0, .int .i64 0, .int .i64 0]) (t := 52) ?hr ?_; (case hd => rfl); (case hg => rfl); (case hr => first | (go_simp; done) | (go_simp; rfl)); intro go hg w_ hbox hb; have HLgo := Aside0.mk (show w.heap.size ≤ go from by rw [hg]; exact below_size (by repeat (first | (with_reducible first | exact HB.out | apply below_alloc | apply pw_below_drewN | apply below_drew1) | exact HB.out))); have Ngp_go := Aside0.mk (show gp ≠ go from by rw [hg]; exact Nat.ne_of_lt (blk_lt HGp.out)); clear hg; have n1_ := Aside0.mk (blk_below HGp.out hb); clear HGp; have HGp := n1_; clear n1_; have HGo := Aside0.mk hbox; have n0_ := Aside0.mk (below_step (by repeat (first | (with_reducible first | exact HB.out | apply below_alloc | apply pw_below_drewN | apply below_drew1) | exact HB.out)) hb); clear HB; have HB := n0_; clear n0_; clear hb hbox; have q_ := HGp.out; obtain ⟨kp_0, kp_1, kp_2, kp_3, kp_4, kp_5, kp_6⟩ := c7 q_; clear q_))
  refine wp_region_held_drew (S := (fun v => v.cell? ⟨gp, 0, none⟩ = some (.int .i64 1) ∧ v.cell? ⟨gp, 1, none⟩ = some (.int .i64 Z) ∧ v.cell? ⟨gp, 2, none⟩ = some (.int .i64 0) ∧ v.cell? ⟨gp, 3, none⟩ = some (.int .i64 0) ∧ v.cell? ⟨gp, 4, none⟩ = some (.int .i64 0) ∧ v.cell? ⟨gp, 5, none⟩ = some (.int .i64 0) ∧ v.cell? ⟨gp, 6, none⟩ = some (.int .i64 0))) (by kernel_rfl) (by exact ⟨kp_0, kp_1, kp_2, kp_3, kp_4, kp_5, kp_6⟩) (fun hHeld => ?_)
  refine wpAnyH_take (i := 0) (v := ?zv0r) rfl (by kernel_rfl) (by kernel_rfl) (by kernel_rfl) (fun _ _ _ h => h) (Or.inl ⟨by rfl, ?zy0r⟩) (by assumption) ?zr0r
  case zy0r => (intro w_ hSw; (try dsimp only at hSw); go_simp; try (with_reducible rfl))
  try simp only [Act.put, List.setIfInBounds_toArray, List.set_cons_zero, List.set_cons_succ, List.getElem_toArray, List.getElem_cons_zero, List.getElem_cons_succ]
  refine wpAnyH_take (i := 1) (v := ?zv1r) rfl (by kernel_rfl) (by kernel_rfl) (by kernel_rfl) (fun _ _ _ h => h) (Or.inl ⟨by rfl, ?zy1r⟩) (by assumption) ?zr1r
  case zy1r => (intro w_ hSw; (try dsimp only at hSw); go_simp; try (with_reducible rfl))
  try simp only [Act.put, List.setIfInBounds_toArray, List.set_cons_zero, List.set_cons_succ, List.getElem_toArray, List.getElem_cons_zero, List.getElem_cons_succ]
  refine wpAnyH_take (i := 2) (v := ?zv2r) rfl (by kernel_rfl) (by kernel_rfl) (by kernel_rfl) (fun _ _ _ h => h) (Or.inl ⟨by rfl, ?zy2r⟩) (by assumption) ?zr2r
  case zy2r => (intro w_ hSw; (try dsimp only at hSw); go_simp; try (with_reducible rfl))
  try simp only [Act.put, List.setIfInBounds_toArray, List.set_cons_zero, List.set_cons_succ, List.getElem_toArray, List.getElem_cons_zero, List.getElem_cons_succ]
  refine wpAnyH_take (i := 3) (v := ?zv3r) rfl (by kernel_rfl) (by kernel_rfl) (by kernel_rfl) (fun _ _ _ h => h) (Or.inl ⟨by rfl, ?zy3r⟩) (by assumption) ?zr3r
  case zy3r => (intro w_ hSw; (try dsimp only at hSw); go_simp; try (with_reducible rfl))
  try simp only [Act.put, List.setIfInBounds_toArray, List.set_cons_zero, List.set_cons_succ, List.getElem_toArray, List.getElem_cons_zero, List.getElem_cons_succ]
  refine wpAnyH_take (i := 4) (v := ?zv4r) rfl (by kernel_rfl) (by kernel_rfl) (by kernel_rfl) (fun _ _ _ h => h) (Or.inl ⟨by rfl, ?zy4r⟩) (by assumption) ?zr4r
  case zy4r => (intro w_ hSw; (try dsimp only at hSw); go_simp; try (with_reducible rfl))
  try simp only [Act.put, List.setIfInBounds_toArray, List.set_cons_zero, List.set_cons_succ, List.getElem_toArray, List.getElem_cons_zero, List.getElem_cons_succ]
  refine wpAnyH_take (i := 5) (v := ?zv5r) rfl (by kernel_rfl) (by kernel_rfl) (by kernel_rfl) (fun _ _ _ h => h) (Or.inl ⟨by rfl, ?zy5r⟩) (by assumption) ?zr5r
  case zy5r => (intro w_ hSw; (try dsimp only at hSw); go_simp; try (with_reducible rfl))
  try simp only [Act.put, List.setIfInBounds_toArray, List.set_cons_zero, List.set_cons_succ, List.getElem_toArray, List.getElem_cons_zero, List.getElem_cons_succ]
  refine wpAnyH_take (i := 6) (v := ?zv6r) rfl (by kernel_rfl) (by kernel_rfl) (by kernel_rfl) (fun _ _ _ h => h) (Or.inl ⟨by rfl, ?zy6r⟩) (by assumption) ?zr6r
  case zy6r => (intro w_ hSw; (try dsimp only at hSw); go_simp; try (with_reducible rfl))
  try simp only [Act.put, List.setIfInBounds_toArray, List.set_cons_zero, List.set_cons_succ, List.getElem_toArray, List.getElem_cons_zero, List.getElem_cons_succ]
  refine wpAnyH_take (i := 7) (v := ?zv7r) rfl (by kernel_rfl) (by kernel_rfl) (by kernel_rfl) (fun _ _ _ h => h) (Or.inl ⟨by rfl, ?zy7r⟩) (by assumption) ?zr7r
  case zy7r => (intro w_ hSw; (try dsimp only at hSw); go_simp; try (with_reducible rfl))
  try simp only [Act.put, List.setIfInBounds_toArray, List.set_cons_zero, List.set_cons_succ, List.getElem_toArray, List.getElem_cons_zero, List.getElem_cons_succ]
  refine wpAnyH_ready (rs := [8]) (by kernel_rfl) (by simp) ?_
  refine AllReadyH.cons rfl (fun K_ hK_ => ?_) AllReadyH.nil
  rw [if_pos (by rfl)]
  refine store_wp 52 (.tmp 6) (.tmp 25) rfl go 0 rfl #[.int .i64 0, .int .i64 Z, .int .i64 0, .int .i64 0, .int .i64 0, .int .i64 0, .int .i64 0] rfl #[.int .i64 0, .int .i64 0, .int .i64 0, .int .i64 0, .int .i64 0, .int .i64 0, .int .i64 0] 52 HGo.out (by simp) (by kernel_rfl) (by first | kernel_rfl | (simp; done)) #[.int .i64 0, .int .i64 Z, .int .i64 0, .int .i64 0, .int .i64 0, .int .i64 0, .int .i64 0] (by kernel_rfl) ?_
  intro w1 hown hoth hbel
  have n1_ := Aside0.mk ((hoth _ Ngp_go.out).trans HGp.out)
  clear HGp kp_0 kp_1 kp_2 kp_3 kp_4 kp_5 kp_6
  have HGp := n1_
  clear n1_
  have q_ := HGp.out
  obtain ⟨kp_0, kp_1, kp_2, kp_3, kp_4, kp_5, kp_6⟩ := c7 q_
  clear q_
  have q_ := hown
  obtain ⟨ko_0, ko_1, ko_2, ko_3, ko_4, ko_5, ko_6⟩ := c7 q_
  have fo_ := blk_frozen q_ 0
  clear q_
  refine hK_.out _ _ ⟨kp_0, kp_1, kp_2, kp_3, kp_4, kp_5, kp_6⟩ (fun hHeld => ?_)
  clear hK_ K_
  try simp only [Act.put, List.setIfInBounds_toArray, List.set_cons_zero, List.set_cons_succ, List.getElem_toArray, List.getElem_cons_zero, List.getElem_cons_succ]
  refine wpAnyH_done (by kernel_rfl) ?_ _
  have n0_ := Aside0.mk (hbel _ _ HLgo.out (by first | exact HB.out | exact pw_below_drewN HB.out 1))
  clear HB
  have HB := n0_
  clear n0_ hbel hoth HGo
  have HGo := Aside0.mk hown
  clear hown hHeld
  go_wp2_with (first | (refine store1_ev rfl go 0 (.int .i64 1) #[.int .i64 0, .int .i64 Z, .int .i64 0, .int .i64 0, .int .i64 0, .int .i64 0, .int .i64 0] 52 HGo.out ?hr #[.int .i64 1, .int .i64 Z, .int .i64 0, .int .i64 0, .int .i64 0, .int .i64 0, .int .i64 0] rfl ?_; (case hr => first | (go_simp; done) | (go_simp; rfl)); intro w_ hown hoth hbel; clear kp_0 kp_1 kp_2 kp_3 kp_4 kp_5 kp_6 ko_0 ko_1 ko_2 ko_3 ko_4 ko_5 ko_6; clear fo_; have n1_ := Aside0.mk ((hoth _ Ngp_go.out).trans HGp.out); clear HGp; have HGp := n1_; clear n1_; have n0_ := Aside0.mk (hbel _ _ HLgo.out (by repeat (first | (with_reducible first | exact HB.out | apply below_alloc | apply pw_below_drewN | apply below_drew1) | exact HB.out))); clear HB; have HB := n0_; clear n0_; clear HGo hbel hoth; have q_ := HGp.out; obtain ⟨kp_0, kp_1, kp_2, kp_3, kp_4, kp_5, kp_6⟩ := c7 q_; clear q_; obtain ⟨ko_0, ko_1, ko_2, ko_3, ko_4, ko_5, ko_6⟩ := c7 hown; clear hown))
  go_ret
  exact ⟨by first | rfl | (simp; done), (by repeat (first | (with_reducible first | exact HB.out | apply below_alloc | apply pw_below_drewN | apply below_drew1) | exact HB.out))⟩
set_option maxHeartbeats 4000000 in
set_option maxRecDepth 100000 in
theorem Of_f3 (Z S N T O A many : Int) (w : World) (h1 : ¬ Z < 0) (h2 : ¬ 1048576 < Z) (hq : (((0 : Int) == S) && (((0 : Int) == N) && (((0 : Int) == T) && (((0 : Int) == O) && (((0 : Int) == A)))))) = false) : Calls Try.prog 74 #[.agg #[.int .i64 1, .int .i64 Z, .int .i64 S, .int .i64 N, .int .i64 T, .int .i64 O, .int .i64 A], .int .i64 many] w fun e w' => e = .returned (.nilIface) ∧ Below w.heap.size w w' := by
  have hu52 := Try.underlying52
  have HB := Aside0.mk (Below.refl w.heap.size w)
  go_enter Try.func74, Try.ntmps74
  go_wp2_with (first | ((with_reducible refine gate_dst (N := 2) rfl ?_); refine box_event ?hg (N := 2) ?hd (cs := #[.int .i64 1, .int .i64 Z, .int .i64 S, .int .i64 N, .int .i64 T, .int .i64 O, .int .i64 A]) (t := 52) ?hr ?_; (case hd => rfl); (case hg => rfl); (case hr => first | (go_simp; done) | (go_simp; rfl)); intro gp hg w_ hbox hb; have HLgp := Aside0.mk (show w.heap.size ≤ gp from by rw [hg]; exact below_size (by repeat (first | (with_reducible first | exact HB.out | apply below_alloc | apply pw_below_drewN | apply below_drew1) | exact HB.out))); clear hg; have HGp := Aside0.mk hbox; have n0_ := Aside0.mk (below_step (by repeat (first | (with_reducible first | exact HB.out | apply below_alloc | apply pw_below_drewN | apply below_drew1) | exact HB.out)) hb); clear HB; have HB := n0_; clear n0_; clear hb hbox) | ((with_reducible refine gate_dst (N := 6) rfl ?_); refine box_event ?hg (N := 6) ?hd (cs := #[.int .i64 0, .int .i64 0, .int .i64 0, .int .i64 0, .int .i64 0, .int .i64 0, .int .i64 0]) (t := 52) ?hr ?_; (case hd => rfl); (case hg => rfl); (case hr => first | (go_simp; done) | (go_simp; rfl)); intro go hg w_ hbox hb; have HLgo := Aside0.mk (show w.heap.size ≤ go from by rw [hg]; exact below_size (by repeat (first | (with_reducible first | exact HB.out | apply below_alloc | apply pw_below_drewN | apply below_drew1) | exact HB.out))); have Ngp_go := Aside0.mk (show gp ≠ go from by rw [hg]; exact Nat.ne_of_lt (blk_lt HGp.out)); clear hg; have n1_ := Aside0.mk (blk_below HGp.out hb); clear HGp; have HGp := n1_; clear n1_; have HGo := Aside0.mk hbox; have n0_ := Aside0.mk (below_step (by repeat (first | (with_reducible first | exact HB.out | apply below_alloc | apply pw_below_drewN | apply below_drew1) | exact HB.out)) hb); clear HB; have HB := n0_; clear n0_; clear hb hbox; have q_ := HGp.out; obtain ⟨kp_0, kp_1, kp_2, kp_3, kp_4, kp_5, kp_6⟩ := c7 q_; clear q_))
  refine wp_region_held_drew (S := (fun v => v.cell? ⟨gp, 0, none⟩ = some (.int .i64 1) ∧ v.cell? ⟨gp, 1, none⟩ = some (.int .i64 Z) ∧ v.cell? ⟨gp, 2, none⟩ = some (.int .i64 S) ∧ v.cell? ⟨gp, 3, none⟩ = some (.int .i64 N) ∧ v.cell? ⟨gp, 4, none⟩ = some (.int .i64 T) ∧ v.cell? ⟨gp, 5, none⟩ = some (.int .i64 O) ∧ v.cell? ⟨gp, 6, none⟩ = some (.int .i64 A))) (by kernel_rfl) (by exact ⟨kp_0, kp_1, kp_2, kp_3, kp_4, kp_5, kp_6⟩) (fun hHeld => ?_)
  refine wpAnyH_take (i := 0) (v := ?zv0r) rfl (by kernel_rfl) (by kernel_rfl) (by kernel_rfl) (fun _ _ _ h => h) (Or.inl ⟨by rfl, ?zy0r⟩) (by assumption) ?zr0r
  case zy0r => (intro w_ hSw; (try dsimp only at hSw); go_simp; try (with_reducible rfl))
  try simp only [Act.put, List.setIfInBounds_toArray, List.set_cons_zero, List.set_cons_succ, List.getElem_toArray, List.getElem_cons_zero, List.getElem_cons_succ]
  refine wpAnyH_take (i := 1) (v := ?zv1r) rfl (by kernel_rfl) (by kernel_rfl) (by kernel_rfl) (fun _ _ _ h => h) (Or.inl ⟨by rfl, ?zy1r⟩) (by assumption) ?zr1r
  case zy1r => (intro w_ hSw; (try dsimp only at hSw); go_simp; try (with_reducible rfl))
  try simp only [Act.put, List.setIfInBounds_toArray, List.set_cons_zero, List.set_cons_succ, List.getElem_toArray, List.getElem_cons_zero, List.getElem_cons_succ]
  refine wpAnyH_take (i := 2) (v := ?zv2r) rfl (by kernel_rfl) (by kernel_rfl) (by kernel_rfl) (fun _ _ _ h => h) (Or.inl ⟨by rfl, ?zy2r⟩) (by assumption) ?zr2r
  case zy2r => (intro w_ hSw; (try dsimp only at hSw); go_simp; try (with_reducible rfl))
  try simp only [Act.put, List.setIfInBounds_toArray, List.set_cons_zero, List.set_cons_succ, List.getElem_toArray, List.getElem_cons_zero, List.getElem_cons_succ]
  refine wpAnyH_take (i := 3) (v := ?zv3r) rfl (by kernel_rfl) (by kernel_rfl) (by kernel_rfl) (fun _ _ _ h => h) (Or.inl ⟨by rfl, ?zy3r⟩) (by assumption) ?zr3r
  case zy3r => (intro w_ hSw; (try dsimp only at hSw); go_simp; try (with_reducible rfl))
  try simp only [Act.put, List.setIfInBounds_toArray, List.set_cons_zero, List.set_cons_succ, List.getElem_toArray, List.getElem_cons_zero, List.getElem_cons_succ]
  refine wpAnyH_take (i := 4) (v := ?zv4r) rfl (by kernel_rfl) (by kernel_rfl) (by kernel_rfl) (fun _ _ _ h => h) (Or.inl ⟨by rfl, ?zy4r⟩) (by assumption) ?zr4r
  case zy4r => (intro w_ hSw; (try dsimp only at hSw); go_simp; try (with_reducible rfl))
  try simp only [Act.put, List.setIfInBounds_toArray, List.set_cons_zero, List.set_cons_succ, List.getElem_toArray, List.getElem_cons_zero, List.getElem_cons_succ]
  refine wpAnyH_take (i := 5) (v := ?zv5r) rfl (by kernel_rfl) (by kernel_rfl) (by kernel_rfl) (fun _ _ _ h => h) (Or.inl ⟨by rfl, ?zy5r⟩) (by assumption) ?zr5r
  case zy5r => (intro w_ hSw; (try dsimp only at hSw); go_simp; try (with_reducible rfl))
  try simp only [Act.put, List.setIfInBounds_toArray, List.set_cons_zero, List.set_cons_succ, List.getElem_toArray, List.getElem_cons_zero, List.getElem_cons_succ]
  refine wpAnyH_take (i := 6) (v := ?zv6r) rfl (by kernel_rfl) (by kernel_rfl) (by kernel_rfl) (fun _ _ _ h => h) (Or.inl ⟨by rfl, ?zy6r⟩) (by assumption) ?zr6r
  case zy6r => (intro w_ hSw; (try dsimp only at hSw); go_simp; try (with_reducible rfl))
  try simp only [Act.put, List.setIfInBounds_toArray, List.set_cons_zero, List.set_cons_succ, List.getElem_toArray, List.getElem_cons_zero, List.getElem_cons_succ]
  refine wpAnyH_take (i := 7) (v := ?zv7r) rfl (by kernel_rfl) (by kernel_rfl) (by kernel_rfl) (fun _ _ _ h => h) (Or.inl ⟨by rfl, ?zy7r⟩) (by assumption) ?zr7r
  case zy7r => (intro w_ hSw; (try dsimp only at hSw); go_simp; try (with_reducible rfl))
  try simp only [Act.put, List.setIfInBounds_toArray, List.set_cons_zero, List.set_cons_succ, List.getElem_toArray, List.getElem_cons_zero, List.getElem_cons_succ]
  refine wpAnyH_ready (rs := [8]) (by kernel_rfl) (by simp) ?_
  refine AllReadyH.cons rfl (fun K_ hK_ => ?_) AllReadyH.nil
  rw [if_pos (by rfl)]
  refine store_wp 52 (.tmp 6) (.tmp 25) rfl go 0 rfl #[.int .i64 0, .int .i64 Z, .int .i64 0, .int .i64 0, .int .i64 0, .int .i64 0, .int .i64 0] rfl #[.int .i64 0, .int .i64 0, .int .i64 0, .int .i64 0, .int .i64 0, .int .i64 0, .int .i64 0] 52 HGo.out (by simp) (by kernel_rfl) (by first | kernel_rfl | (simp; done)) #[.int .i64 0, .int .i64 Z, .int .i64 0, .int .i64 0, .int .i64 0, .int .i64 0, .int .i64 0] (by kernel_rfl) ?_
  intro w1 hown hoth hbel
  have n1_ := Aside0.mk ((hoth _ Ngp_go.out).trans HGp.out)
  clear HGp kp_0 kp_1 kp_2 kp_3 kp_4 kp_5 kp_6
  have HGp := n1_
  clear n1_
  have q_ := HGp.out
  obtain ⟨kp_0, kp_1, kp_2, kp_3, kp_4, kp_5, kp_6⟩ := c7 q_
  clear q_
  have q_ := hown
  obtain ⟨ko_0, ko_1, ko_2, ko_3, ko_4, ko_5, ko_6⟩ := c7 q_
  have fo_ := blk_frozen q_ 0
  clear q_
  refine hK_.out _ _ ⟨kp_0, kp_1, kp_2, kp_3, kp_4, kp_5, kp_6⟩ (fun hHeld => ?_)
  clear hK_ K_
  try simp only [Act.put, List.setIfInBounds_toArray, List.set_cons_zero, List.set_cons_succ, List.getElem_toArray, List.getElem_cons_zero, List.getElem_cons_succ]
  refine wpAnyH_done (by kernel_rfl) ?_ _
  have n0_ := Aside0.mk (hbel _ _ HLgo.out (by first | exact HB.out | exact pw_below_drewN HB.out 1))
  clear HB
  have HB := n0_
  clear n0_ hbel hoth HGo
  have HGo := Aside0.mk hown
  clear hown hHeld
  go_wp2_with (first | (refine store1_ev rfl go 0 (.int .i64 1) #[.int .i64 0, .int .i64 Z, .int .i64 0, .int .i64 0, .int .i64 0, .int .i64 0, .int .i64 0] 52 HGo.out ?hr #[.int .i64 1, .int .i64 Z, .int .i64 0, .int .i64 0, .int .i64 0, .int .i64 0, .int .i64 0] rfl ?_; (case hr => first | (go_simp; done) | (go_simp; rfl)); intro w_ hown hoth hbel; clear kp_0 kp_1 kp_2 kp_3 kp_4 kp_5 kp_6 ko_0 ko_1 ko_2 ko_3 ko_4 ko_5 ko_6; clear fo_; have n1_ := Aside0.mk ((hoth _ Ngp_go.out).trans HGp.out); clear HGp; have HGp := n1_; clear n1_; have n0_ := Aside0.mk (hbel _ _ HLgo.out (by repeat (first | (with_reducible first | exact HB.out | apply below_alloc | apply pw_below_drewN | apply below_drew1) | exact HB.out))); clear HB; have HB := n0_; clear n0_; clear HGo hbel hoth; have q_ := HGp.out; obtain ⟨kp_0, kp_1, kp_2, kp_3, kp_4, kp_5, kp_6⟩ := c7 q_; clear q_; obtain ⟨ko_0, ko_1, ko_2, ko_3, ko_4, ko_5, ko_6⟩ := c7 hown; clear hown))
  go_ret
  exact ⟨by first | rfl | (simp; done), (by repeat (first | (with_reducible first | exact HB.out | apply below_alloc | apply pw_below_drewN | apply below_drew1) | exact HB.out))⟩
set_option maxHeartbeats 4000000 in
set_option maxRecDepth 100000 in
theorem Of_b0 (Z S N T O A many : Int) (w : World) (h1 :  S < 1) : Calls Try.prog 74 #[.agg #[.int .i64 2, .int .i64 Z, .int .i64 S, .int .i64 N, .int .i64 T, .int .i64 O, .int .i64 A], .int .i64 many] w fun e w' => e = .returned (.nilIface) ∧ Below w.heap.size w w' := by
  have hu52 := Try.underlying52
  have HB := Aside0.mk (Below.refl w.heap.size w)
  go_enter Try.func74, Try.ntmps74
  go_wp2_with (first | ((with_reducible refine gate_dst (N := 2) rfl ?_); refine box_event ?hg (N := 2) ?hd (cs := #[.int .i64 2, .int .i64 Z, .int .i64 S, .int .i64 N, .int .i64 T, .int .i64 O, .int .i64 A]) (t := 52) ?hr ?_; (case hd => rfl); (case hg => rfl); (case hr => first | (go_simp; done) | (go_simp; rfl)); intro gp hg w_ hbox hb; have HLgp := Aside0.mk (show w.heap.size ≤ gp from by rw [hg]; exact below_size (by repeat (first | (with_reducible first | exact HB.out | apply below_alloc | apply pw_below_drewN | apply below_drew1) | exact HB.out))); clear hg; have HGp := Aside0.mk hbox; have n0_ := Aside0.mk (below_step (by repeat (first | (with_reducible first | exact HB.out | apply below_alloc | apply pw_below_drewN | apply below_drew1) | exact HB.out)) hb); clear HB; have HB := n0_; clear n0_; clear hb hbox) | ((with_reducible refine gate_dst (N := 6) rfl ?_); refine box_event ?hg (N := 6) ?hd (cs := #[.int .i64 0, .int .i64 0, .int .i64 0, .int .i64 0, .int .i64 0, .int .i64 0, .int .i64 0]) (t := 52) ?hr ?_; (case hd => rfl); (case hg => rfl); (case hr => first | (go_simp; done) | (go_simp; rfl)); intro go hg w_ hbox hb; have HLgo := Aside0.mk (show w.heap.size ≤ go from by rw [hg]; exact below_size (by repeat (first | (with_reducible first | exact HB.out | apply below_alloc | apply pw_below_drewN | apply below_drew1) | exact HB.out))); have Ngp_go := Aside0.mk (show gp ≠ go from by rw [hg]; exact Nat.ne_of_lt (blk_lt HGp.out)); clear hg; have n1_ := Aside0.mk (blk_below HGp.out hb); clear HGp; have HGp := n1_; clear n1_; have HGo := Aside0.mk hbox; have n0_ := Aside0.mk (below_step (by repeat (first | (with_reducible first | exact HB.out | apply below_alloc | apply pw_below_drewN | apply below_drew1) | exact HB.out)) hb); clear HB; have HB := n0_; clear n0_; clear hb hbox; have q_ := HGp.out; obtain ⟨kp_0, kp_1, kp_2, kp_3, kp_4, kp_5, kp_6⟩ := c7 q_; clear q_))
  go_ret
  exact ⟨by first | rfl | (simp; done), (by repeat (first | (with_reducible first | exact HB.out | apply below_alloc | apply pw_below_drewN | apply below_drew1) | exact HB.out))⟩
set_option maxHeartbeats 4000000 in
set_option maxRecDepth 100000 in
theorem Of_b1 (Z S N T O A many : Int) (w : World) (h1 : ¬ S < 1) (h2 :  N ≤ S) : Calls Try.prog 74 #[.agg #[.int .i64 2, .int .i64 Z, .int .i64 S, .int .i64 N, .int .i64 T, .int .i64 O, .int .i64 A], .int .i64 many] w fun e w' => e = .returned (.nilIface) ∧ Below w.heap.size w w' := by
  have hu52 := Try.underlying52
  have HB := Aside0.mk (Below.refl w.heap.size w)
  go_enter Try.func74, Try.ntmps74
  go_wp2_with (first | ((with_reducible refine gate_dst (N := 2) rfl ?_); refine box_event ?hg (N := 2) ?hd (cs := #[.int .i64 2, .int .i64 Z, .int .i64 S, .int .i64 N, .int .i64 T, .int .i64 O, .int .i64 A]) (t := 52) ?hr ?_; (case hd => rfl); (case hg => rfl); (case hr => first | (go_simp; done) | (go_simp; rfl)); intro gp hg w_ hbox hb; have HLgp := Aside0.mk (show w.heap.size ≤ gp from by rw [hg]; exact below_size (by repeat (first | (with_reducible first | exact HB.out | apply below_alloc | apply pw_below_drewN | apply below_drew1) | exact HB.out))); clear hg; have HGp := Aside0.mk hbox; have n0_ := Aside0.mk (below_step (by repeat (first | (with_reducible first | exact HB.out | apply below_alloc | apply pw_below_drewN | apply below_drew1) | exact HB.out)) hb); clear HB; have HB := n0_; clear n0_; clear hb hbox) | ((with_reducible refine gate_dst (N := 6) rfl ?_); refine box_event ?hg (N := 6) ?hd (cs := #[.int .i64 0, .int .i64 0, .int .i64 0, .int .i64 0, .int .i64 0, .int .i64 0, .int .i64 0]) (t := 52) ?hr ?_; (case hd => rfl); (case hg => rfl); (case hr => first | (go_simp; done) | (go_simp; rfl)); intro go hg w_ hbox hb; have HLgo := Aside0.mk (show w.heap.size ≤ go from by rw [hg]; exact below_size (by repeat (first | (with_reducible first | exact HB.out | apply below_alloc | apply pw_below_drewN | apply below_drew1) | exact HB.out))); have Ngp_go := Aside0.mk (show gp ≠ go from by rw [hg]; exact Nat.ne_of_lt (blk_lt HGp.out)); clear hg; have n1_ := Aside0.mk (blk_below HGp.out hb); clear HGp; have HGp := n1_; clear n1_; have HGo := Aside0.mk hbox; have n0_ := Aside0.mk (below_step (by repeat (first | (with_reducible first | exact HB.out | apply below_alloc | apply pw_below_drewN | apply below_drew1) | exact HB.out)) hb); clear HB; have HB := n0_; clear n0_; clear hb hbox; have q_ := HGp.out; obtain ⟨kp_0, kp_1, kp_2, kp_3, kp_4, kp_5, kp_6⟩ := c7 q_; clear q_))
  go_ret
  exact ⟨by first | rfl | (simp; done), (by repeat (first | (with_reducible first | exact HB.out | apply below_alloc | apply pw_below_drewN | apply below_drew1) | exact HB.out))⟩
set_option maxHeartbeats 4000000 in
set_option maxRecDepth 100000 in
theorem Of_b2 (Z S N T O A many : Int) (w : World) (h1 : ¬ S < 1) (h2 : ¬ N ≤ S) (h3 :  15 < N) : Calls Try.prog 74 #[.agg #[.int .i64 2, .int .i64 Z, .int .i64 S, .int .i64 N, .int .i64 T, .int .i64 O, .int .i64 A], .int .i64 many] w fun e w' => e = .returned (.nilIface) ∧ Below w.heap.size w w' := by
  have hu52 := Try.underlying52
  have HB := Aside0.mk (Below.refl w.heap.size w)
  go_enter Try.func74, Try.ntmps74
  go_wp2_with (first | ((with_reducible refine gate_dst (N := 2) rfl ?_); refine box_event ?hg (N := 2) ?hd (cs := #[.int .i64 2, .int .i64 Z, .int .i64 S, .int .i64 N, .int .i64 T, .int .i64 O, .int .i64 A]) (t := 52) ?hr ?_; (case hd => rfl); (case hg => rfl); (case hr => first | (go_simp; done) | (go_simp; rfl)); intro gp hg w_ hbox hb; have HLgp := Aside0.mk (show w.heap.size ≤ gp from by rw [hg]; exact below_size (by repeat (first | (with_reducible first | exact HB.out | apply below_alloc | apply pw_below_drewN | apply below_drew1) | exact HB.out))); clear hg; have HGp := Aside0.mk hbox; have n0_ := Aside0.mk (below_step (by repeat (first | (with_reducible first | exact HB.out | apply below_alloc | apply pw_below_drewN | apply below_drew1) | exact HB.out)) hb); clear HB; have HB := n0_; clear n0_; clear hb hbox) | ((with_reducible refine gate_dst (N := 6) rfl ?_); refine box_event ?hg (N := 6) ?hd (cs := #[.int .i64 0, .int .i64 0, .int .i64 0, .int .i64 0, .int .i64 0, .int .i64 0, .int .i64 0]) (t := 52) ?hr ?_; (case hd => rfl); (case hg => rfl); (case hr => first | (go_simp; done) | (go_simp; rfl)); intro go hg w_ hbox hb; have HLgo := Aside0.mk (show w.heap.size ≤ go from by rw [hg]; exact below_size (by repeat (first | (with_reducible first | exact HB.out | apply below_alloc | apply pw_below_drewN | apply below_drew1) | exact HB.out))); have Ngp_go := Aside0.mk (show gp ≠ go from by rw [hg]; exact Nat.ne_of_lt (blk_lt HGp.out)); clear hg; have n1_ := Aside0.mk (blk_below HGp.out hb); clear HGp; have HGp := n1_; clear n1_; have HGo := Aside0.mk hbox; have n0_ := Aside0.mk (below_step (by repeat (first | (with_reducible first | exact HB.out | apply below_alloc | apply pw_below_drewN | apply below_drew1) | exact HB.out)) hb); clear HB; have HB := n0_; clear n0_; clear hb hbox; have q_ := HGp.out; obtain ⟨kp_0, kp_1, kp_2, kp_3, kp_4, kp_5, kp_6⟩ := c7 q_; clear q_))
  go_ret
  exact ⟨by first | rfl | (simp; done), (by repeat (first | (with_reducible first | exact HB.out | apply below_alloc | apply pw_below_drewN | apply below_drew1) | exact HB.out))⟩
set_option maxHeartbeats 4000000 in
set_option maxRecDepth 100000 in
theorem Of_b3 (Z S N T O A many : Int) (w : World) (h1 : ¬ S < 1) (h2 : ¬ N ≤ S) (h3 : ¬ 15 < N) (h4 :  T < 0) : Calls Try.prog 74 #[.agg #[.int .i64 2, .int .i64 Z, .int .i64 S, .int .i64 N, .int .i64 T, .int .i64 O, .int .i64 A], .int .i64 many] w fun e w' => e = .returned (.nilIface) ∧ Below w.heap.size w w' := by
  have hu52 := Try.underlying52
  have HB := Aside0.mk (Below.refl w.heap.size w)
  go_enter Try.func74, Try.ntmps74
  go_wp2_with (first | ((with_reducible refine gate_dst (N := 2) rfl ?_); refine box_event ?hg (N := 2) ?hd (cs := #[.int .i64 2, .int .i64 Z, .int .i64 S, .int .i64 N, .int .i64 T, .int .i64 O, .int .i64 A]) (t := 52) ?hr ?_; (case hd => rfl); (case hg => rfl); (case hr => first | (go_simp; done) | (go_simp; rfl)); intro gp hg w_ hbox hb; have HLgp := Aside0.mk (show w.heap.size ≤ gp from by rw [hg]; exact below_size (by repeat (first | (with_reducible first | exact HB.out | apply below_alloc | apply pw_below_drewN | apply below_drew1) | exact HB.out))); clear hg; have HGp := Aside0.mk hbox; have n0_ := Aside0.mk (below_step (by repeat (first | (with_reducible first | exact HB.out | apply below_alloc | apply pw_below_drewN | apply below_drew1) | exact HB.out)) hb); clear HB; have HB := n0_; clear n0_; clear hb hbox) | ((with_reducible refine gate_dst (N := 6) rfl ?_); refine box_event ?hg (N := 6) ?hd (cs := #[.int .i64 0, .int .i64 0, .int .i64 0, .int .i64 0, .int .i64 0, .int .i64 0, .int .i64 0]) (t := 52) ?hr ?_; (case hd => rfl); (case hg => rfl); (case hr => first | (go_simp; done) | (go_simp; rfl)); intro go hg w_ hbox hb; have HLgo := Aside0.mk (show w.heap.size ≤ go from by rw [hg]; exact below_size (by repeat (first | (with_reducible first | exact HB.out | apply below_alloc | apply pw_below_drewN | apply below_drew1) | exact HB.out))); have Ngp_go := Aside0.mk (show gp ≠ go from by rw [hg]; exact Nat.ne_of_lt (blk_lt HGp.out)); clear hg; have n1_ := Aside0.mk (blk_below HGp.out hb); clear HGp; have HGp := n1_; clear n1_; have HGo := Aside0.mk hbox; have n0_ := Aside0.mk (below_step (by repeat (first | (with_reducible first | exact HB.out | apply below_alloc | apply pw_below_drewN | apply below_drew1) | exact HB.out)) hb); clear HB; have HB := n0_; clear n0_; clear hb hbox; have q_ := HGp.out; obtain ⟨kp_0, kp_1, kp_2, kp_3, kp_4, kp_5, kp_6⟩ := c7 q_; clear q_))
  go_ret
  exact ⟨by first | rfl | (simp; done), (by repeat (first | (with_reducible first | exact HB.out | apply below_alloc | apply pw_below_drewN | apply below_drew1) | exact HB.out))⟩
set_option maxHeartbeats 4000000 in
set_option maxRecDepth 100000 in
theorem Of_b4 (Z S N T O A many : Int) (w : World) (h1 : ¬ S < 1) (h2 : ¬ N ≤ S) (h3 : ¬ 15 < N) (h4 : ¬ T < 0) (h5 :  many < T) : Calls Try.prog 74 #[.agg #[.int .i64 2, .int .i64 Z, .int .i64 S, .int .i64 N, .int .i64 T, .int .i64 O, .int .i64 A], .int .i64 many] w fun e w' => e = .returned (.nilIface) ∧ Below w.heap.size w w' := by
  have hu52 := Try.underlying52
  have HB := Aside0.mk (Below.refl w.heap.size w)
  go_enter Try.func74, Try.ntmps74
  go_wp2_with (first | ((with_reducible refine gate_dst (N := 2) rfl ?_); refine box_event ?hg (N := 2) ?hd (cs := #[.int .i64 2, .int .i64 Z, .int .i64 S, .int .i64 N, .int .i64 T, .int .i64 O, .int .i64 A]) (t := 52) ?hr ?_; (case hd => rfl); (case hg => rfl); (case hr => first | (go_simp; done) | (go_simp; rfl)); intro gp hg w_ hbox hb; have HLgp := Aside0.mk (show w.heap.size ≤ gp from by rw [hg]; exact below_size (by repeat (first | (with_reducible first | exact HB.out | apply below_alloc | apply pw_below_drewN | apply below_drew1) | exact HB.out))); clear hg; have HGp := Aside0.mk hbox; have n0_ := Aside0.mk (below_step (by repeat (first | (with_reducible first | exact HB.out | apply below_alloc | apply pw_below_drewN | apply below_drew1) | exact HB.out)) hb); clear HB; have HB := n0_; clear n0_; clear hb hbox) | ((with_reducible refine gate_dst (N := 6) rfl ?_); refine box_event ?hg (N := 6) ?hd (cs := #[.int .i64 0, .int .i64 0, .int .i64 0, .int .i64 0, .int .i64 0, .int .i64 0, .int .i64 0]) (t := 52) ?hr ?_; (case hd => rfl); (case hg => rfl); (case hr => first | (go_simp; done) | (go_simp; rfl)); intro go hg w_ hbox hb; have HLgo := Aside0.mk (show w.heap.size ≤ go from by rw [hg]; exact below_size (by repeat (first | (with_reducible first | exact HB.out | apply below_alloc | apply pw_below_drewN | apply below_drew1) | exact HB.out))); have Ngp_go := Aside0.mk (show gp ≠ go from by rw [hg]; exact Nat.ne_of_lt (blk_lt HGp.out)); clear hg; have n1_ := Aside0.mk (blk_below HGp.out hb); clear HGp; have HGp := n1_; clear n1_; have HGo := Aside0.mk hbox; have n0_ := Aside0.mk (below_step (by repeat (first | (with_reducible first | exact HB.out | apply below_alloc | apply pw_below_drewN | apply below_drew1) | exact HB.out)) hb); clear HB; have HB := n0_; clear n0_; clear hb hbox; have q_ := HGp.out; obtain ⟨kp_0, kp_1, kp_2, kp_3, kp_4, kp_5, kp_6⟩ := c7 q_; clear q_))
  go_ret
  exact ⟨by first | rfl | (simp; done), (by repeat (first | (with_reducible first | exact HB.out | apply below_alloc | apply pw_below_drewN | apply below_drew1) | exact HB.out))⟩
set_option maxHeartbeats 4000000 in
set_option maxRecDepth 100000 in
theorem Of_br5 (Z S N T O A many : Int) (w : World) (h1 : ¬ S < 1) (h2 : ¬ N ≤ S) (h3 : ¬ 15 < N) (h4 : ¬ T < 0) (h5 : ¬ many < T) (hF : XLay.field_Fits.f O 32 = some false) : Calls Try.prog 74 #[.agg #[.int .i64 2, .int .i64 Z, .int .i64 S, .int .i64 N, .int .i64 T, .int .i64 O, .int .i64 A], .int .i64 many] w fun e w' => e = .returned (.nilIface) ∧ Below w.heap.size w w' := by
  have hu52 := Try.underlying52
  have HB := Aside0.mk (Below.refl w.heap.size w)
  go_enter Try.func74, Try.ntmps74
  go_wp2_with (first | ((with_reducible refine gate_dst (N := 2) rfl ?_); refine box_event ?hg (N := 2) ?hd (cs := #[.int .i64 2, .int .i64 Z, .int .i64 S, .int .i64 N, .int .i64 T, .int .i64 O, .int .i64 A]) (t := 52) ?hr ?_; (case hd => rfl); (case hg => rfl); (case hr => first | (go_simp; done) | (go_simp; rfl)); intro gp hg w_ hbox hb; have HLgp := Aside0.mk (show w.heap.size ≤ gp from by rw [hg]; exact below_size (by repeat (first | (with_reducible first | exact HB.out | apply below_alloc | apply pw_below_drewN | apply below_drew1) | exact HB.out))); clear hg; have HGp := Aside0.mk hbox; have n0_ := Aside0.mk (below_step (by repeat (first | (with_reducible first | exact HB.out | apply below_alloc | apply pw_below_drewN | apply below_drew1) | exact HB.out)) hb); clear HB; have HB := n0_; clear n0_; clear hb hbox) | ((with_reducible refine gate_dst (N := 6) rfl ?_); refine box_event ?hg (N := 6) ?hd (cs := #[.int .i64 0, .int .i64 0, .int .i64 0, .int .i64 0, .int .i64 0, .int .i64 0, .int .i64 0]) (t := 52) ?hr ?_; (case hd => rfl); (case hg => rfl); (case hr => first | (go_simp; done) | (go_simp; rfl)); intro go hg w_ hbox hb; have HLgo := Aside0.mk (show w.heap.size ≤ go from by rw [hg]; exact below_size (by repeat (first | (with_reducible first | exact HB.out | apply below_alloc | apply pw_below_drewN | apply below_drew1) | exact HB.out))); have Ngp_go := Aside0.mk (show gp ≠ go from by rw [hg]; exact Nat.ne_of_lt (blk_lt HGp.out)); clear hg; have n1_ := Aside0.mk (blk_below HGp.out hb); clear HGp; have HGp := n1_; clear n1_; have HGo := Aside0.mk hbox; have n0_ := Aside0.mk (below_step (by repeat (first | (with_reducible first | exact HB.out | apply below_alloc | apply pw_below_drewN | apply below_drew1) | exact HB.out)) hb); clear HB; have HB := n0_; clear n0_; clear hb hbox; have q_ := HGp.out; obtain ⟨kp_0, kp_1, kp_2, kp_3, kp_4, kp_5, kp_6⟩ := c7 q_; clear q_) | ((with_reducible refine gate_callee (f := 21) rfl ?_); (try (refine gate_guard (by rfl) ?_; dsimp only)); refine goesL_ (some 57) rfl rfl Try.func21 (by kernel_rfl) rfl #[.int .i64 O, .int .i64 32] rfl (by (try simp only [List.map_toArray, List.map_cons, List.map_nil]); first | done | rfl) ?_; refine (XLay.field_Fits.calls O 32 _ _ hF).mono ?_; rintro e w_ ⟨rfl, hd⟩; have hb := hd.below; clear hd; refine ⟨_, rfl, ?_⟩; clear kp_0 kp_1 kp_2 kp_3 kp_4 kp_5 kp_6; have n1_ := Aside0.mk (blk_below HGp.out hb); clear HGp; have HGp := n1_; clear n1_; have n1_ := Aside0.mk (blk_below HGo.out hb); clear HGo; have HGo := n1_; clear n1_; have n0_ := Aside0.mk (below_step (by repeat (first | (with_reducible first | exact HB.out | apply below_alloc | apply pw_below_drewN | apply below_drew1) | exact HB.out)) hb); clear HB; have HB := n0_; clear n0_; clear hb; have q_ := HGp.out; obtain ⟨kp_0, kp_1, kp_2, kp_3, kp_4, kp_5, kp_6⟩ := c7 q_; clear q_))
  go_ret
  exact ⟨by first | rfl | (simp; done), (by repeat (first | (with_reducible first | exact HB.out | apply below_alloc | apply pw_below_drewN | apply below_drew1) | exact HB.out))⟩
set_option maxHeartbeats 4000000 in
set_option maxRecDepth 100000 in
theorem Of_br (S N T O many : Int) (w : World) (h1 : ¬ S < 1) (h2 : ¬ N ≤ S) (h3 : ¬ 15 < N) (h4 : ¬ T < 0) (h5 : ¬ many < T) (hF : XLay.field_Fits.f O 32 = some true) : Calls Try.prog 74 #[.agg #[.int .i64 2, .int .i64 0, .int .i64 S, .int .i64 N, .int .i64 T, .int .i64 O, .int .i64 0], .int .i64 many] w fun e w' => e = .returned (.iface 82 (.agg #[.int .i64 S, .int .i64 N, .int .i64 T, .int .i64 O])) ∧ Below w.heap.size w w' := by
  have hu52 := Try.underlying52
  have HB := Aside0.mk (Below.refl w.heap.size w)
  go_enter Try.func74, Try.ntmps74
  go_wp2_with (first | ((with_reducible refine gate_dst (N := 2) rfl ?_); refine box_event ?hg (N := 2) ?hd (cs := #[.int .i64 2, .int .i64 0, .int .i64 S, .int .i64 N, .int .i64 T, .int .i64 O, .int .i64 0]) (t := 52) ?hr ?_; (case hd => rfl); (case hg => rfl); (case hr => first | (go_simp; done) | (go_simp; rfl)); intro gp hg w_ hbox hb; have HLgp := Aside0.mk (show w.heap.size ≤ gp from by rw [hg]; exact below_size (by repeat (first | (with_reducible first | exact HB.out | apply below_alloc | apply pw_below_drewN | apply below_drew1) | exact HB.out))); clear hg; have HGp := Aside0.mk hbox; have n0_ := Aside0.mk (below_step (by repeat (first | (with_reducible first | exact HB.out | apply below_alloc | apply pw_below_drewN | apply below_drew1) | exact HB.out)) hb); clear HB; have HB := n0_; clear n0_; clear hb hbox) | ((with_reducible refine gate_dst (N := 6) rfl ?_); refine box_event ?hg (N := 6) ?hd (cs := #[.int .i64 0, .int .i64 0, .int .i64 0, .int .i64 0, .int .i64 0, .int .i64 0, .int .i64 0]) (t := 52) ?hr ?_; (case hd => rfl); (case hg => rfl); (case hr => first | (go_simp; done) | (go_simp; rfl)); intro go hg w_ hbox hb; have HLgo := Aside0.mk (show w.heap.size ≤ go from by rw [hg]; exact below_size (by repeat (first | (with_reducible first | exact HB.out | apply below_alloc | apply pw_below_drewN | apply below_drew1) | exact HB.out))); have Ngp_go := Aside0.mk (show gp ≠ go from by rw [hg]; exact Nat.ne_of_lt (blk_lt HGp.out)); clear hg; have n1_ := Aside0.mk (blk_below HGp.out hb); clear HGp; have HGp := n1_; clear n1_; have HGo := Aside0.mk hbox; have n0_ := Aside0.mk (below_step (by repeat (first | (with_reducible first | exact HB.out | apply below_alloc | apply pw_below_drewN | apply below_drew1) | exact HB.out)) hb); clear HB; have HB := n0_; clear n0_; clear hb hbox; have q_ := HGp.out; obtain ⟨kp_0, kp_1, kp_2, kp_3, kp_4, kp_5, kp_6⟩ := c7 q_; clear q_) | ((with_reducible refine gate_callee (f := 21) rfl ?_); (try (refine gate_guard (by rfl) ?_; dsimp only)); refine goesL_ (some 57) rfl rfl Try.func21 (by kernel_rfl) rfl #[.int .i64 O, .int .i64 32] rfl (by (try simp only [List.map_toArray, List.map_cons, List.map_nil]); first | done | rfl) ?_; refine (XLay.field_Fits.calls O 32 _ _ hF).mono ?_; rintro e w_ ⟨rfl, hd⟩; have hb := hd.below; clear hd; refine ⟨_, rfl, ?_⟩; clear kp_0 kp_1 kp_2 kp_3 kp_4 kp_5 kp_6; have n1_ := Aside0.mk (blk_below HGp.out hb); clear HGp; have HGp := n1_; clear n1_; have n1_ := Aside0.mk (blk_below HGo.out hb); clear HGo; have HGo := n1_; clear n1_; have n0_ := Aside0.mk (below_step (by repeat (first | (with_reducible first | exact HB.out | apply below_alloc | apply pw_below_drewN | apply below_drew1) | exact HB.out)) hb); clear HB; have HB := n0_; clear n0_; clear hb; have q_ := HGp.out; obtain ⟨kp_0, kp_1, kp_2, kp_3, kp_4, kp_5, kp_6⟩ := c7 q_; clear q_))
  refine wp_region_held_drew (S := (fun v => v.cell? ⟨gp, 0, none⟩ = some (.int .i64 2) ∧ v.cell? ⟨gp, 1, none⟩ = some (.int .i64 0) ∧ v.cell? ⟨gp, 2, none⟩ = some (.int .i64 S) ∧ v.cell? ⟨gp, 3, none⟩ = some (.int .i64 N) ∧ v.cell? ⟨gp, 4, none⟩ = some (.int .i64 T) ∧ v.cell? ⟨gp, 5, none⟩ = some (.int .i64 O) ∧ v.cell? ⟨gp, 6, none⟩ = some (.int .i64 0))) (by kernel_rfl) (by exact ⟨kp_0, kp_1, kp_2, kp_3, kp_4, kp_5, kp_6⟩) (fun hHeld => ?_)
  refine wpAnyH_take (i := 0) (v := ?zv0r) rfl (by kernel_rfl) (by kernel_rfl) (by kernel_rfl) (fun _ _ _ h => h) (Or.inl ⟨by rfl, ?zy0r⟩) (by assumption) ?zr0r
  case zy0r => (intro w_ hSw; (try dsimp only at hSw); go_simp; try (with_reducible rfl))
  try simp only [Act.put, List.setIfInBounds_toArray, List.set_cons_zero, List.set_cons_succ, List.getElem_toArray, List.getElem_cons_zero, List.getElem_cons_succ]
  refine wpAnyH_take (i := 1) (v := ?zv1r) rfl (by kernel_rfl) (by kernel_rfl) (by kernel_rfl) (fun _ _ _ h => h) (Or.inl ⟨by rfl, ?zy1r⟩) (by assumption) ?zr1r
  case zy1r => (intro w_ hSw; (try dsimp only at hSw); go_simp; try (with_reducible rfl))
  try simp only [Act.put, List.setIfInBounds_toArray, List.set_cons_zero, List.set_cons_succ, List.getElem_toArray, List.getElem_cons_zero, List.getElem_cons_succ]
  refine wpAnyH_take (i := 2) (v := ?zv2r) rfl (by kernel_rfl) (by kernel_rfl) (by kernel_rfl) (fun _ _ _ h => h) (Or.inl ⟨by rfl, ?zy2r⟩) (by assumption) ?zr2r
  case zy2r => (intro w_ hSw; (try dsimp only at hSw); go_simp; try (with_reducible rfl))
  try simp only [Act.put, List.setIfInBounds_toArray, List.set_cons_zero, List.set_cons_succ, List.getElem_toArray, List.getElem_cons_zero, List.getElem_cons_succ]
  refine wpAnyH_take (i := 3) (v := ?zv3r) rfl (by kernel_rfl) (by kernel_rfl) (by kernel_rfl) (fun _ _ _ h => h) (Or.inl ⟨by rfl, ?zy3r⟩) (by assumption) ?zr3r
  case zy3r => (intro w_ hSw; (try dsimp only at hSw); go_simp; try (with_reducible rfl))
  try simp only [Act.put, List.setIfInBounds_toArray, List.set_cons_zero, List.set_cons_succ, List.getElem_toArray, List.getElem_cons_zero, List.getElem_cons_succ]
  refine wpAnyH_take (i := 4) (v := ?zv4r) rfl (by kernel_rfl) (by kernel_rfl) (by kernel_rfl) (fun _ _ _ h => h) (Or.inl ⟨by rfl, ?zy4r⟩) (by assumption) ?zr4r
  case zy4r => (intro w_ hSw; (try dsimp only at hSw); go_simp; try (with_reducible rfl))
  try simp only [Act.put, List.setIfInBounds_toArray, List.set_cons_zero, List.set_cons_succ, List.getElem_toArray, List.getElem_cons_zero, List.getElem_cons_succ]
  refine wpAnyH_take (i := 5) (v := ?zv5r) rfl (by kernel_rfl) (by kernel_rfl) (by kernel_rfl) (fun _ _ _ h => h) (Or.inl ⟨by rfl, ?zy5r⟩) (by assumption) ?zr5r
  case zy5r => (intro w_ hSw; (try dsimp only at hSw); go_simp; try (with_reducible rfl))
  try simp only [Act.put, List.setIfInBounds_toArray, List.set_cons_zero, List.set_cons_succ, List.getElem_toArray, List.getElem_cons_zero, List.getElem_cons_succ]
  refine wpAnyH_take (i := 6) (v := ?zv6r) rfl (by kernel_rfl) (by kernel_rfl) (by kernel_rfl) (fun _ _ _ h => h) (Or.inl ⟨by rfl, ?zy6r⟩) (by assumption) ?zr6r
  case zy6r => (intro w_ hSw; (try dsimp only at hSw); go_simp; try (with_reducible rfl))
  try simp only [Act.put, List.setIfInBounds_toArray, List.set_cons_zero, List.set_cons_succ, List.getElem_toArray, List.getElem_cons_zero, List.getElem_cons_succ]
  refine wpAnyH_take (i := 7) (v := ?zv7r) rfl (by kernel_rfl) (by kernel_rfl) (by kernel_rfl) (fun _ _ _ h => h) (Or.inl ⟨by rfl, ?zy7r⟩) (by assumption) ?zr7r
  case zy7r => (intro w_ hSw; (try dsimp only at hSw); go_simp; try (with_reducible rfl))
  try simp only [Act.put, List.setIfInBounds_toArray, List.set_cons_zero, List.set_cons_succ, List.getElem_toArray, List.getElem_cons_zero, List.getElem_cons_succ]
  refine wpAnyH_take (i := 8) (v := ?zv8r) rfl (by kernel_rfl) (by kernel_rfl) (by kernel_rfl) (fun _ _ _ h => h) (Or.inl ⟨by rfl, ?zy8r⟩) (by assumption) ?zr8r
  case zy8r => (intro w_ hSw; (try dsimp only at hSw); go_simp; try (with_reducible rfl))
  try simp only [Act.put, List.setIfInBounds_toArray, List.set_cons_zero, List.set_cons_succ, List.getElem_toArray, List.getElem_cons_zero, List.getElem_cons_succ]
  refine wpAnyH_take (i := 9) (v := ?zv9r) rfl (by kernel_rfl) (by kernel_rfl) (by kernel_rfl) (fun _ _ _ h => h) (Or.inl ⟨by rfl, ?zy9r⟩) (by assumption) ?zr9r
  case zy9r => (intro w_ hSw; (try dsimp only at hSw); go_simp; try (with_reducible rfl))
  try simp only [Act.put, List.setIfInBounds_toArray, List.set_cons_zero, List.set_cons_succ, List.getElem_toArray, List.getElem_cons_zero, List.getElem_cons_succ]
  refine wpAnyH_take (i := 10) (v := ?zv10r) rfl (by kernel_rfl) (by kernel_rfl) (by kernel_rfl) (fun _ _ _ h => h) (Or.inl ⟨by rfl, ?zy10r⟩) (by assumption) ?zr10r
  case zy10r => (intro w_ hSw; (try dsimp only at hSw); go_simp; try (with_reducible rfl))
  try simp only [Act.put, List.setIfInBounds_toArray, List.set_cons_zero, List.set_cons_succ, List.getElem_toArray, List.getElem_cons_zero, List.getElem_cons_succ]
  refine wpAnyH_take (i := 11) (v := ?zv11r) rfl (by kernel_rfl) (by kernel_rfl) (by kernel_rfl) (fun _ _ _ h => h) (Or.inl ⟨by rfl, ?zy11r⟩) (by assumption) ?zr11r
  case zy11r => (intro w_ hSw; (try dsimp only at hSw); go_simp; try (with_reducible rfl))
  try simp only [Act.put, List.setIfInBounds_toArray, List.set_cons_zero, List.set_cons_succ, List.getElem_toArray, List.getElem_cons_zero, List.getElem_cons_succ]
  refine wpAnyH_take (i := 12) (v := ?zv12r) rfl (by kernel_rfl) (by kernel_rfl) (by kernel_rfl) (fun _ _ _ h => h) (Or.inl ⟨by rfl, ?zy12r⟩) (by assumption) ?zr12r
  case zy12r => (intro w_ hSw; (try dsimp only at hSw); go_simp; try (with_reducible rfl))
  try simp only [Act.put, List.setIfInBounds_toArray, List.set_cons_zero, List.set_cons_succ, List.getElem_toArray, List.getElem_cons_zero, List.getElem_cons_succ]
  refine wpAnyH_take (i := 13) (v := ?zv13r) rfl (by kernel_rfl) (by kernel_rfl) (by kernel_rfl) (fun _ _ _ h => h) (Or.inl ⟨by rfl, ?zy13r⟩) (by assumption) ?zr13r
  case zy13r => (intro w_ hSw; (try dsimp only at hSw); go_simp; try (with_reducible rfl))
  try simp only [Act.put, List.setIfInBounds_toArray, List.set_cons_zero, List.set_cons_succ, List.getElem_toArray, List.getElem_cons_zero, List.getElem_cons_succ]
  refine wpAnyH_take (i := 14) (v := ?zv14r) rfl (by kernel_rfl) (by kernel_rfl) (by kernel_rfl) (fun _ _ _ h => h) (Or.inl ⟨by rfl, ?zy14r⟩) (by assumption) ?zr14r
  case zy14r => (intro w_ hSw; (try dsimp only at hSw); go_simp; try (with_reducible rfl))
  try simp only [Act.put, List.setIfInBounds_toArray, List.set_cons_zero, List.set_cons_succ, List.getElem_toArray, List.getElem_cons_zero, List.getElem_cons_succ]
  refine wpAnyH_take (i := 15) (v := ?zv15r) rfl (by kernel_rfl) (by kernel_rfl) (by kernel_rfl) (fun _ _ _ h => h) (Or.inl ⟨by rfl, ?zy15r⟩) (by assumption) ?zr15r
  case zy15r => (intro w_ hSw; (try dsimp only at hSw); go_simp; try (with_reducible rfl))
  try simp only [Act.put, List.setIfInBounds_toArray, List.set_cons_zero, List.set_cons_succ, List.getElem_toArray, List.getElem_cons_zero, List.getElem_cons_succ]
  refine wpAnyH_take (i := 16) (v := ?zv16r) rfl (by kernel_rfl) (by kernel_rfl) (by kernel_rfl) (fun _ _ _ h => h) (Or.inl ⟨by rfl, ?zy16r⟩) (by assumption) ?zr16r
  case zy16r => (intro w_ hSw; (try dsimp only at hSw); go_simp; try (with_reducible rfl))
  try simp only [Act.put, List.setIfInBounds_toArray, List.set_cons_zero, List.set_cons_succ, List.getElem_toArray, List.getElem_cons_zero, List.getElem_cons_succ]
  refine wpAnyH_take (i := 17) (v := ?zv17r) rfl (by kernel_rfl) (by kernel_rfl) (by kernel_rfl) (fun _ _ _ h => h) (Or.inl ⟨by rfl, ?zy17r⟩) (by assumption) ?zr17r
  case zy17r => (intro w_ hSw; (try dsimp only at hSw); go_simp; try (with_reducible rfl))
  try simp only [Act.put, List.setIfInBounds_toArray, List.set_cons_zero, List.set_cons_succ, List.getElem_toArray, List.getElem_cons_zero, List.getElem_cons_succ]
  refine wpAnyH_take (i := 18) (v := ?zv18r) rfl (by kernel_rfl) (by kernel_rfl) (by kernel_rfl) (fun _ _ _ h => h) (Or.inl ⟨by rfl, ?zy18r⟩) (by assumption) ?zr18r
  case zy18r => (intro w_ hSw; (try dsimp only at hSw); go_simp; try (with_reducible rfl))
  try simp only [Act.put, List.setIfInBounds_toArray, List.set_cons_zero, List.set_cons_succ, List.getElem_toArray, List.getElem_cons_zero, List.getElem_cons_succ]
  refine wpAnyH_take (i := 19) (v := ?zv19r) rfl (by kernel_rfl) (by kernel_rfl) (by kernel_rfl) (fun _ _ _ h => h) (Or.inl ⟨by rfl, ?zy19r⟩) (by assumption) ?zr19r
  case zy19r => (intro w_ hSw; (try dsimp only at hSw); go_simp; try (with_reducible rfl))
  try simp only [Act.put, List.setIfInBounds_toArray, List.set_cons_zero, List.set_cons_succ, List.getElem_toArray, List.getElem_cons_zero, List.getElem_cons_succ]
  refine wpAnyH_ready (rs := [20]) (by kernel_rfl) (by simp) ?_
  refine AllReadyH.cons rfl (fun K_ hK_ => ?_) AllReadyH.nil
  rw [if_pos (by rfl)]
  refine store_wp 52 (.tmp 6) (.tmp 78) rfl go 0 rfl #[.int .i64 0, .int .i64 0, .int .i64 S, .int .i64 N, .int .i64 T, .int .i64 O, .int .i64 0] rfl #[.int .i64 0, .int .i64 0, .int .i64 0, .int .i64 0, .int .i64 0, .int .i64 0, .int .i64 0] 52 HGo.out (by simp) (by kernel_rfl) (by first | kernel_rfl | (simp; done)) #[.int .i64 0, .int .i64 0, .int .i64 S, .int .i64 N, .int .i64 T, .int .i64 O, .int .i64 0] (by kernel_rfl) ?_
  intro w1 hown hoth hbel
  have n1_ := Aside0.mk ((hoth _ Ngp_go.out).trans HGp.out)
  clear HGp kp_0 kp_1 kp_2 kp_3 kp_4 kp_5 kp_6
  have HGp := n1_
  clear n1_
  have q_ := HGp.out
  obtain ⟨kp_0, kp_1, kp_2, kp_3, kp_4, kp_5, kp_6⟩ := c7 q_
  clear q_
  have q_ := hown
  obtain ⟨ko_0, ko_1, ko_2, ko_3, ko_4, ko_5, ko_6⟩ := c7 q_
  have fo_ := blk_frozen q_ 0
  clear q_
  refine hK_.out _ _ ⟨kp_0, kp_1, kp_2, kp_3, kp_4, kp_5, kp_6⟩ (fun hHeld => ?_)
  clear hK_ K_
  try simp only [Act.put, List.setIfInBounds_toArray, List.set_cons_zero, List.set_cons_succ, List.getElem_toArray, List.getElem_cons_zero, List.getElem_cons_succ]
  refine wpAnyH_done (by kernel_rfl) ?_ _
  have n0_ := Aside0.mk (hbel _ _ HLgo.out (by first | exact HB.out | exact pw_below_drewN HB.out 1))
  clear HB
  have HB := n0_
  clear n0_ hbel hoth HGo
  have HGo := Aside0.mk hown
  clear hown hHeld
  go_wp2_with (first | (refine store1_ev rfl go 0 (.int .i64 2) #[.int .i64 0, .int .i64 0, .int .i64 S, .int .i64 N, .int .i64 T, .int .i64 O, .int .i64 0] 52 HGo.out ?hr #[.int .i64 2, .int .i64 0, .int .i64 S, .int .i64 N, .int .i64 T, .int .i64 O, .int .i64 0] rfl ?_; (case hr => first | (go_simp; done) | (go_simp; rfl)); intro w_ hown hoth hbel; clear kp_0 kp_1 kp_2 kp_3 kp_4 kp_5 kp_6 ko_0 ko_1 ko_2 ko_3 ko_4 ko_5 ko_6; clear fo_; have n1_ := Aside0.mk ((hoth _ Ngp_go.out).trans HGp.out); clear HGp; have HGp := n1_; clear n1_; have n0_ := Aside0.mk (hbel _ _ HLgo.out (by repeat (first | (with_reducible first | exact HB.out | apply below_alloc | apply pw_below_drewN | apply below_drew1) | exact HB.out))); clear HB; have HB := n0_; clear n0_; clear HGo hbel hoth; have q_ := HGp.out; obtain ⟨kp_0, kp_1, kp_2, kp_3, kp_4, kp_5, kp_6⟩ := c7 q_; clear q_; obtain ⟨ko_0, ko_1, ko_2, ko_3, ko_4, ko_5, ko_6⟩ := c7 hown; clear hown))
  go_ret
  exact ⟨by first | rfl | (simp; done), (by repeat (first | (with_reducible first | exact HB.out | apply below_alloc | apply pw_below_drewN | apply below_drew1) | exact HB.out))⟩
set_option maxHeartbeats 4000000 in
set_option maxRecDepth 100000 in
theorem Of_br6 (Z S N T O A many : Int) (w : World) (h1 : ¬ S < 1) (h2 : ¬ N ≤ S) (h3 : ¬ 15 < N) (h4 : ¬ T < 0) (h5 : ¬ many < T) (hF : XLay.field_Fits.f O 32 = some true) (hq : (((0 : Int) == Z) && (((0 : Int) == A))) = false) : Calls Try.prog 74 #[.agg #[.int .i64 2, .int .i64 Z, .int .i64 S, .int .i64 N, .int .i64 T, .int .i64 O, .int .i64 A], .int .i64 many] w fun e w' => e = .returned (.nilIface) ∧ Below w.heap.size w w' := by
  have hu52 := Try.underlying52
  have HB := Aside0.mk (Below.refl w.heap.size w)
  go_enter Try.func74, Try.ntmps74
  go_wp2_with (first | ((with_reducible refine gate_dst (N := 2) rfl ?_); refine box_event ?hg (N := 2) ?hd (cs := #[.int .i64 2, .int .i64 Z, .int .i64 S, .int .i64 N, .int .i64 T, .int .i64 O, .int .i64 A]) (t := 52) ?hr ?_; (case hd => rfl); (case hg => rfl); (case hr => first | (go_simp; done) | (go_simp; rfl)); intro gp hg w_ hbox hb; have HLgp := Aside0.mk (show w.heap.size ≤ gp from by rw [hg]; exact below_size (by repeat (first | (with_reducible first | exact HB.out | apply below_alloc | apply pw_below_drewN | apply below_drew1) | exact HB.out))); clear hg; have HGp := Aside0.mk hbox; have n0_ := Aside0.mk (below_step (by repeat (first | (with_reducible first | exact HB.out | apply below_alloc | apply pw_below_drewN | apply below_drew1) | exact HB.out)) hb); clear HB; have HB := n0_; clear n0_; clear hb hbox) | ((with_reducible refine gate_dst (N := 6) rfl ?_); refine box_event ?hg (N := 6) ?hd (cs := #[.int .i64 0, .int .i64 0, .int .i64 0, .int .i64 0, .int .i64 0, .int .i64 0, .int .i64 0]) (t := 52) ?hr ?_; (case hd => rfl); (case hg => rfl); (case hr => first | (go_simp; done) | (go_simp; rfl)); intro go hg w_ hbox hb; have HLgo := Aside0.mk (show w.heap.size ≤ go from by rw [hg]; exact below_size (by repeat (first | (with_reducible first | exact HB.out | apply below_alloc | apply pw_below_drewN | apply below_drew1) | exact HB.out))); have Ngp_go := Aside0.mk (show gp ≠ go from by rw [hg]; exact Nat.ne_of_lt (blk_lt HGp.out)); clear hg; have n1_ := Aside0.mk (blk_below HGp.out hb); clear HGp; have HGp := n1_; clear n1_; have HGo := Aside0.mk hbox; have n0_ := Aside0.mk (below_step (by repeat (first | (with_reducible first | exact HB.out | apply below_alloc | apply pw_below_drewN | apply below_drew1) | exact HB.out)) hb); clear HB; have HB := n0_; clear n0_; clear hb hbox; have q_ := HGp.out; obtain ⟨kp_0, kp_1, kp_2, kp_3, kp_4, kp_5, kp_6⟩ := c7 q_; clear q_) | ((with_reducible refine gate_callee (f := 21) rfl ?_); (try (refine gate_guard (by rfl) ?_; dsimp only)); refine goesL_ (some 57) rfl rfl Try.func21 (by kernel_rfl) rfl #[.int .i64 O, .int .i64 32] rfl (by (try simp only [List.map_toArray, List.map_cons, List.map_nil]); first | done | rfl) ?_; refine (XLay.field_Fits.calls O 32 _ _ hF).mono ?_; rintro e w_ ⟨rfl, hd⟩; have hb := hd.below; clear hd; refine ⟨_, rfl, ?_⟩; clear kp_0 kp_1 kp_2 kp_3 kp_4 kp_5 kp_6; have n1_ := Aside0.mk (blk_below HGp.out hb); clear HGp; have HGp := n1_; clear n1_; have n1_ := Aside0.mk (blk_below HGo.out hb); clear HGo; have HGo := n1_; clear n1_; have n0_ := Aside0.mk (below_step (by repeat (first | (with_reducible first | exact HB.out | apply below_alloc | apply pw_below_drewN | apply below_drew1) | exact HB.out)) hb); clear HB; have HB := n0_; clear n0_; clear hb; have q_ := HGp.out; obtain ⟨kp_0, kp_1, kp_2, kp_3, kp_4, kp_5, kp_6⟩ := c7 q_; clear q_))
  refine wp_region_held_drew (S := (fun v => v.cell? ⟨gp, 0, none⟩ = some (.int .i64 2) ∧ v.cell? ⟨gp, 1, none⟩ = some (.int .i64 Z) ∧ v.cell? ⟨gp, 2, none⟩ = some (.int .i64 S) ∧ v.cell? ⟨gp, 3, none⟩ = some (.int .i64 N) ∧ v.cell? ⟨gp, 4, none⟩ = some (.int .i64 T) ∧ v.cell? ⟨gp, 5, none⟩ = some (.int .i64 O) ∧ v.cell? ⟨gp, 6, none⟩ = some (.int .i64 A))) (by kernel_rfl) (by exact ⟨kp_0, kp_1, kp_2, kp_3, kp_4, kp_5, kp_6⟩) (fun hHeld => ?_)
  refine wpAnyH_take (i := 0) (v := ?zv0r) rfl (by kernel_rfl) (by kernel_rfl) (by kernel_rfl) (fun _ _ _ h => h) (Or.inl ⟨by rfl, ?zy0r⟩) (by assumption) ?zr0r
  case zy0r => (intro w_ hSw; (try dsimp only at hSw); go_simp; try (with_reducible rfl))
  try simp only [Act.put, List.setIfInBounds_toArray, List.set_cons_zero, List.set_cons_succ, List.getElem_toArray, List.getElem_cons_zero, List.getElem_cons_succ]
  refine wpAnyH_take (i := 1) (v := ?zv1r) rfl (by kernel_rfl) (by kernel_rfl) (by kernel_rfl) (fun _ _ _ h => h) (Or.inl ⟨by rfl, ?zy1r⟩) (by assumption) ?zr1r
  case zy1r => (intro w_ hSw; (try dsimp only at hSw); go_simp; try (with_reducible rfl))
  try simp only [Act.put, List.setIfInBounds_toArray, List.set_cons_zero, List.set_cons_succ, List.getElem_toArray, List.getElem_cons_zero, List.getElem_cons_succ]
  refine wpAnyH_take (i := 2) (v := ?zv2r) rfl (by kernel_rfl) (by kernel_rfl) (by kernel_rfl) (fun _ _ _ h => h) (Or.inl ⟨by rfl, ?zy2r⟩) (by assumption) ?zr2r
  case zy2r => (intro w_ hSw; (try dsimp only at hSw); go_simp; try (with_reducible rfl))
  try simp only [Act.put, List.setIfInBounds_toArray, List.set_cons_zero, List.set_cons_succ, List.getElem_toArray, List.getElem_cons_zero, List.getElem_cons_succ]
  refine wpAnyH_take (i := 3) (v := ?zv3r) rfl (by kernel_rfl) (by kernel_rfl) (by kernel_rfl) (fun _ _ _ h => h) (Or.inl ⟨by rfl, ?zy3r⟩) (by assumption) ?zr3r
  case zy3r => (intro w_ hSw; (try dsimp only at hSw); go_simp; try (with_reducible rfl))
  try simp only [Act.put, List.setIfInBounds_toArray, List.set_cons_zero, List.set_cons_succ, List.getElem_toArray, List.getElem_cons_zero, List.getElem_cons_succ]
  refine wpAnyH_take (i := 4) (v := ?zv4r) rfl (by kernel_rfl) (by kernel_rfl) (by kernel_rfl) (fun _ _ _ h => h) (Or.inl ⟨by rfl, ?zy4r⟩) (by assumption) ?zr4r
  case zy4r => (intro w_ hSw; (try dsimp only at hSw); go_simp; try (with_reducible rfl))
  try simp only [Act.put, List.setIfInBounds_toArray, List.set_cons_zero, List.set_cons_succ, List.getElem_toArray, List.getElem_cons_zero, List.getElem_cons_succ]
  refine wpAnyH_take (i := 5) (v := ?zv5r) rfl (by kernel_rfl) (by kernel_rfl) (by kernel_rfl) (fun _ _ _ h => h) (Or.inl ⟨by rfl, ?zy5r⟩) (by assumption) ?zr5r
  case zy5r => (intro w_ hSw; (try dsimp only at hSw); go_simp; try (with_reducible rfl))
  try simp only [Act.put, List.setIfInBounds_toArray, List.set_cons_zero, List.set_cons_succ, List.getElem_toArray, List.getElem_cons_zero, List.getElem_cons_succ]
  refine wpAnyH_take (i := 6) (v := ?zv6r) rfl (by kernel_rfl) (by kernel_rfl) (by kernel_rfl) (fun _ _ _ h => h) (Or.inl ⟨by rfl, ?zy6r⟩) (by assumption) ?zr6r
  case zy6r => (intro w_ hSw; (try dsimp only at hSw); go_simp; try (with_reducible rfl))
  try simp only [Act.put, List.setIfInBounds_toArray, List.set_cons_zero, List.set_cons_succ, List.getElem_toArray, List.getElem_cons_zero, List.getElem_cons_succ]
  refine wpAnyH_take (i := 7) (v := ?zv7r) rfl (by kernel_rfl) (by kernel_rfl) (by kernel_rfl) (fun _ _ _ h => h) (Or.inl ⟨by rfl, ?zy7r⟩) (by assumption) ?zr7r
  case zy7r => (intro w_ hSw; (try dsimp only at hSw); go_simp; try (with_reducible rfl))
  try simp only [Act.put, List.setIfInBounds_toArray, List.set_cons_zero, List.set_cons_succ, List.getElem_toArray, List.getElem_cons_zero, List.getElem_cons_succ]
  refine wpAnyH_take (i := 8) (v := ?zv8r) rfl (by kernel_rfl) (by kernel_rfl) (by kernel_rfl) (fun _ _ _ h => h) (Or.inl ⟨by rfl, ?zy8r⟩) (by assumption) ?zr8r
  case zy8r => (intro w_ hSw; (try dsimp only at hSw); go_simp; try (with_reducible rfl))
  try simp only [Act.put, List.setIfInBounds_toArray, List.set_cons_zero, List.set_cons_succ, List.getElem_toArray, List.getElem_cons_zero, List.getElem_cons_succ]
  refine wpAnyH_take (i := 9) (v := ?zv9r) rfl (by kernel_rfl) (by kernel_rfl) (by kernel_rfl) (fun _ _ _ h => h) (Or.inl ⟨by rfl, ?zy9r⟩) (by assumption) ?zr9r
  case zy9r => (intro w_ hSw; (try dsimp only at hSw); go_simp; try (with_reducible rfl))
  try simp only [Act.put, List.setIfInBounds_toArray, List.set_cons_zero, List.set_cons_succ, List.getElem_toArray, List.getElem_cons_zero, List.getElem_cons_succ]
  refine wpAnyH_take (i := 10) (v := ?zv10r) rfl (by kernel_rfl) (by kernel_rfl) (by kernel_rfl) (fun _ _ _ h => h) (Or.inl ⟨by rfl, ?zy10r⟩) (by assumption) ?zr10r
  case zy10r => (intro w_ hSw; (try dsimp only at hSw); go_simp; try (with_reducible rfl))
  try simp only [Act.put, List.setIfInBounds_toArray, List.set_cons_zero, List.set_cons_succ, List.getElem_toArray, List.getElem_cons_zero, List.getElem_cons_succ]
  refine wpAnyH_take (i := 11) (v := ?zv11r) rfl (by kernel_rfl) (by kernel_rfl) (by kernel_rfl) (fun _ _ _ h => h) (Or.inl ⟨by rfl, ?zy11r⟩) (by assumption) ?zr11r
  case zy11r => (intro w_ hSw; (try dsimp only at hSw); go_simp; try (with_reducible rfl))
  try simp only [Act.put, List.setIfInBounds_toArray, List.set_cons_zero, List.set_cons_succ, List.getElem_toArray, List.getElem_cons_zero, List.getElem_cons_succ]
  refine wpAnyH_take (i := 12) (v := ?zv12r) rfl (by kernel_rfl) (by kernel_rfl) (by kernel_rfl) (fun _ _ _ h => h) (Or.inl ⟨by rfl, ?zy12r⟩) (by assumption) ?zr12r
  case zy12r => (intro w_ hSw; (try dsimp only at hSw); go_simp; try (with_reducible rfl))
  try simp only [Act.put, List.setIfInBounds_toArray, List.set_cons_zero, List.set_cons_succ, List.getElem_toArray, List.getElem_cons_zero, List.getElem_cons_succ]
  refine wpAnyH_take (i := 13) (v := ?zv13r) rfl (by kernel_rfl) (by kernel_rfl) (by kernel_rfl) (fun _ _ _ h => h) (Or.inl ⟨by rfl, ?zy13r⟩) (by assumption) ?zr13r
  case zy13r => (intro w_ hSw; (try dsimp only at hSw); go_simp; try (with_reducible rfl))
  try simp only [Act.put, List.setIfInBounds_toArray, List.set_cons_zero, List.set_cons_succ, List.getElem_toArray, List.getElem_cons_zero, List.getElem_cons_succ]
  refine wpAnyH_take (i := 14) (v := ?zv14r) rfl (by kernel_rfl) (by kernel_rfl) (by kernel_rfl) (fun _ _ _ h => h) (Or.inl ⟨by rfl, ?zy14r⟩) (by assumption) ?zr14r
  case zy14r => (intro w_ hSw; (try dsimp only at hSw); go_simp; try (with_reducible rfl))
  try simp only [Act.put, List.setIfInBounds_toArray, List.set_cons_zero, List.set_cons_succ, List.getElem_toArray, List.getElem_cons_zero, List.getElem_cons_succ]
  refine wpAnyH_take (i := 15) (v := ?zv15r) rfl (by kernel_rfl) (by kernel_rfl) (by kernel_rfl) (fun _ _ _ h => h) (Or.inl ⟨by rfl, ?zy15r⟩) (by assumption) ?zr15r
  case zy15r => (intro w_ hSw; (try dsimp only at hSw); go_simp; try (with_reducible rfl))
  try simp only [Act.put, List.setIfInBounds_toArray, List.set_cons_zero, List.set_cons_succ, List.getElem_toArray, List.getElem_cons_zero, List.getElem_cons_succ]
  refine wpAnyH_take (i := 16) (v := ?zv16r) rfl (by kernel_rfl) (by kernel_rfl) (by kernel_rfl) (fun _ _ _ h => h) (Or.inl ⟨by rfl, ?zy16r⟩) (by assumption) ?zr16r
  case zy16r => (intro w_ hSw; (try dsimp only at hSw); go_simp; try (with_reducible rfl))
  try simp only [Act.put, List.setIfInBounds_toArray, List.set_cons_zero, List.set_cons_succ, List.getElem_toArray, List.getElem_cons_zero, List.getElem_cons_succ]
  refine wpAnyH_take (i := 17) (v := ?zv17r) rfl (by kernel_rfl) (by kernel_rfl) (by kernel_rfl) (fun _ _ _ h => h) (Or.inl ⟨by rfl, ?zy17r⟩) (by assumption) ?zr17r
  case zy17r => (intro w_ hSw; (try dsimp only at hSw); go_simp; try (with_reducible rfl))
  try simp only [Act.put, List.setIfInBounds_toArray, List.set_cons_zero, List.set_cons_succ, List.getElem_toArray, List.getElem_cons_zero, List.getElem_cons_succ]
  refine wpAnyH_take (i := 18) (v := ?zv18r) rfl (by kernel_rfl) (by kernel_rfl) (by kernel_rfl) (fun _ _ _ h => h) (Or.inl ⟨by rfl, ?zy18r⟩) (by assumption) ?zr18r
  case zy18r => (intro w_ hSw; (try dsimp only at hSw); go_simp; try (with_reducible rfl))
  try simp only [Act.put, List.setIfInBounds_toArray, List.set_cons_zero, List.set_cons_succ, List.getElem_toArray, List.getElem_cons_zero, List.getElem_cons_succ]
  refine wpAnyH_take (i := 19) (v := ?zv19r) rfl (by kernel_rfl) (by kernel_rfl) (by kernel_rfl) (fun _ _ _ h => h) (Or.inl ⟨by rfl, ?zy19r⟩) (by assumption) ?zr19r
  case zy19r => (intro w_ hSw; (try dsimp only at hSw); go_simp; try (with_reducible rfl))
  try simp only [Act.put, List.setIfInBounds_toArray, List.set_cons_zero, List.set_cons_succ, List.getElem_toArray, List.getElem_cons_zero, List.getElem_cons_succ]
  refine wpAnyH_ready (rs := [20]) (by kernel_rfl) (by simp) ?_
  refine AllReadyH.cons rfl (fun K_ hK_ => ?_) AllReadyH.nil
  rw [if_pos (by rfl)]
  refine store_wp 52 (.tmp 6) (.tmp 78) rfl go 0 rfl #[.int .i64 0, .int .i64 0, .int .i64 S, .int .i64 N, .int .i64 T, .int .i64 O, .int .i64 0] rfl #[.int .i64 0, .int .i64 0, .int .i64 0, .int .i64 0, .int .i64 0, .int .i64 0, .int .i64 0] 52 HGo.out (by simp) (by kernel_rfl) (by first | kernel_rfl | (simp; done)) #[.int .i64 0, .int .i64 0, .int .i64 S, .int .i64 N, .int .i64 T, .int .i64 O, .int .i64 0] (by kernel_rfl) ?_
  intro w1 hown hoth hbel
  have n1_ := Aside0.mk ((hoth _ Ngp_go.out).trans HGp.out)
  clear HGp kp_0 kp_1 kp_2 kp_3 kp_4 kp_5 kp_6
  have HGp := n1_
  clear n1_
  have q_ := HGp.out
  obtain ⟨kp_0, kp_1, kp_2, kp_3, kp_4, kp_5, kp_6⟩ := c7 q_
  clear q_
  have q_ := hown
  obtain ⟨ko_0, ko_1, ko_2, ko_3, ko_4, ko_5, ko_6⟩ := c7 q_
  have fo_ := blk_frozen q_ 0
  clear q_
  refine hK_.out _ _ ⟨kp_0, kp_1, kp_2, kp_3, kp_4, kp_5, kp_6⟩ (fun hHeld => ?_)
  clear hK_ K_
  try simp only [Act.put, List.setIfInBounds_toArray, List.set_cons_zero, List.set_cons_succ, List.getElem_toArray, List.getElem_cons_zero, List.getElem_cons_succ]
  refine wpAnyH_done (by kernel_rfl) ?_ _
  have n0_ := Aside0.mk (hbel _ _ HLgo.out (by first | exact HB.out | exact pw_below_drewN HB.out 1))
  clear HB
  have HB := n0_
  clear n0_ hbel hoth HGo
  have HGo := Aside0.mk hown
  clear hown hHeld
  go_wp2_with (first | (refine store1_ev rfl go 0 (.int .i64 2) #[.int .i64 0, .int .i64 0, .int .i64 S, .int .i64 N, .int .i64 T, .int .i64 O, .int .i64 0] 52 HGo.out ?hr #[.int .i64 2, .int .i64 0, .int .i64 S, .int .i64 N, .int .i64 T, .int .i64 O, .int .i64 0] rfl ?_; (case hr => first | (go_simp; done) | (go_simp; rfl)); intro w_ hown hoth hbel; clear kp_0 kp_1 kp_2 kp_3 kp_4 kp_5 kp_6 ko_0 ko_1 ko_2 ko_3 ko_4 ko_5 ko_6; clear fo_; have n1_ := Aside0.mk ((hoth _ Ngp_go.out).trans HGp.out); clear HGp; have HGp := n1_; clear n1_; have n0_ := Aside0.mk (hbel _ _ HLgo.out (by repeat (first | (with_reducible first | exact HB.out | apply below_alloc | apply pw_below_drewN | apply below_drew1) | exact HB.out))); clear HB; have HB := n0_; clear n0_; clear HGo hbel hoth; have q_ := HGp.out; obtain ⟨kp_0, kp_1, kp_2, kp_3, kp_4, kp_5, kp_6⟩ := c7 q_; clear q_; obtain ⟨ko_0, ko_1, ko_2, ko_3, ko_4, ko_5, ko_6⟩ := c7 hown; clear hown))
  go_ret
  exact ⟨by first | rfl | (simp; done), (by repeat (first | (with_reducible first | exact HB.out | apply below_alloc | apply pw_below_drewN | apply below_drew1) | exact HB.out))⟩
set_option maxHeartbeats 4000000 in
set_option maxRecDepth 100000 in
theorem Of_a1 (Z S N T O A many : Int) (w : World) (h1 : A < 1) : Calls Try.prog 74 #[.agg #[.int .i64 3, .int .i64 Z, .int .i64 S, .int .i64 N, .int .i64 T, .int .i64 O, .int .i64 A], .int .i64 many] w fun e w' => e = .returned (.nilIface) ∧ Below w.heap.size w w' := by
  have hu52 := Try.underlying52
  have HB := Aside0.mk (Below.refl w.heap.size w)
  go_enter Try.func74, Try.ntmps74
  go_wp2_with (first | ((with_reducible refine gate_dst (N := 2) rfl ?_); refine box_event ?hg (N := 2) ?hd (cs := #[.int .i64 3, .int .i64 Z, .int .i64 S, .int .i64 N, .int .i64 T, .int .i64 O, .int .i64 A]) (t := 52) ?hr ?_; (case hd => rfl); (case hg => rfl); (case hr => first | (go_simp; done) | (go_simp; rfl)); intro gp hg w_ hbox hb; have HLgp := Aside0.mk (show w.heap.size ≤ gp from by rw [hg]; exact below_size (by repeat (first | (with_reducible first | exact HB.out | apply below_alloc | apply pw_below_drewN | apply below_drew1) | exact HB.out))); clear hg; have HGp := Aside0.mk hbox; have n0_ := Aside0.mk (below_step (by repeat (first | (with_reducible first | exact HB.out | apply below_alloc | apply pw_below_drewN | apply below_drew1) | exact HB.out)) hb); clear HB; have HB := n0_; clear n0_; clear hb hbox) | ((with_reducible refine gate_dst (N := 6) rfl ?_); refine box_event ?hg (N := 6) ?hd (cs := #[.int .i64 0, .int .i64 0, .int .i64 0, .int .i64 0, .int .i64 0, .int .i64 0, .int .i64 0]) (t := 52) ?hr ?_; (case hd => rfl); (case hg => rfl); (case hr => first | (go_simp; done) | (go_simp; rfl)); intro go hg w_ hbox hb; have HLgo := Aside0.mk (show w.heap.size ≤ go from by rw [hg]; exact below_size (by repeat (first | (with_reducible first | exact HB.out | apply below_alloc | apply pw_below_drewN | apply below_drew1) | exact HB.out))); have Ngp_go := Aside0.mk (show gp ≠ go from by rw [hg]; exact Nat.ne_of_lt (blk_lt HGp.out)); clear hg; have n1_ := Aside0.mk (blk_below HGp.out hb); clear HGp; have HGp := n1_; clear n1_; have HGo := Aside0.mk hbox; have n0_ := Aside0.mk (below_step (by repeat (first | (with_reducible first | exact HB.out | apply below_alloc | apply pw_below_drewN | apply below_drew1) | exact HB.out)) hb); clear HB; have HB := n0_; clear n0_; clear hb hbox; have q_ := HGp.out; obtain ⟨kp_0, kp_1, kp_2, kp_3, kp_4, kp_5, kp_6⟩ := c7 q_; clear q_))
  go_ret
  exact ⟨by first | rfl | (simp; done), (by repeat (first | (with_reducible first | exact HB.out | apply below_alloc | apply pw_below_drewN | apply below_drew1) | exact HB.out))⟩
set_option maxHeartbeats 4000000 in
set_option maxRecDepth 100000 in
theorem Of_a2 (Z S N T O A many : Int) (w : World) (h1 : ¬ A < 1) (h2 : 4096 < A) : Calls Try.prog 74 #[.agg #[.int .i64 3, .int .i64 Z, .int .i64 S, .int .i64 N, .int .i64 T, .int .i64 O, .int .i64 A], .int .i64 many] w fun e w' => e = .returned (.nilIface) ∧ Below w.heap.size w w' := by
  have hu52 := Try.underlying52
  have HB := Aside0.mk (Below.refl w.heap.size w)
  go_enter Try.func74, Try.ntmps74
  go_wp2_with (first | ((with_reducible refine gate_dst (N := 2) rfl ?_); refine box_event ?hg (N := 2) ?hd (cs := #[.int .i64 3, .int .i64 Z, .int .i64 S, .int .i64 N, .int .i64 T, .int .i64 O, .int .i64 A]) (t := 52) ?hr ?_; (case hd => rfl); (case hg => rfl); (case hr => first | (go_simp; done) | (go_simp; rfl)); intro gp hg w_ hbox hb; have HLgp := Aside0.mk (show w.heap.size ≤ gp from by rw [hg]; exact below_size (by repeat (first | (with_reducible first | exact HB.out | apply below_alloc | apply pw_below_drewN | apply below_drew1) | exact HB.out))); clear hg; have HGp := Aside0.mk hbox; have n0_ := Aside0.mk (below_step (by repeat (first | (with_reducible first | exact HB.out | apply below_alloc | apply pw_below_drewN | apply below_drew1) | exact HB.out)) hb); clear HB; have HB := n0_; clear n0_; clear hb hbox) | ((with_reducible refine gate_dst (N := 6) rfl ?_); refine box_event ?hg (N := 6) ?hd (cs := #[.int .i64 0, .int .i64 0, .int .i64 0, .int .i64 0, .int .i64 0, .int .i64 0, .int .i64 0]) (t := 52) ?hr ?_; (case hd => rfl); (case hg => rfl); (case hr => first | (go_simp; done) | (go_simp; rfl)); intro go hg w_ hbox hb; have HLgo := Aside0.mk (show w.heap.size ≤ go from by rw [hg]; exact below_size (by repeat (first | (with_reducible first | exact HB.out | apply below_alloc | apply pw_below_drewN | apply below_drew1) | exact HB.out))); have Ngp_go := Aside0.mk (show gp ≠ go from by rw [hg]; exact Nat.ne_of_lt (blk_lt HGp.out)); clear hg; have n1_ := Aside0.mk (blk_below HGp.out hb); clear HGp; have HGp := n1_; clear n1_; have HGo := Aside0.mk hbox; have n0_ := Aside0.mk (below_step (by repeat (first | (with_reducible first | exact HB.out | apply below_alloc | apply pw_below_drewN | apply below_drew1) | exact HB.out)) hb); clear HB; have HB := n0_; clear n0_; clear hb hbox; have q_ := HGp.out; obtain ⟨kp_0, kp_1, kp_2, kp_3, kp_4, kp_5, kp_6⟩ := c7 q_; clear q_))
  go_ret
  exact ⟨by first | rfl | (simp; done), (by repeat (first | (with_reducible first | exact HB.out | apply below_alloc | apply pw_below_drewN | apply below_drew1) | exact HB.out))⟩
set_option maxHeartbeats 4000000 in
set_option maxRecDepth 100000 in
theorem Of_a3 (Z S N T O A many : Int) (w : World) (h1 : ¬ A < 1) (h2 : ¬ 4096 < A) (hw : IntKind.i64.wrap (A - 1) = A - 1) (h3 : (Go.bits .and .i64 A (A - 1) != 0) = true) : Calls Try.prog 74 #[.agg #[.int .i64 3, .int .i64 Z, .int .i64 S, .int .i64 N, .int .i64 T, .int .i64 O, .int .i64 A], .int .i64 many] w fun e w' => e = .returned (.nilIface) ∧ Below w.heap.size w w' := by
  have hu52 := Try.underlying52
  have HB := Aside0.mk (Below.refl w.heap.size w)
  go_enter Try.func74, Try.ntmps74
  go_wp2_with (first | ((with_reducible refine gate_dst (N := 2) rfl ?_); refine box_event ?hg (N := 2) ?hd (cs := #[.int .i64 3, .int .i64 Z, .int .i64 S, .int .i64 N, .int .i64 T, .int .i64 O, .int .i64 A]) (t := 52) ?hr ?_; (case hd => rfl); (case hg => rfl); (case hr => first | (go_simp; done) | (go_simp; rfl)); intro gp hg w_ hbox hb; have HLgp := Aside0.mk (show w.heap.size ≤ gp from by rw [hg]; exact below_size (by repeat (first | (with_reducible first | exact HB.out | apply below_alloc | apply pw_below_drewN | apply below_drew1) | exact HB.out))); clear hg; have HGp := Aside0.mk hbox; have n0_ := Aside0.mk (below_step (by repeat (first | (with_reducible first | exact HB.out | apply below_alloc | apply pw_below_drewN | apply below_drew1) | exact HB.out)) hb); clear HB; have HB := n0_; clear n0_; clear hb hbox) | ((with_reducible refine gate_dst (N := 6) rfl ?_); refine box_event ?hg (N := 6) ?hd (cs := #[.int .i64 0, .int .i64 0, .int .i64 0, .int .i64 0, .int .i64 0, .int .i64 0, .int .i64 0]) (t := 52) ?hr ?_; (case hd => rfl); (case hg => rfl); (case hr => first | (go_simp; done) | (go_simp; rfl)); intro go hg w_ hbox hb; have HLgo := Aside0.mk (show w.heap.size ≤ go from by rw [hg]; exact below_size (by repeat (first | (with_reducible first | exact HB.out | apply below_alloc | apply pw_below_drewN | apply below_drew1) | exact HB.out))); have Ngp_go := Aside0.mk (show gp ≠ go from by rw [hg]; exact Nat.ne_of_lt (blk_lt HGp.out)); clear hg; have n1_ := Aside0.mk (blk_below HGp.out hb); clear HGp; have HGp := n1_; clear n1_; have HGo := Aside0.mk hbox; have n0_ := Aside0.mk (below_step (by repeat (first | (with_reducible first | exact HB.out | apply below_alloc | apply pw_below_drewN | apply below_drew1) | exact HB.out)) hb); clear HB; have HB := n0_; clear n0_; clear hb hbox; have q_ := HGp.out; obtain ⟨kp_0, kp_1, kp_2, kp_3, kp_4, kp_5, kp_6⟩ := c7 q_; clear q_))
  go_ret
  exact ⟨by first | rfl | (simp; done), (by repeat (first | (with_reducible first | exact HB.out | apply below_alloc | apply pw_below_drewN | apply below_drew1) | exact HB.out))⟩
set_option maxHeartbeats 4000000 in
set_option maxRecDepth 100000 in
theorem Of_al (A many : Int) (w : World) (h1 : ¬ A < 1) (h2 : ¬ 4096 < A) (hw : IntKind.i64.wrap (A - 1) = A - 1) (h3 : (Go.bits .and .i64 A (A - 1) != 0) = false) : Calls Try.prog 74 #[.agg #[.int .i64 3, .int .i64 0, .int .i64 0, .int .i64 0, .int .i64 0, .int .i64 0, .int .i64 A], .int .i64 many] w fun e w' => e = .returned (.iface 95 (.agg #[.int .i64 A])) ∧ Below w.heap.size w w' := by
  have hu52 := Try.underlying52
  have HB := Aside0.mk (Below.refl w.heap.size w)
  go_enter Try.func74, Try.ntmps74
  go_wp2_with (first | ((with_reducible refine gate_dst (N := 2) rfl ?_); refine box_event ?hg (N := 2) ?hd (cs := #[.int .i64 3, .int .i64 0, .int .i64 0, .int .i64 0, .int .i64 0, .int .i64 0, .int .i64 A]) (t := 52) ?hr ?_; (case hd => rfl); (case hg => rfl); (case hr => first | (go_simp; done) | (go_simp; rfl)); intro gp hg w_ hbox hb; have HLgp := Aside0.mk (show w.heap.size ≤ gp from by rw [hg]; exact below_size (by repeat (first | (with_reducible first | exact HB.out | apply below_alloc | apply pw_below_drewN | apply below_drew1) | exact HB.out))); clear hg; have HGp := Aside0.mk hbox; have n0_ := Aside0.mk (below_step (by repeat (first | (with_reducible first | exact HB.out | apply below_alloc | apply pw_below_drewN | apply below_drew1) | exact HB.out)) hb); clear HB; have HB := n0_; clear n0_; clear hb hbox) | ((with_reducible refine gate_dst (N := 6) rfl ?_); refine box_event ?hg (N := 6) ?hd (cs := #[.int .i64 0, .int .i64 0, .int .i64 0, .int .i64 0, .int .i64 0, .int .i64 0, .int .i64 0]) (t := 52) ?hr ?_; (case hd => rfl); (case hg => rfl); (case hr => first | (go_simp; done) | (go_simp; rfl)); intro go hg w_ hbox hb; have HLgo := Aside0.mk (show w.heap.size ≤ go from by rw [hg]; exact below_size (by repeat (first | (with_reducible first | exact HB.out | apply below_alloc | apply pw_below_drewN | apply below_drew1) | exact HB.out))); have Ngp_go := Aside0.mk (show gp ≠ go from by rw [hg]; exact Nat.ne_of_lt (blk_lt HGp.out)); clear hg; have n1_ := Aside0.mk (blk_below HGp.out hb); clear HGp; have HGp := n1_; clear n1_; have HGo := Aside0.mk hbox; have n0_ := Aside0.mk (below_step (by repeat (first | (with_reducible first | exact HB.out | apply below_alloc | apply pw_below_drewN | apply below_drew1) | exact HB.out)) hb); clear HB; have HB := n0_; clear n0_; clear hb hbox; have q_ := HGp.out; obtain ⟨kp_0, kp_1, kp_2, kp_3, kp_4, kp_5, kp_6⟩ := c7 q_; clear q_))
  refine wp_region_held_drew (S := (fun v => v.cell? ⟨gp, 0, none⟩ = some (.int .i64 3) ∧ v.cell? ⟨gp, 1, none⟩ = some (.int .i64 0) ∧ v.cell? ⟨gp, 2, none⟩ = some (.int .i64 0) ∧ v.cell? ⟨gp, 3, none⟩ = some (.int .i64 0) ∧ v.cell? ⟨gp, 4, none⟩ = some (.int .i64 0) ∧ v.cell? ⟨gp, 5, none⟩ = some (.int .i64 0) ∧ v.cell? ⟨gp, 6, none⟩ = some (.int .i64 A))) (by kernel_rfl) (by exact ⟨kp_0, kp_1, kp_2, kp_3, kp_4, kp_5, kp_6⟩) (fun hHeld => ?_)
  refine wpAnyH_take (i := 0) (v := ?zv0r) rfl (by kernel_rfl) (by kernel_rfl) (by kernel_rfl) (fun _ _ _ h => h) (Or.inl ⟨by rfl, ?zy0r⟩) (by assumption) ?zr0r
  case zy0r => (intro w_ hSw; (try dsimp only at hSw); go_simp; try (with_reducible rfl))
  try simp only [Act.put, List.setIfInBounds_toArray, List.set_cons_zero, List.set_cons_succ, List.getElem_toArray, List.getElem_cons_zero, List.getElem_cons_succ]
  refine wpAnyH_take (i := 1) (v := ?zv1r) rfl (by kernel_rfl) (by kernel_rfl) (by kernel_rfl) (fun _ _ _ h => h) (Or.inl ⟨by rfl, ?zy1r⟩) (by assumption) ?zr1r
  case zy1r => (intro w_ hSw; (try dsimp only at hSw); go_simp; try (with_reducible rfl))
  try simp only [Act.put, List.setIfInBounds_toArray, List.set_cons_zero, List.set_cons_succ, List.getElem_toArray, List.getElem_cons_zero, List.getElem_cons_succ]
  refine wpAnyH_take (i := 2) (v := ?zv2r) rfl (by kernel_rfl) (by kernel_rfl) (by kernel_rfl) (fun _ _ _ h => h) (Or.inl ⟨by rfl, ?zy2r⟩) (by assumption) ?zr2r
  case zy2r => (intro w_ hSw; (try dsimp only at hSw); go_simp; try (with_reducible rfl))
  try simp only [Act.put, List.setIfInBounds_toArray, List.set_cons_zero, List.set_cons_succ, List.getElem_toArray, List.getElem_cons_zero, List.getElem_cons_succ]
  refine wpAnyH_take (i := 3) (v := ?zv3r) rfl (by kernel_rfl) (by kernel_rfl) (by kernel_rfl) (fun _ _ _ h => h) (Or.inl ⟨by rfl, ?zy3r⟩) (by assumption) ?zr3r
  case zy3r => (intro w_ hSw; (try dsimp only at hSw); go_simp; try (with_reducible rfl))
  try simp only [Act.put, List.setIfInBounds_toArray, List.set_cons_zero, List.set_cons_succ, List.getElem_toArray, List.getElem_cons_zero, List.getElem_cons_succ]
  refine wpAnyH_take (i := 4) (v := ?zv4r) rfl (by kernel_rfl) (by kernel_rfl) (by kernel_rfl) (fun _ _ _ h => h) (Or.inl ⟨by rfl, ?zy4r⟩) (by assumption) ?zr4r
  case zy4r => (intro w_ hSw; (try dsimp only at hSw); go_simp; try (with_reducible rfl))
  try simp only [Act.put, List.setIfInBounds_toArray, List.set_cons_zero, List.set_cons_succ, List.getElem_toArray, List.getElem_cons_zero, List.getElem_cons_succ]
  refine wpAnyH_take (i := 5) (v := ?zv5r) rfl (by kernel_rfl) (by kernel_rfl) (by kernel_rfl) (fun _ _ _ h => h) (Or.inl ⟨by rfl, ?zy5r⟩) (by assumption) ?zr5r
  case zy5r => (intro w_ hSw; (try dsimp only at hSw); go_simp; try (with_reducible rfl))
  try simp only [Act.put, List.setIfInBounds_toArray, List.set_cons_zero, List.set_cons_succ, List.getElem_toArray, List.getElem_cons_zero, List.getElem_cons_succ]
  refine wpAnyH_take (i := 6) (v := ?zv6r) rfl (by kernel_rfl) (by kernel_rfl) (by kernel_rfl) (fun _ _ _ h => h) (Or.inl ⟨by rfl, ?zy6r⟩) (by assumption) ?zr6r
  case zy6r => (intro w_ hSw; (try dsimp only at hSw); go_simp; try (with_reducible rfl))
  try simp only [Act.put, List.setIfInBounds_toArray, List.set_cons_zero, List.set_cons_succ, List.getElem_toArray, List.getElem_cons_zero, List.getElem_cons_succ]
  refine wpAnyH_take (i := 7) (v := ?zv7r) rfl (by kernel_rfl) (by kernel_rfl) (by kernel_rfl) (fun _ _ _ h => h) (Or.inl ⟨by rfl, ?zy7r⟩) (by assumption) ?zr7r
  case zy7r => (intro w_ hSw; (try dsimp only at hSw); go_simp; try (with_reducible rfl))
  try simp only [Act.put, List.setIfInBounds_toArray, List.set_cons_zero, List.set_cons_succ, List.getElem_toArray, List.getElem_cons_zero, List.getElem_cons_succ]
  refine wpAnyH_ready (rs := [8]) (by kernel_rfl) (by simp) ?_
  refine AllReadyH.cons rfl (fun K_ hK_ => ?_) AllReadyH.nil
  rw [if_pos (by rfl)]
  refine store_wp 52 (.tmp 6) (.tmp 104) rfl go 0 rfl #[.int .i64 0, .int .i64 0, .int .i64 0, .int .i64 0, .int .i64 0, .int .i64 0, .int .i64 A] rfl #[.int .i64 0, .int .i64 0, .int .i64 0, .int .i64 0, .int .i64 0, .int .i64 0, .int .i64 0] 52 HGo.out (by simp) (by kernel_rfl) (by first | kernel_rfl | (simp; done)) #[.int .i64 0, .int .i64 0, .int .i64 0, .int .i64 0, .int .i64 0, .int .i64 0, .int .i64 A] (by kernel_rfl) ?_
  intro w1 hown hoth hbel
  have n1_ := Aside0.mk ((hoth _ Ngp_go.out).trans HGp.out)
  clear HGp kp_0 kp_1 kp_2 kp_3 kp_4 kp_5 kp_6
  have HGp := n1_
  clear n1_
  have q_ := HGp.out
  obtain ⟨kp_0, kp_1, kp_2, kp_3, kp_4, kp_5, kp_6⟩ := c7 q_
  clear q_
  have q_ := hown
  obtain ⟨ko_0, ko_1, ko_2, ko_3, ko_4, ko_5, ko_6⟩ := c7 q_
  have fo_ := blk_frozen q_ 0
  clear q_
  refine hK_.out _ _ ⟨kp_0, kp_1, kp_2, kp_3, kp_4, kp_5, kp_6⟩ (fun hHeld => ?_)
  clear hK_ K_
  try simp only [Act.put, List.setIfInBounds_toArray, List.set_cons_zero, List.set_cons_succ, List.getElem_toArray, List.getElem_cons_zero, List.getElem_cons_succ]
  refine wpAnyH_done (by kernel_rfl) ?_ _
  have n0_ := Aside0.mk (hbel _ _ HLgo.out (by first | exact HB.out | exact pw_below_drewN HB.out 1))
  clear HB
  have HB := n0_
  clear n0_ hbel hoth HGo
  have HGo := Aside0.mk hown
  clear hown hHeld
  go_wp2_with (first | (refine store1_ev rfl go 0 (.int .i64 3) #[.int .i64 0, .int .i64 0, .int .i64 0, .int .i64 0, .int .i64 0, .int .i64 0, .int .i64 A] 52 HGo.out ?hr #[.int .i64 3, .int .i64 0, .int .i64 0, .int .i64 0, .int .i64 0, .int .i64 0, .int .i64 A] rfl ?_; (case hr => first | (go_simp; done) | (go_simp; rfl)); intro w_ hown hoth hbel; clear kp_0 kp_1 kp_2 kp_3 kp_4 kp_5 kp_6 ko_0 ko_1 ko_2 ko_3 ko_4 ko_5 ko_6; clear fo_; have n1_ := Aside0.mk ((hoth _ Ngp_go.out).trans HGp.out); clear HGp; have HGp := n1_; clear n1_; have n0_ := Aside0.mk (hbel _ _ HLgo.out (by repeat (first | (with_reducible first | exact HB.out | apply below_alloc | apply pw_below_drewN | apply below_drew1) | exact HB.out))); clear HB; have HB := n0_; clear n0_; clear HGo hbel hoth; have q_ := HGp.out; obtain ⟨kp_0, kp_1, kp_2, kp_3, kp_4, kp_5, kp_6⟩ := c7 q_; clear q_; obtain ⟨ko_0, ko_1, ko_2, ko_3, ko_4, ko_5, ko_6⟩ := c7 hown; clear hown))
  go_ret
  exact ⟨by first | rfl | (simp; done), (by repeat (first | (with_reducible first | exact HB.out | apply below_alloc | apply pw_below_drewN | apply below_drew1) | exact HB.out))⟩
set_option maxHeartbeats 4000000 in
set_option maxRecDepth 100000 in
theorem Of_a4 (Z S N T O A many : Int) (w : World) (h1 : ¬ A < 1) (h2 : ¬ 4096 < A) (hw : IntKind.i64.wrap (A - 1) = A - 1) (h3 : (Go.bits .and .i64 A (A - 1) != 0) = false) (hq : (((0 : Int) == Z) && (((0 : Int) == S) && (((0 : Int) == N) && (((0 : Int) == T) && (((0 : Int) == O)))))) = false) : Calls Try.prog 74 #[.agg #[.int .i64 3, .int .i64 Z, .int .i64 S, .int .i64 N, .int .i64 T, .int .i64 O, .int .i64 A], .int .i64 many] w fun e w' => e = .returned (.nilIface) ∧ Below w.heap.size w w' := by
  have hu52 := Try.underlying52
  have HB := Aside0.mk (Below.refl w.heap.size w)
  go_enter Try.func74, Try.ntmps74
  go_wp2_with (first | ((with_reducible refine gate_dst (N := 2) rfl ?_); refine box_event ?hg (N := 2) ?hd (cs := #[.int .i64 3, .int .i64 Z, .int .i64 S, .int .i64 N, .int .i64 T, .int .i64 O, .int .i64 A]) (t := 52) ?hr ?_; (case hd => rfl); (case hg => rfl); (case hr => first | (go_simp; done) | (go_simp; rfl)); intro gp hg w_ hbox hb; have HLgp := Aside0.mk (show w.heap.size ≤ gp from by rw [hg]; exact below_size (by repeat (first | (with_reducible first | exact HB.out | apply below_alloc | apply pw_below_drewN | apply below_drew1) | exact HB.out))); clear hg; have HGp := Aside0.mk hbox; have n0_ := Aside0.mk (below_step (by repeat (first | (with_reducible first | exact HB.out | apply below_alloc | apply pw_below_drewN | apply below_drew1) | exact HB.out)) hb); clear HB; have HB := n0_; clear n0_; clear hb hbox) | ((with_reducible refine gate_dst (N := 6) rfl ?_); refine box_event ?hg (N := 6) ?hd (cs := #[.int .i64 0, .int .i64 0, .int .i64 0, .int .i64 0, .int .i64 0, .int .i64 0, .int .i64 0]) (t := 52) ?hr ?_; (case hd => rfl); (case hg => rfl); (case hr => first | (go_simp; done) | (go_simp; rfl)); intro go hg w_ hbox hb; have HLgo := Aside0.mk (show w.heap.size ≤ go from by rw [hg]; exact below_size (by repeat (first | (with_reducible first | exact HB.out | apply below_alloc | apply pw_below_drewN | apply below_drew1) | exact HB.out))); have Ngp_go := Aside0.mk (show gp ≠ go from by rw [hg]; exact Nat.ne_of_lt (blk_lt HGp.out)); clear hg; have n1_ := Aside0.mk (blk_below HGp.out hb); clear HGp; have HGp := n1_; clear n1_; have HGo := Aside0.mk hbox; have n0_ := Aside0.mk (below_step (by repeat (first | (with_reducible first | exact HB.out | apply below_alloc | apply pw_below_drewN | apply below_drew1) | exact HB.out)) hb); clear HB; have HB := n0_; clear n0_; clear hb hbox; have q_ := HGp.out; obtain ⟨kp_0, kp_1, kp_2, kp_3, kp_4, kp_5, kp_6⟩ := c7 q_; clear q_))
  refine wp_region_held_drew (S := (fun v => v.cell? ⟨gp, 0, none⟩ = some (.int .i64 3) ∧ v.cell? ⟨gp, 1, none⟩ = some (.int .i64 Z) ∧ v.cell? ⟨gp, 2, none⟩ = some (.int .i64 S) ∧ v.cell? ⟨gp, 3, none⟩ = some (.int .i64 N) ∧ v.cell? ⟨gp, 4, none⟩ = some (.int .i64 T) ∧ v.cell? ⟨gp, 5, none⟩ = some (.int .i64 O) ∧ v.cell? ⟨gp, 6, none⟩ = some (.int .i64 A))) (by kernel_rfl) (by exact ⟨kp_0, kp_1, kp_2, kp_3, kp_4, kp_5, kp_6⟩) (fun hHeld => ?_)
  refine wpAnyH_take (i := 0) (v := ?zv0r) rfl (by kernel_rfl) (by kernel_rfl) (by kernel_rfl) (fun _ _ _ h => h) (Or.inl ⟨by rfl, ?zy0r⟩) (by assumption) ?zr0r
  case zy0r => (intro w_ hSw; (try dsimp only at hSw); go_simp; try (with_reducible rfl))
  try simp only [Act.put, List.setIfInBounds_toArray, List.set_cons_zero, List.set_cons_succ, List.getElem_toArray, List.getElem_cons_zero, List.getElem_cons_succ]
  refine wpAnyH_take (i := 1) (v := ?zv1r) rfl (by kernel_rfl) (by kernel_rfl) (by kernel_rfl) (fun _ _ _ h => h) (Or.inl ⟨by rfl, ?zy1r⟩) (by assumption) ?zr1r
  case zy1r => (intro w_ hSw; (try dsimp only at hSw); go_simp; try (with_reducible rfl))
  try simp only [Act.put, List.setIfInBounds_toArray, List.set_cons_zero, List.set_cons_succ, List.getElem_toArray, List.getElem_cons_zero, List.getElem_cons_succ]
  refine wpAnyH_take (i := 2) (v := ?zv2r) rfl (by kernel_rfl) (by kernel_rfl) (by kernel_rfl) (fun _ _ _ h => h) (Or.inl ⟨by rfl, ?zy2r⟩) (by assumption) ?zr2r
  case zy2r => (intro w_ hSw; (try dsimp only at hSw); go_simp; try (with_reducible rfl))
  try simp only [Act.put, List.setIfInBounds_toArray, List.set_cons_zero, List.set_cons_succ, List.getElem_toArray, List.getElem_cons_zero, List.getElem_cons_succ]
  refine wpAnyH_take (i := 3) (v := ?zv3r) rfl (by kernel_rfl) (by kernel_rfl) (by kernel_rfl) (fun _ _ _ h => h) (Or.inl ⟨by rfl, ?zy3r⟩) (by assumption) ?zr3r
  case zy3r => (intro w_ hSw; (try dsimp only at hSw); go_simp; try (with_reducible rfl))
  try simp only [Act.put, List.setIfInBounds_toArray, List.set_cons_zero, List.set_cons_succ, List.getElem_toArray, List.getElem_cons_zero, List.getElem_cons_succ]
  refine wpAnyH_take (i := 4) (v := ?zv4r) rfl (by kernel_rfl) (by kernel_rfl) (by kernel_rfl) (fun _ _ _ h => h) (Or.inl ⟨by rfl, ?zy4r⟩) (by assumption) ?zr4r
  case zy4r => (intro w_ hSw; (try dsimp only at hSw); go_simp; try (with_reducible rfl))
  try simp only [Act.put, List.setIfInBounds_toArray, List.set_cons_zero, List.set_cons_succ, List.getElem_toArray, List.getElem_cons_zero, List.getElem_cons_succ]
  refine wpAnyH_take (i := 5) (v := ?zv5r) rfl (by kernel_rfl) (by kernel_rfl) (by kernel_rfl) (fun _ _ _ h => h) (Or.inl ⟨by rfl, ?zy5r⟩) (by assumption) ?zr5r
  case zy5r => (intro w_ hSw; (try dsimp only at hSw); go_simp; try (with_reducible rfl))
  try simp only [Act.put, List.setIfInBounds_toArray, List.set_cons_zero, List.set_cons_succ, List.getElem_toArray, List.getElem_cons_zero, List.getElem_cons_succ]
  refine wpAnyH_take (i := 6) (v := ?zv6r) rfl (by kernel_rfl) (by kernel_rfl) (by kernel_rfl) (fun _ _ _ h => h) (Or.inl ⟨by rfl, ?zy6r⟩) (by assumption) ?zr6r
  case zy6r => (intro w_ hSw; (try dsimp only at hSw); go_simp; try (with_reducible rfl))
  try simp only [Act.put, List.setIfInBounds_toArray, List.set_cons_zero, List.set_cons_succ, List.getElem_toArray, List.getElem_cons_zero, List.getElem_cons_succ]
  refine wpAnyH_take (i := 7) (v := ?zv7r) rfl (by kernel_rfl) (by kernel_rfl) (by kernel_rfl) (fun _ _ _ h => h) (Or.inl ⟨by rfl, ?zy7r⟩) (by assumption) ?zr7r
  case zy7r => (intro w_ hSw; (try dsimp only at hSw); go_simp; try (with_reducible rfl))
  try simp only [Act.put, List.setIfInBounds_toArray, List.set_cons_zero, List.set_cons_succ, List.getElem_toArray, List.getElem_cons_zero, List.getElem_cons_succ]
  refine wpAnyH_ready (rs := [8]) (by kernel_rfl) (by simp) ?_
  refine AllReadyH.cons rfl (fun K_ hK_ => ?_) AllReadyH.nil
  rw [if_pos (by rfl)]
  refine store_wp 52 (.tmp 6) (.tmp 104) rfl go 0 rfl #[.int .i64 0, .int .i64 0, .int .i64 0, .int .i64 0, .int .i64 0, .int .i64 0, .int .i64 A] rfl #[.int .i64 0, .int .i64 0, .int .i64 0, .int .i64 0, .int .i64 0, .int .i64 0, .int .i64 0] 52 HGo.out (by simp) (by kernel_rfl) (by first | kernel_rfl | (simp; done)) #[.int .i64 0, .int .i64 0, .int .i64 0, .int .i64 0, .int .i64 0, .int .i64 0, .int .i64 A] (by kernel_rfl) ?_
  intro w1 hown hoth hbel
  have n1_ := Aside0.mk ((hoth _ Ngp_go.out).trans HGp.out)
  clear HGp kp_0 kp_1 kp_2 kp_3 kp_4 kp_5 kp_6
  have HGp := n1_
  clear n1_
  have q_ := HGp.out
  obtain ⟨kp_0, kp_1, kp_2, kp_3, kp_4, kp_5, kp_6⟩ := c7 q_
  clear q_
  have q_ := hown
  obtain ⟨ko_0, ko_1, ko_2, ko_3, ko_4, ko_5, ko_6⟩ := c7 q_
  have fo_ := blk_frozen q_ 0
  clear q_
  refine hK_.out _ _ ⟨kp_0, kp_1, kp_2, kp_3, kp_4, kp_5, kp_6⟩ (fun hHeld => ?_)
  clear hK_ K_
  try simp only [Act.put, List.setIfInBounds_toArray, List.set_cons_zero, List.set_cons_succ, List.getElem_toArray, List.getElem_cons_zero, List.getElem_cons_succ]
  refine wpAnyH_done (by kernel_rfl) ?_ _
  have n0_ := Aside0.mk (hbel _ _ HLgo.out (by first | exact HB.out | exact pw_below_drewN HB.out 1))
  clear HB
  have HB := n0_
  clear n0_ hbel hoth HGo
  have HGo := Aside0.mk hown
  clear hown hHeld
  go_wp2_with (first | (refine store1_ev rfl go 0 (.int .i64 3) #[.int .i64 0, .int .i64 0, .int .i64 0, .int .i64 0, .int .i64 0, .int .i64 0, .int .i64 A] 52 HGo.out ?hr #[.int .i64 3, .int .i64 0, .int .i64 0, .int .i64 0, .int .i64 0, .int .i64 0, .int .i64 A] rfl ?_; (case hr => first | (go_simp; done) | (go_simp; rfl)); intro w_ hown hoth hbel; clear kp_0 kp_1 kp_2 kp_3 kp_4 kp_5 kp_6 ko_0 ko_1 ko_2 ko_3 ko_4 ko_5 ko_6; clear fo_; have n1_ := Aside0.mk ((hoth _ Ngp_go.out).trans HGp.out); clear HGp; have HGp := n1_; clear n1_; have n0_ := Aside0.mk (hbel _ _ HLgo.out (by repeat (first | (with_reducible first | exact HB.out | apply below_alloc | apply pw_below_drewN | apply below_drew1) | exact HB.out))); clear HB; have HB := n0_; clear n0_; clear HGo hbel hoth; have q_ := HGp.out; obtain ⟨kp_0, kp_1, kp_2, kp_3, kp_4, kp_5, kp_6⟩ := c7 q_; clear q_; obtain ⟨ko_0, ko_1, ko_2, ko_3, ko_4, ko_5, ko_6⟩ := c7 hown; clear hown))
  go_ret
  exact ⟨by first | rfl | (simp; done), (by repeat (first | (with_reducible first | exact HB.out | apply below_alloc | apply pw_below_drewN | apply below_drew1) | exact HB.out))⟩
set_option maxHeartbeats 4000000 in
set_option maxRecDepth 100000 in
theorem Of_o (K Z S N T O A many : Int) (w : World) (h1 : (K == 1) = false) (h2 : (K == 2) = false) (h3 : (K == 3) = false) : Calls Try.prog 74 #[.agg #[.int .i64 K, .int .i64 Z, .int .i64 S, .int .i64 N, .int .i64 T, .int .i64 O, .int .i64 A], .int .i64 many] w fun e w' => e = .returned (.nilIface) ∧ Below w.heap.size w w' := by
  have hu52 := Try.underlying52
  have HB := Aside0.mk (Below.refl w.heap.size w)
  by_cases hq : (((0 : Int) == Z) && (((0 : Int) == S) && (((0 : Int) == N) && (((0 : Int) == T) && (((0 : Int) == O) && (((0 : Int) == A))))))) = true
  · go_enter Try.func74, Try.ntmps74
    go_wp2_with (first | ((with_reducible refine gate_dst (N := 2) rfl ?_); refine box_event ?hg (N := 2) ?hd (cs := #[.int .i64 K, .int .i64 Z, .int .i64 S, .int .i64 N, .int .i64 T, .int .i64 O, .int .i64 A]) (t := 52) ?hr ?_; (case hd => rfl); (case hg => rfl); (case hr => first | (go_simp; done) | (go_simp; rfl)); intro gp hg w_ hbox hb; have HLgp := Aside0.mk (show w.heap.size ≤ gp from by rw [hg]; exact below_size (by repeat (first | (with_reducible first | exact HB.out | apply below_alloc | apply pw_below_drewN | apply below_drew1) | exact HB.out))); clear hg; have HGp := Aside0.mk hbox; have n0_ := Aside0.mk (below_step (by repeat (first | (with_reducible first | exact HB.out | apply below_alloc | apply pw_below_drewN | apply below_drew1) | exact HB.out)) hb); clear HB; have HB := n0_; clear n0_; clear hb hbox) | ((with_reducible refine gate_dst (N := 6) rfl ?_); refine box_event ?hg (N := 6) ?hd (cs := #[.int .i64 0, .int .i64 0, .int .i64 0, .int .i64 0, .int .i64 0, .int .i64 0, .int .i64 0]) (t := 52) ?hr ?_; (case hd => rfl); (case hg => rfl); (case hr => first | (go_simp; done) | (go_simp; rfl)); intro go hg w_ hbox hb; have HLgo := Aside0.mk (show w.heap.size ≤ go from by rw [hg]; exact below_size (by repeat (first | (with_reducible first | exact HB.out | apply below_alloc | apply pw_below_drewN | apply below_drew1) | exact HB.out))); have Ngp_go := Aside0.mk (show gp ≠ go from by rw [hg]; exact Nat.ne_of_lt (blk_lt HGp.out)); clear hg; have n1_ := Aside0.mk (blk_below HGp.out hb); clear HGp; have HGp := n1_; clear n1_; have HGo := Aside0.mk hbox; have n0_ := Aside0.mk (below_step (by repeat (first | (with_reducible first | exact HB.out | apply below_alloc | apply pw_below_drewN | apply below_drew1) | exact HB.out)) hb); clear HB; have HB := n0_; clear n0_; clear hb hbox; have q_ := HGp.out; obtain ⟨kp_0, kp_1, kp_2, kp_3, kp_4, kp_5, kp_6⟩ := c7 q_; clear q_; have q_ := HGo.out; obtain ⟨ko_0, ko_1, ko_2, ko_3, ko_4, ko_5, ko_6⟩ := c7 q_; have fo_ := blk_frozen q_ 0; clear q_) | (refine store1_ev rfl go 0 (.int .i64 K) #[.int .i64 0, .int .i64 0, .int .i64 0, .int .i64 0, .int .i64 0, .int .i64 0, .int .i64 0] 52 HGo.out ?hr #[.int .i64 K, .int .i64 0, .int .i64 0, .int .i64 0, .int .i64 0, .int .i64 0, .int .i64 0] rfl ?_; (case hr => first | (go_simp; done) | (go_simp; rfl)); intro w_ hown hoth hbel; clear kp_0 kp_1 kp_2 kp_3 kp_4 kp_5 kp_6 ko_0 ko_1 ko_2 ko_3 ko_4 ko_5 ko_6; clear fo_; have n1_ := Aside0.mk ((hoth _ Ngp_go.out).trans HGp.out); clear HGp; have HGp := n1_; clear n1_; have n0_ := Aside0.mk (hbel _ _ HLgo.out (by repeat (first | (with_reducible first | exact HB.out | apply below_alloc | apply pw_below_drewN | apply below_drew1) | exact HB.out))); clear HB; have HB := n0_; clear n0_; clear HGo hbel hoth; have q_ := HGp.out; obtain ⟨kp_0, kp_1, kp_2, kp_3, kp_4, kp_5, kp_6⟩ := c7 q_; clear q_; obtain ⟨ko_0, ko_1, ko_2, ko_3, ko_4, ko_5, ko_6⟩ := c7 hown; clear hown))
    go_ret
    exact ⟨by first | rfl | (simp; done), (by repeat (first | (with_reducible first | exact HB.out | apply below_alloc | apply pw_below_drewN | apply below_drew1) | exact HB.out))⟩
  · have hq := Bool.eq_false_iff.2 hq
    go_enter Try.func74, Try.ntmps74
    go_wp2_with (first | ((with_reducible refine gate_dst (N := 2) rfl ?_); refine box_event ?hg (N := 2) ?hd (cs := #[.int .i64 K, .int .i64 Z, .int .i64 S, .int .i64 N, .int .i64 T, .int .i64 O, .int .i64 A]) (t := 52) ?hr ?_; (case hd => rfl); (case hg => rfl); (case hr => first | (go_simp; done) | (go_simp; rfl)); intro gp hg w_ hbox hb; have HLgp := Aside0.mk (show w.heap.size ≤ gp from by rw [hg]; exact below_size (by repeat (first | (with_reducible first | exact HB.out | apply below_alloc | apply pw_below_drewN | apply below_drew1) | exact HB.out))); clear hg; have HGp := Aside0.mk hbox; have n0_ := Aside0.mk (below_step (by repeat (first | (with_reducible first | exact HB.out | apply below_alloc | apply pw_below_drewN | apply below_drew1) | exact HB.out)) hb); clear HB; have HB := n0_; clear n0_; clear hb hbox) | ((with_reducible refine gate_dst (N := 6) rfl ?_); refine box_event ?hg (N := 6) ?hd (cs := #[.int .i64 0, .int .i64 0, .int .i64 0, .int .i64 0, .int .i64 0, .int .i64 0, .int .i64 0]) (t := 52) ?hr ?_; (case hd => rfl); (case hg => rfl); (case hr => first | (go_simp; done) | (go_simp; rfl)); intro go hg w_ hbox hb; have HLgo := Aside0.mk (show w.heap.size ≤ go from by rw [hg]; exact below_size (by repeat (first | (with_reducible first | exact HB.out | apply below_alloc | apply pw_below_drewN | apply below_drew1) | exact HB.out))); have Ngp_go := Aside0.mk (show gp ≠ go from by rw [hg]; exact Nat.ne_of_lt (blk_lt HGp.out)); clear hg; have n1_ := Aside0.mk (blk_below HGp.out hb); clear HGp; have HGp := n1_; clear n1_; have HGo := Aside0.mk hbox; have n0_ := Aside0.mk (below_step (by repeat (first | (with_reducible first | exact HB.out | apply below_alloc | apply pw_below_drewN | apply below_drew1) | exact HB.out)) hb); clear HB; have HB := n0_; clear n0_; clear hb hbox; have q_ := HGp.out; obtain ⟨kp_0, kp_1, kp_2, kp_3, kp_4, kp_5, kp_6⟩ := c7 q_; clear q_; have q_ := HGo.out; obtain ⟨ko_0, ko_1, ko_2, ko_3, ko_4, ko_5, ko_6⟩ := c7 q_; have fo_ := blk_frozen q_ 0; clear q_) | (refine store1_ev rfl go 0 (.int .i64 K) #[.int .i64 0, .int .i64 0, .int .i64 0, .int .i64 0, .int .i64 0, .int .i64 0, .int .i64 0] 52 HGo.out ?hr #[.int .i64 K, .int .i64 0, .int .i64 0, .int .i64 0, .int .i64 0, .int .i64 0, .int .i64 0] rfl ?_; (case hr => first | (go_simp; done) | (go_simp; rfl)); intro w_ hown hoth hbel; clear kp_0 kp_1 kp_2 kp_3 kp_4 kp_5 kp_6 ko_0 ko_1 ko_2 ko_3 ko_4 ko_5 ko_6; clear fo_; have n1_ := Aside0.mk ((hoth _ Ngp_go.out).trans HGp.out); clear HGp; have HGp := n1_; clear n1_; have n0_ := Aside0.mk (hbel _ _ HLgo.out (by repeat (first | (with_reducible first | exact HB.out | apply below_alloc | apply pw_below_drewN | apply below_drew1) | exact HB.out))); clear HB; have HB := n0_; clear n0_; clear HGo hbel hoth; have q_ := HGp.out; obtain ⟨kp_0, kp_1, kp_2, kp_3, kp_4, kp_5, kp_6⟩ := c7 q_; clear q_; obtain ⟨ko_0, ko_1, ko_2, ko_3, ko_4, ko_5, ko_6⟩ := c7 hown; clear hown))
    go_ret
    exact ⟨by first | rfl | (simp; done), (by repeat (first | (with_reducible first | exact HB.out | apply below_alloc | apply pw_below_drewN | apply below_drew1) | exact HB.out))⟩
/-- What a piece is. -/
inductive PV where
  | fix (z : Int)
  | br (s n t o : Int)
  | al (n : Int)
def encV : PV → Value
  | .fix z => .iface 93 (.agg #[.int .i64 z])
  | .br s n t o => .iface 82 (.agg #[.int .i64 s, .int .i64 n, .int .i64 t, .int .i64 o])
  | .al n => .iface 95 (.agg #[.int .i64 n])
def encO : Option PV → Value
  | none => .nilIface
  | some v => encV v
/-- What a piece is, or none: it may not be. -/
def ofP (K Z S N T O A many : Int) : Option PV :=
  if K = 1 then (if Z < 0 then none else if 1048576 < Z then none else if S = 0 ∧ N = 0 ∧ T = 0 ∧ O = 0 ∧ A = 0 then some (.fix Z) else none)
  else if K = 2 then (if S < 1 then none else if N ≤ S then none else if 15 < N then none else if T < 0 then none else if many < T then none else if XLay.field_Fits.f O 32 = some true then (if Z = 0 ∧ A = 0 then some (.br S N T O) else none) else none)
  else if K = 3 then (if A < 1 then none else if 4096 < A then none else if Go.bits .and .i64 A (A - 1) = 0 then (if Z = 0 ∧ S = 0 ∧ N = 0 ∧ T = 0 ∧ O = 0 then some (.al A) else none) else none)
  else none
theorem fits32 (O : Int) : XLay.field_Fits.f O 32 = some true ∨ XLay.field_Fits.f O 32 = some false := by
  have h : XLay.field_bits.f 32 = some true := by decide
  unfold XLay.field_Fits.f XLay.field_Sign.f
  rw [h]
  simp only [Option.bind_some, if_true]
  rw [if_pos (show 0 ≤ wrap64 (64 - 32) by unfold wrap64; omega)]
  simp only [Option.bind_some]
  cases (shr .i64 (shl .i64 O (wrap64 (64 - 32))) (wrap64 (64 - 32)) == O)
  · exact .inr rfl
  · exact .inl rfl
theorem of_calls (K Z S N T O A many : Int) (w : World) : Calls Try.prog 74 #[.agg #[.int .i64 K, .int .i64 Z, .int .i64 S, .int .i64 N, .int .i64 T, .int .i64 O, .int .i64 A], .int .i64 many] w fun e w' => e = .returned (encO (ofP K Z S N T O A many)) ∧ Below w.heap.size w w' := by
  unfold ofP
  by_cases g1 : K = 1
  · subst g1
    rw [if_pos rfl]
    by_cases h1 : Z < 0
    · rw [if_pos h1]; exact Of_f1 _ _ _ _ _ _ many w h1
    rw [if_neg h1]
    by_cases h2 : 1048576 < Z
    · rw [if_pos h2]; exact Of_f2 _ _ _ _ _ _ many w h1 h2
    rw [if_neg h2]
    by_cases hq : S = 0 ∧ N = 0 ∧ T = 0 ∧ O = 0 ∧ A = 0
    · rw [if_pos hq]
      obtain ⟨rfl, rfl, rfl, rfl, rfl⟩ := hq
      exact Of_fix Z many w h1 h2
    · rw [if_neg hq]
      refine Of_f3 _ _ _ _ _ _ many w h1 h2 ?_
      rw [Bool.eq_false_iff]
      intro e
      simp only [Bool.and_eq_true, beq_iff_eq] at e
      omega
  rw [if_neg g1]
  by_cases g2 : K = 2
  · subst g2
    rw [if_pos rfl]
    by_cases h1 : S < 1
    · rw [if_pos h1]; exact Of_b0 _ _ _ _ _ _ many w h1
    rw [if_neg h1]
    by_cases h2 : N ≤ S
    · rw [if_pos h2]; exact Of_b1 _ _ _ _ _ _ many w h1 h2
    rw [if_neg h2]
    by_cases h3 : 15 < N
    · rw [if_pos h3]; exact Of_b2 _ _ _ _ _ _ many w h1 h2 h3
    rw [if_neg h3]
    by_cases h4 : T < 0
    · rw [if_pos h4]; exact Of_b3 _ _ _ _ _ _ many w h1 h2 h3 h4
    rw [if_neg h4]
    by_cases h5 : many < T
    · rw [if_pos h5]; exact Of_b4 _ _ _ _ _ _ many w h1 h2 h3 h4 h5
    rw [if_neg h5]
    rcases fits32 O with h6 | h6
    · rw [if_pos h6]
      by_cases hq : Z = 0 ∧ A = 0
      · rw [if_pos hq]
        obtain ⟨rfl, rfl⟩ := hq
        exact Of_br S N T O many w h1 h2 h3 h4 h5 h6
      · rw [if_neg hq]
        refine Of_br6 _ _ _ _ _ _ many w h1 h2 h3 h4 h5 h6 ?_
        rw [Bool.eq_false_iff]
        intro e
        simp only [Bool.and_eq_true, beq_iff_eq] at e
        omega
    · rw [if_neg (by rw [h6]; simp)]
      exact Of_br5 _ _ _ _ _ _ many w h1 h2 h3 h4 h5 h6
  rw [if_neg g2]
  by_cases g3 : K = 3
  · subst g3
    rw [if_pos rfl]
    by_cases h1 : A < 1
    · rw [if_pos h1]; exact Of_a1 _ _ _ _ _ _ many w h1
    rw [if_neg h1]
    by_cases h2 : 4096 < A
    · rw [if_pos h2]; exact Of_a2 _ _ _ _ _ _ many w h1 h2
    rw [if_neg h2]
    have hw : IntKind.i64.wrap (A - 1) = A - 1 := by rw [IntKind.wrap_i64]; omega
    by_cases h3 : Go.bits .and .i64 A (A - 1) = 0
    · rw [if_pos h3]
      have h3b : (Go.bits .and .i64 A (A - 1) != 0) = false := by simpa using h3
      by_cases hq : Z = 0 ∧ S = 0 ∧ N = 0 ∧ T = 0 ∧ O = 0
      · rw [if_pos hq]
        obtain ⟨rfl, rfl, rfl, rfl, rfl⟩ := hq
        exact Of_al A many w h1 h2 hw h3b
      · rw [if_neg hq]
        refine Of_a4 _ _ _ _ _ _ many w h1 h2 hw h3b ?_
        rw [Bool.eq_false_iff]
        intro e
        simp only [Bool.and_eq_true, beq_iff_eq] at e
        omega
    · rw [if_neg h3]
      exact Of_a3 _ _ _ _ _ _ many w h1 h2 hw (by simpa using h3)
  rw [if_neg g3]
  exact Of_o _ _ _ _ _ _ _ many w (beq_eq_false_iff_ne.2 g1) (beq_eq_false_iff_ne.2 g2) (beq_eq_false_iff_ne.2 g3)
end Go.Proofs.Ytlmpecahmmgphaa.Lay
