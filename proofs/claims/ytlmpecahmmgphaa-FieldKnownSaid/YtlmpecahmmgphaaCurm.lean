/- Contracts of the cursor's methods where the cursor was made. No conditions. -/
import Derived.Test.YtlmpecahmmgphaaCur
import Derived.Test.YtlmpecahmmgphaaXTelx4
import Derived.Recover
import Derived.Defers
import Derived.WalkLawsBesides
namespace Go.Proofs.Ytlmpecahmmgphaa.Curm
open Go.RowKit Go.Proofs.Ytlmpecahmmgphaa.Cur Go.Proofs.YtlmpecahmmgphaaW.PrintWords Go.Proofs.YtlmpecahmmgphaaW.PrintLast Go.Proofs.YtlmpecahmmgphaaW.PrintMore
set_option linter.unusedVariables false
set_option linter.unusedSimpArgs false
/-- Behind it: the object at g is turned; whatever else stood there is as it was. -/
structure Upd (W w' : World) (g : Nat) (o : Obj) : Prop where
  other : ∀ b, b < W.heap.size → b ≠ g → w'.heap[b]? = W.heap[b]?
  own : w'.heap[g]? = some o
  lt : g < W.heap.size
  size : W.heap.size ≤ w'.heap.size
  os : w'.os = W.os
  tape : w'.tape = W.tape
  output : w'.output = W.output
theorem Upd.alloc {W w' : World} {g : Nat} {o : Obj} (h : Upd W w' g o) (o' : Obj) : Upd W (w'.alloc o') g o := by
  have hs := h.size
  have hp : ∀ b, b < w'.heap.size → (w'.alloc o').heap[b]? = w'.heap[b]? := fun b hb => by
    show (w'.heap.push o')[b]? = _
    rw [Array.getElem?_push_lt hb, Array.getElem?_eq_getElem hb]
  exact ⟨fun b hb hn => (hp b (by omega)).trans (h.other b hb hn), (hp g (by have := h.lt; omega)).trans h.own, h.lt, by show _ ≤ (w'.heap.push o').size; rw [Array.size_push]; omega, h.os, h.tape, h.output⟩
theorem Upd.drewN {W w' : World} {g : Nat} {o : Obj} (h : Upd W w' g o) (n : Nat) : Upd W (w'.drewN n) g o := ⟨h.other, h.own, h.lt, h.size, h.os, h.tape, h.output⟩
theorem Upd.drew {W w' : World} {g : Nat} {o : Obj} (h : Upd W w' g o) : Upd W w'.drew g o := ⟨h.other, h.own, h.lt, h.size, h.os, h.tape, h.output⟩
theorem Upd.setNew {W w' : World} {g : Nat} {o : Obj} (h : Upd W w' g o) (a : Addr) (v : Value) (ha : W.heap.size ≤ a.block) : Upd W (w'.setCell a v) g o :=
  ⟨fun b hb hn => (heap_setCell_other w' a b v (by omega)).trans (h.other b hb hn), (heap_setCell_other w' a g v (by have := h.lt; omega)).trans h.own, h.lt, by rw [World.size_setCell]; exact h.size, h.os, h.tape, h.output⟩
theorem Upd.set {W : World} {g i : Nat} {cs : Array Value} {t : TypeId} (hg : W.heap[g]? = some (.cells cs t (0, 0))) (v : Value) : Upd W (W.setCell ⟨g, i, none⟩ v) g (.cells (cs.setIfInBounds i v) t (0, 0)) := by
  refine ⟨fun b hb hn => heap_setCell_other W _ b v hn, ?_, (Array.getElem?_eq_some_iff.1 hg).1, by rw [World.size_setCell]; exact Nat.le_refl _, rfl, rfl, rfl⟩
  rw [heap_setCell_same W g i cs t v hg]
theorem alloc_old (w : World) (o : Obj) {b : Nat} (h : b < w.heap.size) : (w.alloc o).heap[b]? = w.heap[b]? := by
  show (w.heap.push o)[b]? = _
  rw [Array.getElem?_push_lt h, Array.getElem?_eq_getElem h]
theorem alloc_new (w : World) (o : Obj) : (w.alloc o).heap[w.heap.size]? = some o := by
  show (w.heap.push o)[w.heap.size]? = some o
  simp
/-- A cursor that was made, over a row of n bytes at gb, at a place, with an error. -/
def cur (gb n c : Nat) (at_ err : Int) : Obj := .cells #[.slice (some ⟨gb, 0, none⟩) n c, .int .i64 at_, .int .i64 err, .bool true] 39 (0, 0)
set_option maxHeartbeats 4000000 in
set_option maxRecDepth 100000 in
theorem Int1_ok (g gb c : Nat) (l : List Int) (at_ of_ n : Int) (sgd : Bool) (bc bo bs k : Nat) (W : World)
    (hg : W.heap[g]? = some (cur gb l.length c at_ 0)) (hbc : W.heap[bc]? = some (.cells #[.pointer (some ⟨g, 0, none⟩)] 37 (0, 0))) (hbo : W.heap[bo]? = some (.cells #[.int .i64 of_] 3 (0, 0))) (hbs : W.heap[bs]? = some (.cells #[.bool sgd] 4 (0, 0)))
    (hr : ∀ j, Kd.C (Kd.int .u8) (W.drewN j) (some ⟨gb, 0, none⟩) l.length l) (hc : l.length ≤ c) (h : XTel.field_Get.f k l at_ of_ sgd = some (n, 0)) (hs : IntKind.i64.wrap (at_ + of_) = at_ + of_) (hgc : ¬ g = bc) (hgo : ¬ g = bo) :
    Calls Try.prog 59 #[.pointer (some ⟨bc, 0, none⟩), .pointer (some ⟨bo, 0, none⟩), .pointer (some ⟨bs, 0, none⟩)] W fun e w' => e = .returned (.int .i64 n) ∧ ∃ m, w' = (W.setCell ⟨g, 1, none⟩ (.int .i64 (at_ + of_))).drewN m := by
  have c0 : W.cell? ⟨g, 0, none⟩ = some (.slice (some ⟨gb, 0, none⟩) l.length c) := by simp [World.cell?, hg, cur]
  have c1 : W.cell? ⟨g, 1, none⟩ = some (.int .i64 at_) := by simp [World.cell?, hg, cur]
  have f1 : W.frozen? ⟨g, 1, none⟩ = false := by simp [World.frozen?, hg, cur]
  have c4 : W.cell? ⟨bc, 0, none⟩ = some (.pointer (some ⟨g, 0, none⟩)) := by simp [World.cell?, hbc]
  have c5 : W.cell? ⟨bo, 0, none⟩ = some (.int .i64 of_) := by simp [World.cell?, hbo]
  have c6 : W.cell? ⟨bs, 0, none⟩ = some (.bool sgd) := by simp [World.cell?, hbs]
  have HR := Aside0.mk hr
  clear hr hg hbc hbo hbs
  go_enter Try.func59, Try.ntmps59
  go_wp2
  first
    | go_region_held3 (fun w => w.cell? ⟨g, 0, none⟩ = some (.slice (some ⟨gb, 0, none⟩) l.length c) ∧ w.cell? ⟨g, 1, none⟩ = some (.int .i64 at_) ∧ w.cell? ⟨bc, 0, none⟩ = some (.pointer (some ⟨g, 0, none⟩)) ∧ w.cell? ⟨bo, 0, none⟩ = some (.int .i64 of_) ∧ w.cell? ⟨bs, 0, none⟩ = some (.bool sgd)) (exact ⟨c0, c1, c4, c5, c6⟩) (first | (go_at_call 16; refine (XTel.field_Get.calls k _ c l at_ of_ sgd n 0 _ ?rd hc h).mono ?_; (case rd => exact (HR.out _)); rintro e w1 ⟨rfl, ⟨m1, rfl⟩⟩))
    | fail
  go_wp2
  have n1 : (⟨g, 1, none⟩ : Addr) ≠ ⟨bc, 0, none⟩ := by simp [hgc]
  have n2 : (⟨g, 1, none⟩ : Addr) ≠ ⟨bo, 0, none⟩ := by simp [hgo]
  have d4 : ∀ j, ((W.drewN j).setCell ⟨g, 1, none⟩ (.int .i64 (at_ + of_))).cell? ⟨bc, 0, none⟩ = some (.pointer (some ⟨g, 0, none⟩)) := fun j => by rw [World.cell?_setCell_other (h := n1)]; exact c4
  have d5 : ∀ j, ((W.drewN j).setCell ⟨g, 1, none⟩ (.int .i64 (at_ + of_))).cell? ⟨bo, 0, none⟩ = some (.int .i64 of_) := fun j => by rw [World.cell?_setCell_other (h := n2)]; exact c5
  refine wp_region_held_drew (S := (fun w => w.cell? ⟨bc, 0, none⟩ = some (.pointer (some ⟨g, 0, none⟩)) ∧ w.cell? ⟨bo, 0, none⟩ = some (.int .i64 of_))) (by kernel_rfl) (by exact ⟨c4, c5⟩) (fun hHeld => ?_)
  refine wpAnyH_take (i := 0) (v := ?zv0) rfl (by kernel_rfl) (by kernel_rfl) (by kernel_rfl) (fun _ _ _ h => h) (Or.inl ⟨by rfl, ?zy0⟩) (by assumption) ?zr0
  case zy0 => (intro w hSw; (try dsimp only at hSw); go_simp; try (with_reducible rfl))
  try simp only [Act.put, List.setIfInBounds_toArray, List.set_cons_zero, List.set_cons_succ, List.getElem_toArray, List.getElem_cons_zero, List.getElem_cons_succ]
  refine wpAnyH_take (i := 1) (v := ?zv1) rfl (by kernel_rfl) (by kernel_rfl) (by kernel_rfl) (fun _ _ _ h => h) (Or.inl ⟨by rfl, ?zy1⟩) (by assumption) ?zr1
  case zy1 => (intro w hSw; (try dsimp only at hSw); go_simp; try (with_reducible rfl))
  try simp only [Act.put, List.setIfInBounds_toArray, List.set_cons_zero, List.set_cons_succ, List.getElem_toArray, List.getElem_cons_zero, List.getElem_cons_succ]
  refine wpAnyH_take (i := 2) (v := ?zv2) rfl (by kernel_rfl) (by kernel_rfl) (by kernel_rfl) (fun _ _ _ h => h) (Or.inl ⟨by rfl, ?zy2⟩) (by assumption) ?zr2
  case zy2 => (intro w hSw; (try dsimp only at hSw); go_simp; try (with_reducible rfl))
  try simp only [Act.put, List.setIfInBounds_toArray, List.set_cons_zero, List.set_cons_succ, List.getElem_toArray, List.getElem_cons_zero, List.getElem_cons_succ]
  refine wpAnyH_take (i := 4) (v := ?zv4) rfl (by kernel_rfl) (by kernel_rfl) (by kernel_rfl) (fun _ _ _ h => h) (Or.inl ⟨by rfl, ?zy4⟩) (by assumption) ?zr4
  case zy4 => (intro w hSw; (try dsimp only at hSw); go_simp; try (with_reducible rfl))
  try simp only [Act.put, List.setIfInBounds_toArray, List.set_cons_zero, List.set_cons_succ, List.getElem_toArray, List.getElem_cons_zero, List.getElem_cons_succ]
  refine wpAnyH_ready (rs := [3]) (by kernel_rfl) (by simp) ?_
  refine AllReadyH.cons rfl (fun K_ hK_ => ?_) AllReadyH.nil
  go_simp
  refine hK_.out _ _ ?_ (fun hHeld => ?_)
  · exact ⟨c4, c5⟩
  clear hK_ K_
  try simp only [Act.put, List.setIfInBounds_toArray, List.set_cons_zero, List.set_cons_succ, List.getElem_toArray, List.getElem_cons_zero, List.getElem_cons_succ]
  refine wpAnyH_take (i := 5) (v := ?zv5) rfl (by kernel_rfl) (by kernel_rfl) (by kernel_rfl) (fun _ _ _ h => h) (Or.inl ⟨by rfl, ?zy5⟩) (by assumption) ?zr5
  case zy5 => (intro w hSw; (try dsimp only at hSw); go_simp; try (with_reducible rfl))
  try simp only [Act.put, List.setIfInBounds_toArray, List.set_cons_zero, List.set_cons_succ, List.getElem_toArray, List.getElem_cons_zero, List.getElem_cons_succ]
  refine wpAnyH_take (i := 6) (v := ?zv6) rfl (by kernel_rfl) (by kernel_rfl) (by kernel_rfl) (fun _ _ _ h => h) (Or.inl ⟨by rfl, ?zy6⟩) (by assumption) ?zr6
  case zy6 => (intro w hSw; (try dsimp only at hSw); go_simp; try (with_reducible rfl))
  try simp only [Act.put, List.setIfInBounds_toArray, List.set_cons_zero, List.set_cons_succ, List.getElem_toArray, List.getElem_cons_zero, List.getElem_cons_succ]
  refine wpAnyH_take (i := 7) (v := ?zv7) rfl (by kernel_rfl) (by kernel_rfl) (by kernel_rfl) (fun _ _ _ h => h) (Or.inl ⟨by rfl, ?zy7⟩) (by assumption) ?zr7
  case zy7 => (intro w hSw; (try dsimp only at hSw); go_simp; try (with_reducible rfl))
  try simp only [Act.put, List.setIfInBounds_toArray, List.set_cons_zero, List.set_cons_succ, List.getElem_toArray, List.getElem_cons_zero, List.getElem_cons_succ]
  refine wpAnyH_ready (rs := [8]) (by kernel_rfl) (by simp) ?_
  refine AllReadyH.cons rfl (fun K_ hK_ => ?_) AllReadyH.nil
  go_simp
  refine hK_.out _ _ ?_ (fun hHeld => ?_)
  · exact ⟨d4 _, d5 _⟩
  clear hK_ K_
  try simp only [Act.put, List.setIfInBounds_toArray, List.set_cons_zero, List.set_cons_succ, List.getElem_toArray, List.getElem_cons_zero, List.getElem_cons_succ]
  refine wpAnyH_done (by kernel_rfl) ?_ _
  go_wp2
  go_ret
  exact ⟨rfl, _, rfl⟩
set_option maxHeartbeats 4000000 in
set_option maxRecDepth 100000 in
theorem Int1_no (g gb c : Nat) (l : List Int) (at_ of_ n : Int) (sgd : Bool) (bc bo bs k : Nat) (W : World)
    (hg : W.heap[g]? = some (cur gb l.length c at_ 0)) (hbc : W.heap[bc]? = some (.cells #[.pointer (some ⟨g, 0, none⟩)] 37 (0, 0))) (hbo : W.heap[bo]? = some (.cells #[.int .i64 of_] 3 (0, 0))) (hbs : W.heap[bs]? = some (.cells #[.bool sgd] 4 (0, 0)))
    (hr : ∀ j, Kd.C (Kd.int .u8) (W.drewN j) (some ⟨gb, 0, none⟩) l.length l) (hc : l.length ≤ c) (h : XTel.field_Get.f k l at_ of_ sgd = some (n, 9)) :
    Calls Try.prog 59 #[.pointer (some ⟨bc, 0, none⟩), .pointer (some ⟨bo, 0, none⟩), .pointer (some ⟨bs, 0, none⟩)] W fun e w' => e = .panicked [{ v := .iface 74 (.agg #[.int .i64 9]), recovered := false }] ∧ ∃ m, w' = W.drewN m := by
  have c0 : W.cell? ⟨g, 0, none⟩ = some (.slice (some ⟨gb, 0, none⟩) l.length c) := by simp [World.cell?, hg, cur]
  have c1 : W.cell? ⟨g, 1, none⟩ = some (.int .i64 at_) := by simp [World.cell?, hg, cur]
  have f1 : W.frozen? ⟨g, 1, none⟩ = false := by simp [World.frozen?, hg, cur]
  have c4 : W.cell? ⟨bc, 0, none⟩ = some (.pointer (some ⟨g, 0, none⟩)) := by simp [World.cell?, hbc]
  have c5 : W.cell? ⟨bo, 0, none⟩ = some (.int .i64 of_) := by simp [World.cell?, hbo]
  have c6 : W.cell? ⟨bs, 0, none⟩ = some (.bool sgd) := by simp [World.cell?, hbs]
  have HR := Aside0.mk hr
  clear hr hg hbc hbo hbs
  go_enter Try.func59, Try.ntmps59
  go_wp2
  first
    | go_region_held3 (fun w => w.cell? ⟨g, 0, none⟩ = some (.slice (some ⟨gb, 0, none⟩) l.length c) ∧ w.cell? ⟨g, 1, none⟩ = some (.int .i64 at_) ∧ w.cell? ⟨bc, 0, none⟩ = some (.pointer (some ⟨g, 0, none⟩)) ∧ w.cell? ⟨bo, 0, none⟩ = some (.int .i64 of_) ∧ w.cell? ⟨bs, 0, none⟩ = some (.bool sgd)) (exact ⟨c0, c1, c4, c5, c6⟩) (first | (go_at_call 16; refine (XTel.field_Get.calls k _ c l at_ of_ sgd n 9 _ ?rd hc h).mono ?_; (case rd => exact (HR.out _)); rintro e w1 ⟨rfl, ⟨m1, rfl⟩⟩))
    | fail
  go_wp2
  exact ⟨rfl, rfl, _, rfl⟩
theorem catch_idle (p q : Addr) (w : World) :
    CallsD Try.prog 73 #[.pointer (some p), .pointer (some q)] .returning w fun e u' w' => e = .returned (.tuple #[]) ∧ u' = .returning ∧ w' = w := by
  refine callsD_of_wpS Try.func73 rfl fun c₀ cs hu => ?_
  apply wpS_seq
  apply wpS_region
  simp [wpOpsS, go_sem, recoverD, hu, Try.ntmps73, Exit.thenS]
  refine wpS_of_wp ?_
  go_wp2
  cases c₀
  simp_all [bodyPostS, results, Try.results73]
set_option maxHeartbeats 4000000 in
set_option maxRecDepth 100000 in
theorem catch_pan (g gb n_ c : Nat) (at_ x : Int) (bn bc : Nat) (w : World) (hg : w.heap[g]? = some (cur gb n_ c at_ 0)) (hbc : w.heap[bc]? = some (.cells #[.pointer (some ⟨g, 0, none⟩)] 37 (0, 0))) (hbn : w.heap[bn]? = some (.cells #[.int .i64 x] 3 (0, 0))) (hgn : ¬ g = bn) (hgc : ¬ g = bc) (hnc : ¬ bn = bc) :
    CallsD Try.prog 73 #[.pointer (some ⟨bn, 0, none⟩), .pointer (some ⟨bc, 0, none⟩)] (.panicking [{ v := .iface 74 (.agg #[.int .i64 9]), recovered := false }]) w fun e u' w' =>
      e = .returned (.tuple #[]) ∧ u' = .panicking [{ v := .iface 74 (.agg #[.int .i64 9]), recovered := true }] ∧ w' = (((w.alloc (.cells #[.int .i64 9] 74)).setCell ⟨bn, 0, none⟩ (.int .i64 0)).setCell ⟨g, 2, none⟩ (.int .i64 9)).drew := by
  have hta : ∀ w : World, (Instr.typeAssert (.iface 74 (.agg #[.int .i64 9])) 20 74 true).run Try.prog w = .ok (.tuple #[.agg #[.int .i64 9], .bool true]) w := fun _ => by kernel_rfl
  have hsg : g < w.heap.size := (Array.getElem?_eq_some_iff.1 hg).1
  have hsn : bn < w.heap.size := (Array.getElem?_eq_some_iff.1 hbn).1
  have hsc : bc < w.heap.size := (Array.getElem?_eq_some_iff.1 hbc).1
  obtain ⟨X, hX⟩ : ∃ X, X = w.alloc (.cells #[.int .i64 9] 74) := ⟨_, rfl⟩
  have xg : X.heap[g]? = some (cur gb n_ c at_ 0) := by rw [hX]; exact (alloc_old w _ hsg).trans hg
  have xn : X.heap[bn]? = some (.cells #[.int .i64 x] 3 (0, 0)) := by rw [hX]; exact (alloc_old w _ hsn).trans hbn
  have xc : X.heap[bc]? = some (.cells #[.pointer (some ⟨g, 0, none⟩)] 37 (0, 0)) := by rw [hX]; exact (alloc_old w _ hsc).trans hbc
  have xs : X.heap[w.heap.size]? = some (.cells #[.int .i64 9] 74 (0, 0)) := by rw [hX]; exact alloc_new w _
  have n1 : (⟨bn, 0, none⟩ : Addr) ≠ ⟨bc, 0, none⟩ := by simp [hnc]
  have n2 : (⟨bn, 0, none⟩ : Addr) ≠ ⟨w.heap.size, 0, none⟩ := by intro h_; simp only [Addr.mk.injEq] at h_; omega
  have n3 : (⟨bn, 0, none⟩ : Addr) ≠ ⟨g, 2, none⟩ := by simp
  have n4 : (⟨g, 2, none⟩ : Addr) ≠ ⟨bc, 0, none⟩ := by simp
  have n5 : (⟨g, 2, none⟩ : Addr) ≠ ⟨w.heap.size, 0, none⟩ := by simp
  have kA : ∀ j, (X.drewN j).cell? ⟨bc, 0, none⟩ = some (.pointer (some ⟨g, 0, none⟩)) ∧ (X.drewN j).cell? ⟨w.heap.size, 0, none⟩ = some (.int .i64 9) := fun j => ⟨by show X.cell? _ = _; simp [World.cell?, xc], by show X.cell? _ = _; simp [World.cell?, xs]⟩
  have kB : ∀ j, ((X.drewN j).setCell ⟨bn, 0, none⟩ (.int .i64 0)).cell? ⟨bc, 0, none⟩ = some (.pointer (some ⟨g, 0, none⟩)) ∧ ((X.drewN j).setCell ⟨bn, 0, none⟩ (.int .i64 0)).cell? ⟨w.heap.size, 0, none⟩ = some (.int .i64 9) :=
    fun j => ⟨by rw [World.cell?_setCell_other (h := n1)]; exact (kA j).1, by rw [World.cell?_setCell_other (h := n2)]; exact (kA j).2⟩
  have kC : ∀ j, (((X.drewN j).setCell ⟨bn, 0, none⟩ (.int .i64 0)).setCell ⟨g, 2, none⟩ (.int .i64 9)).cell? ⟨bc, 0, none⟩ = some (.pointer (some ⟨g, 0, none⟩)) ∧ (((X.drewN j).setCell ⟨bn, 0, none⟩ (.int .i64 0)).setCell ⟨g, 2, none⟩ (.int .i64 9)).cell? ⟨w.heap.size, 0, none⟩ = some (.int .i64 9) :=
    fun j => ⟨by rw [World.cell?_setCell_other (h := n4)]; exact (kB j).1, by rw [World.cell?_setCell_other (h := n5)]; exact (kB j).2⟩
  have tn : ∀ j, (X.drewN j).cell? ⟨bn, 0, none⟩ = some (.int .i64 x) := fun j => by show X.cell? _ = _; simp [World.cell?, xn]
  have fn : ∀ j, (X.drewN j).frozen? ⟨bn, 0, none⟩ = false := fun j => by show X.frozen? _ = _; simp [World.frozen?, xn]
  have tg : ∀ j, ((X.drewN j).setCell ⟨bn, 0, none⟩ (.int .i64 0)).cell? ⟨g, 2, none⟩ = some (.int .i64 0) := fun j => by rw [World.cell?_setCell_other (h := n3)]; show X.cell? _ = _; simp [World.cell?, xg, cur]
  have fg : ∀ j, ((X.drewN j).setCell ⟨bn, 0, none⟩ (.int .i64 0)).frozen? ⟨g, 2, none⟩ = false := fun j => by rw [World.frozen?_setCell]; show X.frozen? _ = _; simp [World.frozen?, xg, cur]
  have tn0 : X.cell? ⟨bn, 0, none⟩ = some (.int .i64 x) := tn 0
  have fn0 : X.frozen? ⟨bn, 0, none⟩ = false := fn 0
  have tg0 : (X.setCell ⟨bn, 0, none⟩ (.int .i64 0)).cell? ⟨g, 2, none⟩ = some (.int .i64 0) := tg 0
  have fg0 : X.frozen? ⟨g, 2, none⟩ = false := by simp [World.frozen?, xg, cur]
  have HX := Aside0.mk hX
  have HK := Aside0.mk (And.intro kA (And.intro kB kC))
  clear kA kB kC xn xc xs hX
  refine callsD_of_wpS Try.func73 rfl fun c₀ cs hu => ?_
  apply wpS_seq
  apply wpS_region
  simp [wpOpsS, go_sem, recoverD, hu, Try.ntmps73, Exit.thenS]
  refine wpS_of_wp ?_
  rw [show (#[.pointer (some ⟨bn, 0, none⟩), .pointer (some ⟨bc, 0, none⟩)] ++ (Array.replicate 14 undef).setIfInBounds 3 (.iface 74 (.agg #[.int .i64 9])) : Array Value) = #[.pointer (some ⟨bn, 0, none⟩), .pointer (some ⟨bc, 0, none⟩), undef, undef, undef, .iface 74 (.agg #[.int .i64 9]), undef, undef, undef, undef, undef, undef, undef, undef, undef, undef] from rfl]
  go_wp2
  rw [← HX.out]
  first
    | go_region_held3 (fun v => v.cell? ⟨bc, 0, none⟩ = some (.pointer (some ⟨g, 0, none⟩)) ∧ v.cell? ⟨w.heap.size, 0, none⟩ = some (.int .i64 9)) (first | exact HK.out.1 1 | exact HK.out.1 _ | exact HK.out.2.1 _ | exact HK.out.2.2 _) (done)
    | fail
  go_wp2
  have hX_ := HX.out
  clear HX HK
  subst hX_
  cases c₀
  simp_all [bodyPostS, results, Try.results73]
set_option maxHeartbeats 4000000 in
set_option maxRecDepth 100000 in
theorem face_ok (g gb c : Nat) (l : List Int) (at_ of_ n : Int) (sgd : Bool) (bc bo bs k : Nat) (W : World)
    (hg : W.heap[g]? = some (cur gb l.length c at_ 0)) (hbc : W.heap[bc]? = some (.cells #[.pointer (some ⟨g, 0, none⟩)] 37 (0, 0))) (hbo : W.heap[bo]? = some (.cells #[.int .i64 of_] 3 (0, 0))) (hbs : W.heap[bs]? = some (.cells #[.bool sgd] 4 (0, 0)))
    (hr : ∀ W' : World, Below g W W' → Kd.C (Kd.int .u8) W' (some ⟨gb, 0, none⟩) l.length l) (hc : l.length ≤ c) (h : XTel.field_Get.f k l at_ of_ sgd = some (n, 0)) (hs : IntKind.i64.wrap (at_ + of_) = at_ + of_) (hgc : ¬ g = bc) (hgo : ¬ g = bo) :
    Calls Try.prog 58 #[.pointer (some ⟨g, 0, none⟩), .func (.func 59) #[] #[.pointer (some ⟨bc, 0, none⟩), .pointer (some ⟨bo, 0, none⟩), .pointer (some ⟨bs, 0, none⟩)]] W fun e w' => e = .returned (.int .i64 n) ∧ Upd W w' g (cur gb l.length c (at_ + of_) 0) := by
  have hmf : ∀ (fn : Fn) (first cap : Array Value) (w : World), (Instr.makeFunc fn first cap).run Try.prog w = .ok (.func fn first cap) w := fun _ _ _ _ => rfl
  have hsg : g < W.heap.size := (Array.getElem?_eq_some_iff.1 hg).1
  have hsc : bc < W.heap.size := (Array.getElem?_eq_some_iff.1 hbc).1
  have hso : bo < W.heap.size := (Array.getElem?_eq_some_iff.1 hbo).1
  have hss : bs < W.heap.size := (Array.getElem?_eq_some_iff.1 hbs).1
  have hL := Aside0.mk (show ∀ o1 o2 : Obj, ∀ w' : World, w' = (W.alloc o1).alloc o2 → Calls Try.prog 59 #[.pointer (some ⟨bc, 0, none⟩), .pointer (some ⟨bo, 0, none⟩), .pointer (some ⟨bs, 0, none⟩)] w' fun e w'' => e = .returned (.int .i64 n) ∧ ∃ m, w'' = (w'.setCell ⟨g, 1, none⟩ (.int .i64 (at_ + of_))).drewN m from by
    rintro o1 o2 w' rfl
    have al : ∀ b, b < W.heap.size → ((W.alloc o1).alloc o2).heap[b]? = W.heap[b]? := fun b hb => (alloc_old _ _ (by show b < (W.heap.push _).size; rw [Array.size_push]; omega)).trans (alloc_old _ _ hb)
    refine Int1_ok g gb c l at_ of_ n sgd bc bo bs k _ ((al g hsg).trans hg) ((al bc hsc).trans hbc) ((al bo hso).trans hbo) ((al bs hss).trans hbs) (fun j => hr _ ?_) hc h hs hgc hgo
    exact pw_below_drewN (((Below.refl g W).alloc (by omega) o1).alloc (by show g ≤ (W.heap.push _).size; rw [Array.size_push]; omega) o2) j)
  have HU := Aside0.mk (show Upd W (W.setCell ⟨g, 1, none⟩ (.int .i64 (at_ + of_))) g (cur gb l.length c (at_ + of_) 0) from Upd.set hg _)
  clear hg hbc hbo hbs hr
  go_enter_defers Try.func58, Try.ntmps58
  go_wp2_with (first | (go_at_call 59; refine (hL.out _ _ _ rfl).mono ?_; rintro e w' ⟨rfl, m, rfl⟩))
  refine leaves_cons (f := 73) (args := #[.pointer (some ⟨W.heap.size + 1, 0, none⟩), .pointer (some ⟨W.heap.size, 0, none⟩)]) (by simp) (by simp [go_sem]) ?_
  refine (catch_idle _ _ _).mono ?_
  rintro e u' w'' ⟨rfl, rfl, rfl⟩
  simp [Leaves, settle, results, Try.results58, go_sem]
  exact (((HU.out.alloc _).alloc _).drewN _).setNew _ _ (by show W.heap.size ≤ W.heap.size + 1; omega)
theorem Upd.seto {W w' : World} {g i : Nat} {cs : Array Value} {t : TypeId} (h : Upd W w' g (.cells cs t (0, 0))) (v : Value) : Upd W (w'.setCell ⟨g, i, none⟩ v) g (.cells (cs.setIfInBounds i v) t (0, 0)) := by
  refine ⟨fun b hb hn => (heap_setCell_other w' _ b v hn).trans (h.other b hb hn), ?_, h.lt, by rw [World.size_setCell]; exact h.size, h.os, h.tape, h.output⟩
  rw [heap_setCell_same w' g i cs t v h.own]
theorem Upd.refl {W : World} {g : Nat} {o : Obj} (h : W.heap[g]? = some o) : Upd W W g o := ⟨fun _ _ _ => rfl, h, (Array.getElem?_eq_some_iff.1 h).1, Nat.le_refl _, rfl, rfl, rfl⟩
set_option maxHeartbeats 4000000 in
set_option maxRecDepth 100000 in
theorem face_no (g gb c : Nat) (l : List Int) (at_ of_ n : Int) (sgd : Bool) (bc bo bs k : Nat) (W : World)
    (hg : W.heap[g]? = some (cur gb l.length c at_ 0)) (hbc : W.heap[bc]? = some (.cells #[.pointer (some ⟨g, 0, none⟩)] 37 (0, 0))) (hbo : W.heap[bo]? = some (.cells #[.int .i64 of_] 3 (0, 0))) (hbs : W.heap[bs]? = some (.cells #[.bool sgd] 4 (0, 0)))
    (hr : ∀ W' : World, Below g W W' → Kd.C (Kd.int .u8) W' (some ⟨gb, 0, none⟩) l.length l) (hc : l.length ≤ c) (h : XTel.field_Get.f k l at_ of_ sgd = some (n, 9)) :
    Calls Try.prog 58 #[.pointer (some ⟨g, 0, none⟩), .func (.func 59) #[] #[.pointer (some ⟨bc, 0, none⟩), .pointer (some ⟨bo, 0, none⟩), .pointer (some ⟨bs, 0, none⟩)]] W fun e w' => e = .returned (.int .i64 0) ∧ Upd W w' g (cur gb l.length c at_ 9) := by
  have hmf : ∀ (fn : Fn) (first cap : Array Value) (w : World), (Instr.makeFunc fn first cap).run Try.prog w = .ok (.func fn first cap) w := fun _ _ _ _ => rfl
  have hsg : g < W.heap.size := (Array.getElem?_eq_some_iff.1 hg).1
  have hsc : bc < W.heap.size := (Array.getElem?_eq_some_iff.1 hbc).1
  have hso : bo < W.heap.size := (Array.getElem?_eq_some_iff.1 hbo).1
  have hss : bs < W.heap.size := (Array.getElem?_eq_some_iff.1 hbs).1
  have hL := Aside0.mk (show ∀ o1 o2 : Obj, ∀ w' : World, w' = (W.alloc o1).alloc o2 → Calls Try.prog 59 #[.pointer (some ⟨bc, 0, none⟩), .pointer (some ⟨bo, 0, none⟩), .pointer (some ⟨bs, 0, none⟩)] w' fun e w'' => e = .panicked [{ v := .iface 74 (.agg #[.int .i64 9]), recovered := false }] ∧ ∃ m, w'' = w'.drewN m from by
    rintro o1 o2 w' rfl
    have al : ∀ b, b < W.heap.size → ((W.alloc o1).alloc o2).heap[b]? = W.heap[b]? := fun b hb => (alloc_old _ _ (by show b < (W.heap.push _).size; rw [Array.size_push]; omega)).trans (alloc_old _ _ hb)
    refine Int1_no g gb c l at_ of_ n sgd bc bo bs k _ ((al g hsg).trans hg) ((al bc hsc).trans hbc) ((al bo hso).trans hbo) ((al bs hss).trans hbs) (fun j => hr _ ?_) hc h
    exact pw_below_drewN (((Below.refl g W).alloc (by omega) o1).alloc (by show g ≤ (W.heap.push _).size; rw [Array.size_push]; omega) o2) j)
  have al : ∀ (o1 o2 : Obj) (b : Nat), b < W.heap.size → ((W.alloc o1).alloc o2).heap[b]? = W.heap[b]? := fun o1 o2 b hb => (alloc_old _ _ (by show b < (W.heap.push _).size; rw [Array.size_push]; omega)).trans (alloc_old _ _ hb)
  have HU := Aside0.mk (show ∀ (o1 o2 : Obj), ((W.alloc o1).alloc o2).heap[g]? = some (cur gb l.length c at_ 0) ∧ ((W.alloc o1).alloc o2).heap[W.heap.size]? = some o1 ∧ ((W.alloc o1).alloc o2).heap[W.heap.size + 1]? = some o2 from fun o1 o2 =>
    ⟨(al o1 o2 g hsg).trans hg, (alloc_old _ _ (by show _ < (W.heap.push _).size; rw [Array.size_push]; omega)).trans (alloc_new _ _), by
      have := alloc_new (W.alloc o1) o2
      rwa [show (W.alloc o1).heap.size = W.heap.size + 1 from Array.size_push ..] at this⟩)
  have HG := Aside0.mk hg
  clear al
  clear hg hbc hbo hbs hr
  go_enter_defers Try.func58, Try.ntmps58
  go_wp2_with (first | (go_at_call 59; refine (hL.out _ _ _ rfl).mono ?_; rintro e w' ⟨rfl, m, rfl⟩))
  refine leaves_cons (f := 73) (args := #[.pointer (some ⟨W.heap.size + 1, 0, none⟩), .pointer (some ⟨W.heap.size, 0, none⟩)]) (by simp) (by simp [go_sem]) ?_
  refine (catch_pan g gb l.length c at_ 0 (W.heap.size + 1) W.heap.size _ ?za ?zb ?zc (by omega) (by omega) (by omega)).mono ?zd
  case za => exact (HU.out _ _).1
  case zb => exact (HU.out _ _).2.1
  case zc => exact (HU.out _ _).2.2
  rintro e u' w'' ⟨rfl, rfl, rfl⟩
  simp [Leaves, settle, results, Try.results58, go_sem]
  exact Upd.drew (Upd.seto (Upd.alloc (Upd.setNew (Upd.drewN (Upd.alloc (Upd.alloc (Upd.refl HG.out) _) _) _) _ _ (by show W.heap.size ≤ W.heap.size + 1; omega)) _) _)
/-- Three new blocks. -/
def al3 (W : World) (o1 o2 o3 : Obj) (m : Nat) : World := (((W.alloc o1).alloc o2).alloc o3).drewN m
theorem al3_old (W : World) (o1 o2 o3 : Obj) (m : Nat) {b : Nat} (h : b < W.heap.size) : (al3 W o1 o2 o3 m).heap[b]? = W.heap[b]? := by
  show (((W.alloc o1).alloc o2).alloc o3).heap[b]? = _
  have e1 : (W.alloc o1).heap.size = W.heap.size + 1 := Array.size_push ..
  have e2 : ((W.alloc o1).alloc o2).heap.size = W.heap.size + 2 := (Array.size_push ..).trans (by rw [e1])
  rw [alloc_old _ _ (by omega), alloc_old _ _ (by omega), alloc_old _ _ h]
theorem al3_new (W : World) (o1 o2 o3 : Obj) (m : Nat) : (al3 W o1 o2 o3 m).heap[W.heap.size]? = some o1 ∧ (al3 W o1 o2 o3 m).heap[W.heap.size + 1]? = some o2 ∧ (al3 W o1 o2 o3 m).heap[W.heap.size + 2]? = some o3 := by
  have e1 : (W.alloc o1).heap.size = W.heap.size + 1 := Array.size_push ..
  have e2 : ((W.alloc o1).alloc o2).heap.size = W.heap.size + 2 := (Array.size_push ..).trans (by rw [e1])
  refine ⟨?_, ?_, ?_⟩
  · show (((W.alloc o1).alloc o2).alloc o3).heap[_]? = _
    rw [alloc_old _ _ (by omega), alloc_old _ _ (by omega), alloc_new]
  · show (((W.alloc o1).alloc o2).alloc o3).heap[_]? = _
    rw [alloc_old _ _ (by omega), ← e1, alloc_new]
  · show (((W.alloc o1).alloc o2).alloc o3).heap[_]? = _
    rw [← e2, alloc_new]
theorem al3_upd {W w' : World} {g : Nat} {o o0 o1 o2 o3 : Obj} {m : Nat} (hg : W.heap[g]? = some o0) (h : Upd (al3 W o1 o2 o3 m) w' g o) : Upd W w' g o := by
  have u : Upd W (al3 W o1 o2 o3 m) g o0 := (((Upd.refl hg).alloc o1).alloc o2).alloc o3 |>.drewN m
  have hs := u.size
  exact ⟨fun b hb hn => (h.other b (by omega) hn).trans (u.other b hb hn), h.own, u.lt, Nat.le_trans u.size h.size, h.os.trans u.os, h.tape.trans u.tape, h.output.trans u.output⟩
theorem al3_below (W : World) (g : Nat) (o1 o2 o3 : Obj) (m : Nat) (h : g < W.heap.size) : Below g W (al3 W o1 o2 o3 m) := by
  have e1 : (W.alloc o1).heap.size = W.heap.size + 1 := Array.size_push ..
  have e2 : ((W.alloc o1).alloc o2).heap.size = W.heap.size + 2 := (Array.size_push ..).trans (by rw [e1])
  exact pw_below_drewN ((((Below.refl g W).alloc (by omega) o1).alloc (by omega) o2).alloc (by omega) o3) m
theorem upd_below {W w' : World} {g : Nat} {o : Obj} (h : Upd W w' g o) : Below g W w' := ⟨h.os, h.tape, h.output, h.size, fun b hb => h.other b (by have := h.lt; omega) (by omega)⟩
set_option maxHeartbeats 4000000 in
set_option maxRecDepth 100000 in
theorem Int_ok (g gb c : Nat) (l : List Int) (at_ of_ n : Int) (sgd : Bool) (k : Nat) (W : World) (hg : W.heap[g]? = some (cur gb l.length c at_ 0))
    (hr : ∀ W' : World, Below g W W' → Kd.C (Kd.int .u8) W' (some ⟨gb, 0, none⟩) l.length l) (hc : l.length ≤ c) (hz : XTel.field_size.f of_ = some true) (h : XTel.field_Get.f k l at_ of_ sgd = some (n, 0)) (hs : IntKind.i64.wrap (at_ + of_) = at_ + of_) :
    Calls Try.prog 33 #[.pointer (some ⟨g, 0, none⟩), .int .i64 of_, .bool sgd] W fun e w' => e = .returned (.int .i64 n) ∧ Upd W w' g (cur gb l.length c (at_ + of_) 0) := by
  have hmf : ∀ (fn : Fn) (first cap : Array Value) (w : World), (Instr.makeFunc fn first cap).run Try.prog w = .ok (.func fn first cap) w := fun _ _ _ _ => rfl
  have hsg : g < W.heap.size := (Array.getElem?_eq_some_iff.1 hg).1
  have k0 : ∀ o1 o2 o3, (((W.alloc o1).alloc o2).alloc o3).cell? ⟨g, 3, none⟩ = some (.bool true) := fun o1 o2 o3 => by have := al3_old W o1 o2 o3 0 hsg; simp [World.cell?, show (((W.alloc o1).alloc o2).alloc o3).heap[g]? = _ from this.trans hg, cur]
  have k1 : ∀ o1 o2 o3, (((W.alloc o1).alloc o2).alloc o3).cell? ⟨g, 2, none⟩ = some (.int .i64 0) := fun o1 o2 o3 => by have := al3_old W o1 o2 o3 0 hsg; simp [World.cell?, show (((W.alloc o1).alloc o2).alloc o3).heap[g]? = _ from this.trans hg, cur]
  have hL := Aside0.mk (show ∀ W' : World, ∀ m, W' = al3 W (.cells #[.pointer (some ⟨g, 0, none⟩)] 37) (.cells #[.int .i64 of_] 3) (.cells #[.bool sgd] 4) m →
      Calls Try.prog 58 #[.pointer (some ⟨g, 0, none⟩), .func (.func 59) #[] #[.pointer (some ⟨W.heap.size, 0, none⟩), .pointer (some ⟨W.heap.size + 1, 0, none⟩), .pointer (some ⟨W.heap.size + 2, 0, none⟩)]] W' fun e w' => e = .returned (.int .i64 n) ∧ Upd W w' g (cur gb l.length c (at_ + of_) 0) from by
    rintro W' m rfl
    have hn := al3_new W (.cells #[.pointer (some ⟨g, 0, none⟩)] 37) (.cells #[.int .i64 of_] 3) (.cells #[.bool sgd] 4) m
    refine (face_ok g gb c l at_ of_ n sgd W.heap.size (W.heap.size + 1) (W.heap.size + 2) k _ ((al3_old W _ _ _ m hsg).trans hg) hn.1 hn.2.1 hn.2.2 (fun W' hb => hr W' ?_) hc h hs (by omega) (by omega)).mono ?_
    · have b0 := al3_below W g (.cells #[.pointer (some ⟨g, 0, none⟩)] 37) (.cells #[.int .i64 of_] 3) (.cells #[.bool sgd] 4) m hsg
      exact ⟨hb.os.trans b0.os, hb.tape.trans b0.tape, hb.output.trans b0.output, Nat.le_trans b0.size hb.size, fun b hb' => (hb.block b hb').trans (b0.block b hb')⟩
    · rintro e w' ⟨rfl, hu⟩
      exact ⟨rfl, al3_upd hg hu⟩)
  have HZ := Aside0.mk hz
  clear hg hr hz
  go_enter Try.func33, Try.ntmps33
  go_wp2_with (first | ((with_reducible refine gate_callee (f := 55) rfl ?_); (try (refine gate_guard (by rfl) ?_; dsimp only)); refine goesL_ (some 25) rfl rfl Try.func55 (by kernel_rfl) rfl #[.int .i64 of_] rfl (by (try simp only [List.map_toArray, List.map_cons, List.map_nil]); first | done | rfl) ?_; refine (XTel.field_size.calls of_ true _ HZ.out).mono ?_; rintro e w1 ⟨rfl, ⟨m1, rfl⟩⟩; refine ⟨_, rfl, ?_⟩) | (go_at_call 58; refine (hL.out _ _ rfl).mono ?_; rintro e w' ⟨rfl, hu⟩))
  go_ret
  exact ⟨rfl, hu⟩
set_option maxHeartbeats 4000000 in
set_option maxRecDepth 100000 in
theorem Int_no (g gb c : Nat) (l : List Int) (at_ of_ n : Int) (sgd : Bool) (k : Nat) (W : World) (hg : W.heap[g]? = some (cur gb l.length c at_ 0))
    (hr : ∀ W' : World, Below g W W' → Kd.C (Kd.int .u8) W' (some ⟨gb, 0, none⟩) l.length l) (hc : l.length ≤ c) (hz : XTel.field_size.f of_ = some true) (h : XTel.field_Get.f k l at_ of_ sgd = some (n, 9)) :
    Calls Try.prog 33 #[.pointer (some ⟨g, 0, none⟩), .int .i64 of_, .bool sgd] W fun e w' => e = .returned (.int .i64 0) ∧ Upd W w' g (cur gb l.length c at_ 9) := by
  have hmf : ∀ (fn : Fn) (first cap : Array Value) (w : World), (Instr.makeFunc fn first cap).run Try.prog w = .ok (.func fn first cap) w := fun _ _ _ _ => rfl
  have hsg : g < W.heap.size := (Array.getElem?_eq_some_iff.1 hg).1
  have k0 : ∀ o1 o2 o3, (((W.alloc o1).alloc o2).alloc o3).cell? ⟨g, 3, none⟩ = some (.bool true) := fun o1 o2 o3 => by have := al3_old W o1 o2 o3 0 hsg; simp [World.cell?, show (((W.alloc o1).alloc o2).alloc o3).heap[g]? = _ from this.trans hg, cur]
  have k1 : ∀ o1 o2 o3, (((W.alloc o1).alloc o2).alloc o3).cell? ⟨g, 2, none⟩ = some (.int .i64 0) := fun o1 o2 o3 => by have := al3_old W o1 o2 o3 0 hsg; simp [World.cell?, show (((W.alloc o1).alloc o2).alloc o3).heap[g]? = _ from this.trans hg, cur]
  have hL := Aside0.mk (show ∀ W' : World, ∀ m, W' = al3 W (.cells #[.pointer (some ⟨g, 0, none⟩)] 37) (.cells #[.int .i64 of_] 3) (.cells #[.bool sgd] 4) m →
      Calls Try.prog 58 #[.pointer (some ⟨g, 0, none⟩), .func (.func 59) #[] #[.pointer (some ⟨W.heap.size, 0, none⟩), .pointer (some ⟨W.heap.size + 1, 0, none⟩), .pointer (some ⟨W.heap.size + 2, 0, none⟩)]] W' fun e w' => e = .returned (.int .i64 0) ∧ Upd W w' g (cur gb l.length c at_ 9) from by
    rintro W' m rfl
    have hn := al3_new W (.cells #[.pointer (some ⟨g, 0, none⟩)] 37) (.cells #[.int .i64 of_] 3) (.cells #[.bool sgd] 4) m
    refine (face_no g gb c l at_ of_ n sgd W.heap.size (W.heap.size + 1) (W.heap.size + 2) k _ ((al3_old W _ _ _ m hsg).trans hg) hn.1 hn.2.1 hn.2.2 (fun W' hb => hr W' ?_) hc h).mono ?_
    · have b0 := al3_below W g (.cells #[.pointer (some ⟨g, 0, none⟩)] 37) (.cells #[.int .i64 of_] 3) (.cells #[.bool sgd] 4) m hsg
      exact ⟨hb.os.trans b0.os, hb.tape.trans b0.tape, hb.output.trans b0.output, Nat.le_trans b0.size hb.size, fun b hb' => (hb.block b hb').trans (b0.block b hb')⟩
    · rintro e w' ⟨rfl, hu⟩
      exact ⟨rfl, al3_upd hg hu⟩)
  have HZ := Aside0.mk hz
  clear hg hr hz
  go_enter Try.func33, Try.ntmps33
  go_wp2_with (first | ((with_reducible refine gate_callee (f := 55) rfl ?_); (try (refine gate_guard (by rfl) ?_; dsimp only)); refine goesL_ (some 25) rfl rfl Try.func55 (by kernel_rfl) rfl #[.int .i64 of_] rfl (by (try simp only [List.map_toArray, List.map_cons, List.map_nil]); first | done | rfl) ?_; refine (XTel.field_size.calls of_ true _ HZ.out).mono ?_; rintro e w1 ⟨rfl, ⟨m1, rfl⟩⟩; refine ⟨_, rfl, ?_⟩) | (go_at_call 58; refine (hL.out _ _ rfl).mono ?_; rintro e w' ⟨rfl, hu⟩))
  go_ret
  exact ⟨rfl, hu⟩
set_option maxHeartbeats 4000000 in
set_option maxRecDepth 100000 in
theorem Byte_ok (g gb c : Nat) (l : List Int) (at_ n : Int) (k : Nat) (W : World) (hg : W.heap[g]? = some (cur gb l.length c at_ 0))
    (hr : ∀ W' : World, Below g W W' → Kd.C (Kd.int .u8) W' (some ⟨gb, 0, none⟩) l.length l) (hc : l.length ≤ c) (h : XTel.field_Get.f k l at_ 1 false = some (n, 0)) (hs : IntKind.i64.wrap (at_ + 1) = at_ + 1) :
    Calls Try.prog 34 #[.pointer (some ⟨g, 0, none⟩)] W fun e w' => e = .returned (.int .i64 n) ∧ Upd W w' g (cur gb l.length c (at_ + 1) 0) := by
  have hL := Aside0.mk (Int_ok g gb c l at_ 1 n false k W hg hr hc rfl h hs)
  clear hg hr
  go_enter Try.func34, Try.ntmps34
  go_wp2_with (first | (go_at_call 33; refine (hL.out).mono ?_; rintro e w' ⟨rfl, hu⟩))
  go_ret
  exact ⟨rfl, hu⟩
set_option maxHeartbeats 4000000 in
set_option maxRecDepth 100000 in
theorem Byte_no (g gb c : Nat) (l : List Int) (at_ n : Int) (k : Nat) (W : World) (hg : W.heap[g]? = some (cur gb l.length c at_ 0))
    (hr : ∀ W' : World, Below g W W' → Kd.C (Kd.int .u8) W' (some ⟨gb, 0, none⟩) l.length l) (hc : l.length ≤ c) (h : XTel.field_Get.f k l at_ 1 false = some (n, 9)) :
    Calls Try.prog 34 #[.pointer (some ⟨g, 0, none⟩)] W fun e w' => e = .returned (.int .i64 0) ∧ Upd W w' g (cur gb l.length c at_ 9) := by
  have hL := Aside0.mk (Int_no g gb c l at_ 1 n false k W hg hr hc rfl h)
  clear hg hr
  go_enter Try.func34, Try.ntmps34
  go_wp2_with (first | (go_at_call 33; refine (hL.out).mono ?_; rintro e w' ⟨rfl, hu⟩))
  go_ret
  exact ⟨rfl, hu⟩
set_option maxHeartbeats 4000000 in
set_option maxRecDepth 100000 in
theorem At_made (g gb c n_ : Nat) (at_ err : Int) (W : World) (hg : W.heap[g]? = some (cur gb n_ c at_ err)) :
    Calls Try.prog 35 #[.pointer (some ⟨g, 0, none⟩)] W fun e w' => e = .returned (.int .i64 at_) ∧ w' = W := by
  have c1 : W.cell? ⟨g, 1, none⟩ = some (.int .i64 at_) := by simp [World.cell?, hg, cur]
  have c3 : W.cell? ⟨g, 3, none⟩ = some (.bool true) := by simp [World.cell?, hg, cur]
  go_enter Try.func35, Try.ntmps35
  go_wp2
  go_ret
  exact ⟨rfl, rfl⟩
set_option maxHeartbeats 4000000 in
set_option maxRecDepth 100000 in
theorem Err_made (g gb c n_ : Nat) (at_ err : Int) (W : World) (hg : W.heap[g]? = some (cur gb n_ c at_ err)) :
    Calls Try.prog 36 #[.pointer (some ⟨g, 0, none⟩)] W fun e w' => e = .returned (.int .i64 err) ∧ w' = W := by
  have c1 : W.cell? ⟨g, 2, none⟩ = some (.int .i64 err) := by simp [World.cell?, hg, cur]
  have c3 : W.cell? ⟨g, 3, none⟩ = some (.bool true) := by simp [World.cell?, hg, cur]
  go_enter Try.func36, Try.ntmps36
  go_wp2
  go_ret
  exact ⟨rfl, rfl⟩
set_option maxHeartbeats 4000000 in
set_option maxRecDepth 100000 in
theorem Peek_made (g gb c : Nat) (x : Int) (W : World) (hg : W.heap[g]? = some (cur gb 3 c 0 0)) (hx : W.cell? ⟨gb, 0, none⟩ = some (.int .u8 x)) (hw : IntKind.i64.wrap x = x) (hc : 3 ≤ c) :
    Calls Try.prog 32 #[.pointer (some ⟨g, 0, none⟩)] W fun e w' => e = .returned (.tuple #[.int .i64 x, .bool true]) ∧ ∃ m, w' = W.drewN m := by
  have c0 : W.cell? ⟨g, 0, none⟩ = some (.slice (some ⟨gb, 0, none⟩) 3 c) := by simp [World.cell?, hg, cur]
  have c1 : W.cell? ⟨g, 1, none⟩ = some (.int .i64 0) := by simp [World.cell?, hg, cur]
  have c2 : W.cell? ⟨g, 2, none⟩ = some (.int .i64 0) := by simp [World.cell?, hg, cur]
  have c3 : W.cell? ⟨g, 3, none⟩ = some (.bool true) := by simp [World.cell?, hg, cur]
  clear hg
  go_enter Try.func32, Try.ntmps32
  go_wp2
  refine wp_region_held_drew (S := (fun w => w.cell? ⟨g, 0, none⟩ = some (.slice (some ⟨gb, 0, none⟩) 3 c) ∧ w.cell? ⟨g, 1, none⟩ = some (.int .i64 0) ∧ w.cell? ⟨g, 2, none⟩ = some (.int .i64 0) ∧ w.cell? ⟨g, 3, none⟩ = some (.bool true) ∧ w.cell? ⟨gb, 0, none⟩ = some (.int .u8 x))) (by kernel_rfl) (by exact ⟨c0, c1, c2, c3, hx⟩) (fun hHeld => ?_)
  first
    | (refine wpAnyH_take (i := 0) (v := undef) rfl (by kernel_rfl) (by kernel_rfl) (by kernel_rfl) (fun _ _ _ h => h) (Or.inr ⟨by rfl, rfl⟩) (by assumption) ?_; (try simp only [Act.put, List.setIfInBounds_toArray, List.set_cons_zero, List.set_cons_succ, List.getElem_toArray, List.getElem_cons_zero, List.getElem_cons_succ]))
    | (refine wpAnyH_take (i := 0) (v := ?zv0) rfl (by kernel_rfl) (by kernel_rfl) (by kernel_rfl) (fun _ _ _ h => h) (Or.inl ⟨by rfl, ?zy0⟩) (by assumption) ?zr0; (case zy0 => (intro w hSw; (try dsimp only at hSw); go_simp; try (with_reducible rfl))); (try simp only [Act.put, List.setIfInBounds_toArray, List.set_cons_zero, List.set_cons_succ, List.getElem_toArray, List.getElem_cons_zero, List.getElem_cons_succ]))
    | fail
  first
    | (refine wpAnyH_take (i := 1) (v := undef) rfl (by kernel_rfl) (by kernel_rfl) (by kernel_rfl) (fun _ _ _ h => h) (Or.inr ⟨by rfl, rfl⟩) (by assumption) ?_; (try simp only [Act.put, List.setIfInBounds_toArray, List.set_cons_zero, List.set_cons_succ, List.getElem_toArray, List.getElem_cons_zero, List.getElem_cons_succ]))
    | (refine wpAnyH_take (i := 1) (v := ?zv1) rfl (by kernel_rfl) (by kernel_rfl) (by kernel_rfl) (fun _ _ _ h => h) (Or.inl ⟨by rfl, ?zy1⟩) (by assumption) ?zr1; (case zy1 => (intro w hSw; (try dsimp only at hSw); go_simp; try (with_reducible rfl))); (try simp only [Act.put, List.setIfInBounds_toArray, List.set_cons_zero, List.set_cons_succ, List.getElem_toArray, List.getElem_cons_zero, List.getElem_cons_succ]))
    | fail
  first
    | (refine wpAnyH_take (i := 2) (v := undef) rfl (by kernel_rfl) (by kernel_rfl) (by kernel_rfl) (fun _ _ _ h => h) (Or.inr ⟨by rfl, rfl⟩) (by assumption) ?_; (try simp only [Act.put, List.setIfInBounds_toArray, List.set_cons_zero, List.set_cons_succ, List.getElem_toArray, List.getElem_cons_zero, List.getElem_cons_succ]))
    | (refine wpAnyH_take (i := 2) (v := ?zv2) rfl (by kernel_rfl) (by kernel_rfl) (by kernel_rfl) (fun _ _ _ h => h) (Or.inl ⟨by rfl, ?zy2⟩) (by assumption) ?zr2; (case zy2 => (intro w hSw; (try dsimp only at hSw); go_simp; try (with_reducible rfl))); (try simp only [Act.put, List.setIfInBounds_toArray, List.set_cons_zero, List.set_cons_succ, List.getElem_toArray, List.getElem_cons_zero, List.getElem_cons_succ]))
    | fail
  first
    | (refine wpAnyH_take (i := 3) (v := undef) rfl (by kernel_rfl) (by kernel_rfl) (by kernel_rfl) (fun _ _ _ h => h) (Or.inr ⟨by rfl, rfl⟩) (by assumption) ?_; (try simp only [Act.put, List.setIfInBounds_toArray, List.set_cons_zero, List.set_cons_succ, List.getElem_toArray, List.getElem_cons_zero, List.getElem_cons_succ]))
    | (refine wpAnyH_take (i := 3) (v := ?zv3) rfl (by kernel_rfl) (by kernel_rfl) (by kernel_rfl) (fun _ _ _ h => h) (Or.inl ⟨by rfl, ?zy3⟩) (by assumption) ?zr3; (case zy3 => (intro w hSw; (try dsimp only at hSw); go_simp; try (with_reducible rfl))); (try simp only [Act.put, List.setIfInBounds_toArray, List.set_cons_zero, List.set_cons_succ, List.getElem_toArray, List.getElem_cons_zero, List.getElem_cons_succ]))
    | fail
  first
    | (refine wpAnyH_take (i := 4) (v := undef) rfl (by kernel_rfl) (by kernel_rfl) (by kernel_rfl) (fun _ _ _ h => h) (Or.inr ⟨by rfl, rfl⟩) (by assumption) ?_; (try simp only [Act.put, List.setIfInBounds_toArray, List.set_cons_zero, List.set_cons_succ, List.getElem_toArray, List.getElem_cons_zero, List.getElem_cons_succ]))
    | (refine wpAnyH_take (i := 4) (v := ?zv4) rfl (by kernel_rfl) (by kernel_rfl) (by kernel_rfl) (fun _ _ _ h => h) (Or.inl ⟨by rfl, ?zy4⟩) (by assumption) ?zr4; (case zy4 => (intro w hSw; (try dsimp only at hSw); go_simp; try (with_reducible rfl))); (try simp only [Act.put, List.setIfInBounds_toArray, List.set_cons_zero, List.set_cons_succ, List.getElem_toArray, List.getElem_cons_zero, List.getElem_cons_succ]))
    | fail
  first
    | (refine wpAnyH_take (i := 5) (v := undef) rfl (by kernel_rfl) (by kernel_rfl) (by kernel_rfl) (fun _ _ _ h => h) (Or.inr ⟨by rfl, rfl⟩) (by assumption) ?_; (try simp only [Act.put, List.setIfInBounds_toArray, List.set_cons_zero, List.set_cons_succ, List.getElem_toArray, List.getElem_cons_zero, List.getElem_cons_succ]))
    | (refine wpAnyH_take (i := 5) (v := ?zv5) rfl (by kernel_rfl) (by kernel_rfl) (by kernel_rfl) (fun _ _ _ h => h) (Or.inl ⟨by rfl, ?zy5⟩) (by assumption) ?zr5; (case zy5 => (intro w hSw; (try dsimp only at hSw); go_simp; try (with_reducible rfl))); (try simp only [Act.put, List.setIfInBounds_toArray, List.set_cons_zero, List.set_cons_succ, List.getElem_toArray, List.getElem_cons_zero, List.getElem_cons_succ]))
    | fail
  first
    | (refine wpAnyH_take (i := 6) (v := undef) rfl (by kernel_rfl) (by kernel_rfl) (by kernel_rfl) (fun _ _ _ h => h) (Or.inr ⟨by rfl, rfl⟩) (by assumption) ?_; (try simp only [Act.put, List.setIfInBounds_toArray, List.set_cons_zero, List.set_cons_succ, List.getElem_toArray, List.getElem_cons_zero, List.getElem_cons_succ]))
    | (refine wpAnyH_take (i := 6) (v := ?zv6) rfl (by kernel_rfl) (by kernel_rfl) (by kernel_rfl) (fun _ _ _ h => h) (Or.inl ⟨by rfl, ?zy6⟩) (by assumption) ?zr6; (case zy6 => (intro w hSw; (try dsimp only at hSw); go_simp; try (with_reducible rfl))); (try simp only [Act.put, List.setIfInBounds_toArray, List.set_cons_zero, List.set_cons_succ, List.getElem_toArray, List.getElem_cons_zero, List.getElem_cons_succ]))
    | fail
  first
    | (refine wpAnyH_take (i := 7) (v := undef) rfl (by kernel_rfl) (by kernel_rfl) (by kernel_rfl) (fun _ _ _ h => h) (Or.inr ⟨by rfl, rfl⟩) (by assumption) ?_; (try simp only [Act.put, List.setIfInBounds_toArray, List.set_cons_zero, List.set_cons_succ, List.getElem_toArray, List.getElem_cons_zero, List.getElem_cons_succ]))
    | (refine wpAnyH_take (i := 7) (v := ?zv7) rfl (by kernel_rfl) (by kernel_rfl) (by kernel_rfl) (fun _ _ _ h => h) (Or.inl ⟨by rfl, ?zy7⟩) (by assumption) ?zr7; (case zy7 => (intro w hSw; (try dsimp only at hSw); go_simp; try (with_reducible rfl))); (try simp only [Act.put, List.setIfInBounds_toArray, List.set_cons_zero, List.set_cons_succ, List.getElem_toArray, List.getElem_cons_zero, List.getElem_cons_succ]))
    | fail
  first
    | (refine wpAnyH_take (i := 8) (v := undef) rfl (by kernel_rfl) (by kernel_rfl) (by kernel_rfl) (fun _ _ _ h => h) (Or.inr ⟨by rfl, rfl⟩) (by assumption) ?_; (try simp only [Act.put, List.setIfInBounds_toArray, List.set_cons_zero, List.set_cons_succ, List.getElem_toArray, List.getElem_cons_zero, List.getElem_cons_succ]))
    | (refine wpAnyH_take (i := 8) (v := ?zv8) rfl (by kernel_rfl) (by kernel_rfl) (by kernel_rfl) (fun _ _ _ h => h) (Or.inl ⟨by rfl, ?zy8⟩) (by assumption) ?zr8; (case zy8 => (intro w hSw; (try dsimp only at hSw); go_simp; try (with_reducible rfl))); (try simp only [Act.put, List.setIfInBounds_toArray, List.set_cons_zero, List.set_cons_succ, List.getElem_toArray, List.getElem_cons_zero, List.getElem_cons_succ]))
    | fail
  first
    | (refine wpAnyH_take (i := 9) (v := undef) rfl (by kernel_rfl) (by kernel_rfl) (by kernel_rfl) (fun _ _ _ h => h) (Or.inr ⟨by rfl, rfl⟩) (by assumption) ?_; (try simp only [Act.put, List.setIfInBounds_toArray, List.set_cons_zero, List.set_cons_succ, List.getElem_toArray, List.getElem_cons_zero, List.getElem_cons_succ]))
    | (refine wpAnyH_take (i := 9) (v := ?zv9) rfl (by kernel_rfl) (by kernel_rfl) (by kernel_rfl) (fun _ _ _ h => h) (Or.inl ⟨by rfl, ?zy9⟩) (by assumption) ?zr9; (case zy9 => (intro w hSw; (try dsimp only at hSw); go_simp; try (with_reducible rfl))); (try simp only [Act.put, List.setIfInBounds_toArray, List.set_cons_zero, List.set_cons_succ, List.getElem_toArray, List.getElem_cons_zero, List.getElem_cons_succ]))
    | fail
  first
    | (refine wpAnyH_take (i := 10) (v := undef) rfl (by kernel_rfl) (by kernel_rfl) (by kernel_rfl) (fun _ _ _ h => h) (Or.inr ⟨by rfl, rfl⟩) (by assumption) ?_; (try simp only [Act.put, List.setIfInBounds_toArray, List.set_cons_zero, List.set_cons_succ, List.getElem_toArray, List.getElem_cons_zero, List.getElem_cons_succ]))
    | (refine wpAnyH_take (i := 10) (v := ?zv10) rfl (by kernel_rfl) (by kernel_rfl) (by kernel_rfl) (fun _ _ _ h => h) (Or.inl ⟨by rfl, ?zy10⟩) (by assumption) ?zr10; (case zy10 => (intro w hSw; (try dsimp only at hSw); go_simp; try (with_reducible rfl))); (try simp only [Act.put, List.setIfInBounds_toArray, List.set_cons_zero, List.set_cons_succ, List.getElem_toArray, List.getElem_cons_zero, List.getElem_cons_succ]))
    | fail
  first
    | (refine wpAnyH_take (i := 11) (v := undef) rfl (by kernel_rfl) (by kernel_rfl) (by kernel_rfl) (fun _ _ _ h => h) (Or.inr ⟨by rfl, rfl⟩) (by assumption) ?_; (try simp only [Act.put, List.setIfInBounds_toArray, List.set_cons_zero, List.set_cons_succ, List.getElem_toArray, List.getElem_cons_zero, List.getElem_cons_succ]))
    | (refine wpAnyH_take (i := 11) (v := ?zv11) rfl (by kernel_rfl) (by kernel_rfl) (by kernel_rfl) (fun _ _ _ h => h) (Or.inl ⟨by rfl, ?zy11⟩) (by assumption) ?zr11; (case zy11 => (intro w hSw; (try dsimp only at hSw); go_simp; try (with_reducible rfl))); (try simp only [Act.put, List.setIfInBounds_toArray, List.set_cons_zero, List.set_cons_succ, List.getElem_toArray, List.getElem_cons_zero, List.getElem_cons_succ]))
    | fail
  first
    | (refine wpAnyH_take (i := 12) (v := undef) rfl (by kernel_rfl) (by kernel_rfl) (by kernel_rfl) (fun _ _ _ h => h) (Or.inr ⟨by rfl, rfl⟩) (by assumption) ?_; (try simp only [Act.put, List.setIfInBounds_toArray, List.set_cons_zero, List.set_cons_succ, List.getElem_toArray, List.getElem_cons_zero, List.getElem_cons_succ]))
    | (refine wpAnyH_take (i := 12) (v := ?zv12) rfl (by kernel_rfl) (by kernel_rfl) (by kernel_rfl) (fun _ _ _ h => h) (Or.inl ⟨by rfl, ?zy12⟩) (by assumption) ?zr12; (case zy12 => (intro w hSw; (try dsimp only at hSw); go_simp; try (with_reducible rfl))); (try simp only [Act.put, List.setIfInBounds_toArray, List.set_cons_zero, List.set_cons_succ, List.getElem_toArray, List.getElem_cons_zero, List.getElem_cons_succ]))
    | fail
  first
    | (refine wpAnyH_take (i := 13) (v := undef) rfl (by kernel_rfl) (by kernel_rfl) (by kernel_rfl) (fun _ _ _ h => h) (Or.inr ⟨by rfl, rfl⟩) (by assumption) ?_; (try simp only [Act.put, List.setIfInBounds_toArray, List.set_cons_zero, List.set_cons_succ, List.getElem_toArray, List.getElem_cons_zero, List.getElem_cons_succ]))
    | (refine wpAnyH_take (i := 13) (v := ?zv13) rfl (by kernel_rfl) (by kernel_rfl) (by kernel_rfl) (fun _ _ _ h => h) (Or.inl ⟨by rfl, ?zy13⟩) (by assumption) ?zr13; (case zy13 => (intro w hSw; (try dsimp only at hSw); go_simp; try (with_reducible rfl))); (try simp only [Act.put, List.setIfInBounds_toArray, List.set_cons_zero, List.set_cons_succ, List.getElem_toArray, List.getElem_cons_zero, List.getElem_cons_succ]))
    | fail
  first
    | (refine wpAnyH_take (i := 14) (v := undef) rfl (by kernel_rfl) (by kernel_rfl) (by kernel_rfl) (fun _ _ _ h => h) (Or.inr ⟨by rfl, rfl⟩) (by assumption) ?_; (try simp only [Act.put, List.setIfInBounds_toArray, List.set_cons_zero, List.set_cons_succ, List.getElem_toArray, List.getElem_cons_zero, List.getElem_cons_succ]))
    | (refine wpAnyH_take (i := 14) (v := ?zv14) rfl (by kernel_rfl) (by kernel_rfl) (by kernel_rfl) (fun _ _ _ h => h) (Or.inl ⟨by rfl, ?zy14⟩) (by assumption) ?zr14; (case zy14 => (intro w hSw; (try dsimp only at hSw); go_simp; try (with_reducible rfl))); (try simp only [Act.put, List.setIfInBounds_toArray, List.set_cons_zero, List.set_cons_succ, List.getElem_toArray, List.getElem_cons_zero, List.getElem_cons_succ]))
    | fail
  first
    | (refine wpAnyH_take (i := 15) (v := undef) rfl (by kernel_rfl) (by kernel_rfl) (by kernel_rfl) (fun _ _ _ h => h) (Or.inr ⟨by rfl, rfl⟩) (by assumption) ?_; (try simp only [Act.put, List.setIfInBounds_toArray, List.set_cons_zero, List.set_cons_succ, List.getElem_toArray, List.getElem_cons_zero, List.getElem_cons_succ]))
    | (refine wpAnyH_take (i := 15) (v := ?zv15) rfl (by kernel_rfl) (by kernel_rfl) (by kernel_rfl) (fun _ _ _ h => h) (Or.inl ⟨by rfl, ?zy15⟩) (by assumption) ?zr15; (case zy15 => (intro w hSw; (try dsimp only at hSw); go_simp; try (with_reducible rfl))); (try simp only [Act.put, List.setIfInBounds_toArray, List.set_cons_zero, List.set_cons_succ, List.getElem_toArray, List.getElem_cons_zero, List.getElem_cons_succ]))
    | fail
  first
    | (refine wpAnyH_take (i := 16) (v := undef) rfl (by kernel_rfl) (by kernel_rfl) (by kernel_rfl) (fun _ _ _ h => h) (Or.inr ⟨by rfl, rfl⟩) (by assumption) ?_; (try simp only [Act.put, List.setIfInBounds_toArray, List.set_cons_zero, List.set_cons_succ, List.getElem_toArray, List.getElem_cons_zero, List.getElem_cons_succ]))
    | (refine wpAnyH_take (i := 16) (v := ?zv16) rfl (by kernel_rfl) (by kernel_rfl) (by kernel_rfl) (fun _ _ _ h => h) (Or.inl ⟨by rfl, ?zy16⟩) (by assumption) ?zr16; (case zy16 => (intro w hSw; (try dsimp only at hSw); go_simp; try (with_reducible rfl))); (try simp only [Act.put, List.setIfInBounds_toArray, List.set_cons_zero, List.set_cons_succ, List.getElem_toArray, List.getElem_cons_zero, List.getElem_cons_succ]))
    | fail
  first
    | (refine wpAnyH_take (i := 17) (v := undef) rfl (by kernel_rfl) (by kernel_rfl) (by kernel_rfl) (fun _ _ _ h => h) (Or.inr ⟨by rfl, rfl⟩) (by assumption) ?_; (try simp only [Act.put, List.setIfInBounds_toArray, List.set_cons_zero, List.set_cons_succ, List.getElem_toArray, List.getElem_cons_zero, List.getElem_cons_succ]))
    | (refine wpAnyH_take (i := 17) (v := ?zv17) rfl (by kernel_rfl) (by kernel_rfl) (by kernel_rfl) (fun _ _ _ h => h) (Or.inl ⟨by rfl, ?zy17⟩) (by assumption) ?zr17; (case zy17 => (intro w hSw; (try dsimp only at hSw); go_simp; try (with_reducible rfl))); (try simp only [Act.put, List.setIfInBounds_toArray, List.set_cons_zero, List.set_cons_succ, List.getElem_toArray, List.getElem_cons_zero, List.getElem_cons_succ]))
    | fail
  first
    | (refine wpAnyH_take (i := 18) (v := undef) rfl (by kernel_rfl) (by kernel_rfl) (by kernel_rfl) (fun _ _ _ h => h) (Or.inr ⟨by rfl, rfl⟩) (by assumption) ?_; (try simp only [Act.put, List.setIfInBounds_toArray, List.set_cons_zero, List.set_cons_succ, List.getElem_toArray, List.getElem_cons_zero, List.getElem_cons_succ]))
    | (refine wpAnyH_take (i := 18) (v := ?zv18) rfl (by kernel_rfl) (by kernel_rfl) (by kernel_rfl) (fun _ _ _ h => h) (Or.inl ⟨by rfl, ?zy18⟩) (by assumption) ?zr18; (case zy18 => (intro w hSw; (try dsimp only at hSw); go_simp; try (with_reducible rfl))); (try simp only [Act.put, List.setIfInBounds_toArray, List.set_cons_zero, List.set_cons_succ, List.getElem_toArray, List.getElem_cons_zero, List.getElem_cons_succ]))
    | fail
  first
    | (refine wpAnyH_take (i := 19) (v := undef) rfl (by kernel_rfl) (by kernel_rfl) (by kernel_rfl) (fun _ _ _ h => h) (Or.inr ⟨by rfl, rfl⟩) (by assumption) ?_; (try simp only [Act.put, List.setIfInBounds_toArray, List.set_cons_zero, List.set_cons_succ, List.getElem_toArray, List.getElem_cons_zero, List.getElem_cons_succ]))
    | (refine wpAnyH_take (i := 19) (v := ?zv19) rfl (by kernel_rfl) (by kernel_rfl) (by kernel_rfl) (fun _ _ _ h => h) (Or.inl ⟨by rfl, ?zy19⟩) (by assumption) ?zr19; (case zy19 => (intro w hSw; (try dsimp only at hSw); go_simp; try (with_reducible rfl))); (try simp only [Act.put, List.setIfInBounds_toArray, List.set_cons_zero, List.set_cons_succ, List.getElem_toArray, List.getElem_cons_zero, List.getElem_cons_succ]))
    | fail
  first
    | (refine wpAnyH_take (i := 20) (v := undef) rfl (by kernel_rfl) (by kernel_rfl) (by kernel_rfl) (fun _ _ _ h => h) (Or.inr ⟨by rfl, rfl⟩) (by assumption) ?_; (try simp only [Act.put, List.setIfInBounds_toArray, List.set_cons_zero, List.set_cons_succ, List.getElem_toArray, List.getElem_cons_zero, List.getElem_cons_succ]))
    | (refine wpAnyH_take (i := 20) (v := ?zv20) rfl (by kernel_rfl) (by kernel_rfl) (by kernel_rfl) (fun _ _ _ h => h) (Or.inl ⟨by rfl, ?zy20⟩) (by assumption) ?zr20; (case zy20 => (intro w hSw; (try dsimp only at hSw); go_simp; try (with_reducible rfl))); (try simp only [Act.put, List.setIfInBounds_toArray, List.set_cons_zero, List.set_cons_succ, List.getElem_toArray, List.getElem_cons_zero, List.getElem_cons_succ]))
    | fail
  first
    | (refine wpAnyH_take (i := 21) (v := undef) rfl (by kernel_rfl) (by kernel_rfl) (by kernel_rfl) (fun _ _ _ h => h) (Or.inr ⟨by rfl, rfl⟩) (by assumption) ?_; (try simp only [Act.put, List.setIfInBounds_toArray, List.set_cons_zero, List.set_cons_succ, List.getElem_toArray, List.getElem_cons_zero, List.getElem_cons_succ]))
    | (refine wpAnyH_take (i := 21) (v := ?zv21) rfl (by kernel_rfl) (by kernel_rfl) (by kernel_rfl) (fun _ _ _ h => h) (Or.inl ⟨by rfl, ?zy21⟩) (by assumption) ?zr21; (case zy21 => (intro w hSw; (try dsimp only at hSw); go_simp; try (with_reducible rfl))); (try simp only [Act.put, List.setIfInBounds_toArray, List.set_cons_zero, List.set_cons_succ, List.getElem_toArray, List.getElem_cons_zero, List.getElem_cons_succ]))
    | fail
  first
    | (refine wpAnyH_take (i := 22) (v := undef) rfl (by kernel_rfl) (by kernel_rfl) (by kernel_rfl) (fun _ _ _ h => h) (Or.inr ⟨by rfl, rfl⟩) (by assumption) ?_; (try simp only [Act.put, List.setIfInBounds_toArray, List.set_cons_zero, List.set_cons_succ, List.getElem_toArray, List.getElem_cons_zero, List.getElem_cons_succ]))
    | (refine wpAnyH_take (i := 22) (v := ?zv22) rfl (by kernel_rfl) (by kernel_rfl) (by kernel_rfl) (fun _ _ _ h => h) (Or.inl ⟨by rfl, ?zy22⟩) (by assumption) ?zr22; (case zy22 => (intro w hSw; (try dsimp only at hSw); go_simp; try (with_reducible rfl))); (try simp only [Act.put, List.setIfInBounds_toArray, List.set_cons_zero, List.set_cons_succ, List.getElem_toArray, List.getElem_cons_zero, List.getElem_cons_succ]))
    | fail
  first
    | (refine wpAnyH_take (i := 23) (v := undef) rfl (by kernel_rfl) (by kernel_rfl) (by kernel_rfl) (fun _ _ _ h => h) (Or.inr ⟨by rfl, rfl⟩) (by assumption) ?_; (try simp only [Act.put, List.setIfInBounds_toArray, List.set_cons_zero, List.set_cons_succ, List.getElem_toArray, List.getElem_cons_zero, List.getElem_cons_succ]))
    | (refine wpAnyH_take (i := 23) (v := ?zv23) rfl (by kernel_rfl) (by kernel_rfl) (by kernel_rfl) (fun _ _ _ h => h) (Or.inl ⟨by rfl, ?zy23⟩) (by assumption) ?zr23; (case zy23 => (intro w hSw; (try dsimp only at hSw); go_simp; try (with_reducible rfl))); (try simp only [Act.put, List.setIfInBounds_toArray, List.set_cons_zero, List.set_cons_succ, List.getElem_toArray, List.getElem_cons_zero, List.getElem_cons_succ]))
    | fail
  first
    | (refine wpAnyH_take (i := 24) (v := undef) rfl (by kernel_rfl) (by kernel_rfl) (by kernel_rfl) (fun _ _ _ h => h) (Or.inr ⟨by rfl, rfl⟩) (by assumption) ?_; (try simp only [Act.put, List.setIfInBounds_toArray, List.set_cons_zero, List.set_cons_succ, List.getElem_toArray, List.getElem_cons_zero, List.getElem_cons_succ]))
    | (refine wpAnyH_take (i := 24) (v := ?zv24) rfl (by kernel_rfl) (by kernel_rfl) (by kernel_rfl) (fun _ _ _ h => h) (Or.inl ⟨by rfl, ?zy24⟩) (by assumption) ?zr24; (case zy24 => (intro w hSw; (try dsimp only at hSw); go_simp; try (with_reducible rfl))); (try simp only [Act.put, List.setIfInBounds_toArray, List.set_cons_zero, List.set_cons_succ, List.getElem_toArray, List.getElem_cons_zero, List.getElem_cons_succ]))
    | fail
  first
    | (refine wpAnyH_take (i := 25) (v := undef) rfl (by kernel_rfl) (by kernel_rfl) (by kernel_rfl) (fun _ _ _ h => h) (Or.inr ⟨by rfl, rfl⟩) (by assumption) ?_; (try simp only [Act.put, List.setIfInBounds_toArray, List.set_cons_zero, List.set_cons_succ, List.getElem_toArray, List.getElem_cons_zero, List.getElem_cons_succ]))
    | (refine wpAnyH_take (i := 25) (v := ?zv25) rfl (by kernel_rfl) (by kernel_rfl) (by kernel_rfl) (fun _ _ _ h => h) (Or.inl ⟨by rfl, ?zy25⟩) (by assumption) ?zr25; (case zy25 => (intro w hSw; (try dsimp only at hSw); go_simp; try (with_reducible rfl))); (try simp only [Act.put, List.setIfInBounds_toArray, List.set_cons_zero, List.set_cons_succ, List.getElem_toArray, List.getElem_cons_zero, List.getElem_cons_succ]))
    | fail
  first
    | (refine wpAnyH_take (i := 26) (v := undef) rfl (by kernel_rfl) (by kernel_rfl) (by kernel_rfl) (fun _ _ _ h => h) (Or.inr ⟨by rfl, rfl⟩) (by assumption) ?_; (try simp only [Act.put, List.setIfInBounds_toArray, List.set_cons_zero, List.set_cons_succ, List.getElem_toArray, List.getElem_cons_zero, List.getElem_cons_succ]))
    | (refine wpAnyH_take (i := 26) (v := ?zv26) rfl (by kernel_rfl) (by kernel_rfl) (by kernel_rfl) (fun _ _ _ h => h) (Or.inl ⟨by rfl, ?zy26⟩) (by assumption) ?zr26; (case zy26 => (intro w hSw; (try dsimp only at hSw); go_simp; try (with_reducible rfl))); (try simp only [Act.put, List.setIfInBounds_toArray, List.set_cons_zero, List.set_cons_succ, List.getElem_toArray, List.getElem_cons_zero, List.getElem_cons_succ]))
    | fail
  first
    | (refine wpAnyH_take (i := 27) (v := undef) rfl (by kernel_rfl) (by kernel_rfl) (by kernel_rfl) (fun _ _ _ h => h) (Or.inr ⟨by rfl, rfl⟩) (by assumption) ?_; (try simp only [Act.put, List.setIfInBounds_toArray, List.set_cons_zero, List.set_cons_succ, List.getElem_toArray, List.getElem_cons_zero, List.getElem_cons_succ]))
    | (refine wpAnyH_take (i := 27) (v := ?zv27) rfl (by kernel_rfl) (by kernel_rfl) (by kernel_rfl) (fun _ _ _ h => h) (Or.inl ⟨by rfl, ?zy27⟩) (by assumption) ?zr27; (case zy27 => (intro w hSw; (try dsimp only at hSw); go_simp; try (with_reducible rfl))); (try simp only [Act.put, List.setIfInBounds_toArray, List.set_cons_zero, List.set_cons_succ, List.getElem_toArray, List.getElem_cons_zero, List.getElem_cons_succ]))
    | fail
  refine wpAnyH_done (by kernel_rfl) ?_ _
  go_wp2
  refine wp_region_held_drew (S := (fun w => w.cell? ⟨g, 0, none⟩ = some (.slice (some ⟨gb, 0, none⟩) 3 c) ∧ w.cell? ⟨g, 1, none⟩ = some (.int .i64 0) ∧ w.cell? ⟨g, 2, none⟩ = some (.int .i64 0) ∧ w.cell? ⟨g, 3, none⟩ = some (.bool true) ∧ w.cell? ⟨gb, 0, none⟩ = some (.int .u8 x))) (by kernel_rfl) (by exact ⟨c0, c1, c2, c3, hx⟩) (fun hHeld => ?_)
  first
    | (refine wpAnyH_take (i := 0) (v := undef) rfl (by kernel_rfl) (by kernel_rfl) (by kernel_rfl) (fun _ _ _ h => h) (Or.inr ⟨by rfl, rfl⟩) (by assumption) ?_; (try simp only [Act.put, List.setIfInBounds_toArray, List.set_cons_zero, List.set_cons_succ, List.getElem_toArray, List.getElem_cons_zero, List.getElem_cons_succ]))
    | (refine wpAnyH_take (i := 0) (v := ?zv0b) rfl (by kernel_rfl) (by kernel_rfl) (by kernel_rfl) (fun _ _ _ h => h) (Or.inl ⟨by rfl, ?zy0b⟩) (by assumption) ?zr0b; (case zy0b => (intro w hSw; (try dsimp only at hSw); go_simp; try (with_reducible rfl))); (try simp only [Act.put, List.setIfInBounds_toArray, List.set_cons_zero, List.set_cons_succ, List.getElem_toArray, List.getElem_cons_zero, List.getElem_cons_succ]))
    | fail
  first
    | (refine wpAnyH_take (i := 1) (v := undef) rfl (by kernel_rfl) (by kernel_rfl) (by kernel_rfl) (fun _ _ _ h => h) (Or.inr ⟨by rfl, rfl⟩) (by assumption) ?_; (try simp only [Act.put, List.setIfInBounds_toArray, List.set_cons_zero, List.set_cons_succ, List.getElem_toArray, List.getElem_cons_zero, List.getElem_cons_succ]))
    | (refine wpAnyH_take (i := 1) (v := ?zv1b) rfl (by kernel_rfl) (by kernel_rfl) (by kernel_rfl) (fun _ _ _ h => h) (Or.inl ⟨by rfl, ?zy1b⟩) (by assumption) ?zr1b; (case zy1b => (intro w hSw; (try dsimp only at hSw); go_simp; try (with_reducible rfl))); (try simp only [Act.put, List.setIfInBounds_toArray, List.set_cons_zero, List.set_cons_succ, List.getElem_toArray, List.getElem_cons_zero, List.getElem_cons_succ]))
    | fail
  first
    | (refine wpAnyH_take (i := 2) (v := undef) rfl (by kernel_rfl) (by kernel_rfl) (by kernel_rfl) (fun _ _ _ h => h) (Or.inr ⟨by rfl, rfl⟩) (by assumption) ?_; (try simp only [Act.put, List.setIfInBounds_toArray, List.set_cons_zero, List.set_cons_succ, List.getElem_toArray, List.getElem_cons_zero, List.getElem_cons_succ]))
    | (refine wpAnyH_take (i := 2) (v := ?zv2b) rfl (by kernel_rfl) (by kernel_rfl) (by kernel_rfl) (fun _ _ _ h => h) (Or.inl ⟨by rfl, ?zy2b⟩) (by assumption) ?zr2b; (case zy2b => (intro w hSw; (try dsimp only at hSw); go_simp; try (with_reducible rfl))); (try simp only [Act.put, List.setIfInBounds_toArray, List.set_cons_zero, List.set_cons_succ, List.getElem_toArray, List.getElem_cons_zero, List.getElem_cons_succ]))
    | fail
  first
    | (refine wpAnyH_take (i := 3) (v := undef) rfl (by kernel_rfl) (by kernel_rfl) (by kernel_rfl) (fun _ _ _ h => h) (Or.inr ⟨by rfl, rfl⟩) (by assumption) ?_; (try simp only [Act.put, List.setIfInBounds_toArray, List.set_cons_zero, List.set_cons_succ, List.getElem_toArray, List.getElem_cons_zero, List.getElem_cons_succ]))
    | (refine wpAnyH_take (i := 3) (v := ?zv3b) rfl (by kernel_rfl) (by kernel_rfl) (by kernel_rfl) (fun _ _ _ h => h) (Or.inl ⟨by rfl, ?zy3b⟩) (by assumption) ?zr3b; (case zy3b => (intro w hSw; (try dsimp only at hSw); go_simp; try (with_reducible rfl))); (try simp only [Act.put, List.setIfInBounds_toArray, List.set_cons_zero, List.set_cons_succ, List.getElem_toArray, List.getElem_cons_zero, List.getElem_cons_succ]))
    | fail
  first
    | (refine wpAnyH_take (i := 4) (v := undef) rfl (by kernel_rfl) (by kernel_rfl) (by kernel_rfl) (fun _ _ _ h => h) (Or.inr ⟨by rfl, rfl⟩) (by assumption) ?_; (try simp only [Act.put, List.setIfInBounds_toArray, List.set_cons_zero, List.set_cons_succ, List.getElem_toArray, List.getElem_cons_zero, List.getElem_cons_succ]))
    | (refine wpAnyH_take (i := 4) (v := ?zv4b) rfl (by kernel_rfl) (by kernel_rfl) (by kernel_rfl) (fun _ _ _ h => h) (Or.inl ⟨by rfl, ?zy4b⟩) (by assumption) ?zr4b; (case zy4b => (intro w hSw; (try dsimp only at hSw); go_simp; try (with_reducible rfl))); (try simp only [Act.put, List.setIfInBounds_toArray, List.set_cons_zero, List.set_cons_succ, List.getElem_toArray, List.getElem_cons_zero, List.getElem_cons_succ]))
    | fail
  first
    | (refine wpAnyH_take (i := 5) (v := undef) rfl (by kernel_rfl) (by kernel_rfl) (by kernel_rfl) (fun _ _ _ h => h) (Or.inr ⟨by rfl, rfl⟩) (by assumption) ?_; (try simp only [Act.put, List.setIfInBounds_toArray, List.set_cons_zero, List.set_cons_succ, List.getElem_toArray, List.getElem_cons_zero, List.getElem_cons_succ]))
    | (refine wpAnyH_take (i := 5) (v := ?zv5b) rfl (by kernel_rfl) (by kernel_rfl) (by kernel_rfl) (fun _ _ _ h => h) (Or.inl ⟨by rfl, ?zy5b⟩) (by assumption) ?zr5b; (case zy5b => (intro w hSw; (try dsimp only at hSw); go_simp; try (with_reducible rfl))); (try simp only [Act.put, List.setIfInBounds_toArray, List.set_cons_zero, List.set_cons_succ, List.getElem_toArray, List.getElem_cons_zero, List.getElem_cons_succ]))
    | fail
  first
    | (refine wpAnyH_take (i := 6) (v := undef) rfl (by kernel_rfl) (by kernel_rfl) (by kernel_rfl) (fun _ _ _ h => h) (Or.inr ⟨by rfl, rfl⟩) (by assumption) ?_; (try simp only [Act.put, List.setIfInBounds_toArray, List.set_cons_zero, List.set_cons_succ, List.getElem_toArray, List.getElem_cons_zero, List.getElem_cons_succ]))
    | (refine wpAnyH_take (i := 6) (v := ?zv6b) rfl (by kernel_rfl) (by kernel_rfl) (by kernel_rfl) (fun _ _ _ h => h) (Or.inl ⟨by rfl, ?zy6b⟩) (by assumption) ?zr6b; (case zy6b => (intro w hSw; (try dsimp only at hSw); go_simp; try (with_reducible rfl))); (try simp only [Act.put, List.setIfInBounds_toArray, List.set_cons_zero, List.set_cons_succ, List.getElem_toArray, List.getElem_cons_zero, List.getElem_cons_succ]))
    | fail
  first
    | (refine wpAnyH_take (i := 7) (v := undef) rfl (by kernel_rfl) (by kernel_rfl) (by kernel_rfl) (fun _ _ _ h => h) (Or.inr ⟨by rfl, rfl⟩) (by assumption) ?_; (try simp only [Act.put, List.setIfInBounds_toArray, List.set_cons_zero, List.set_cons_succ, List.getElem_toArray, List.getElem_cons_zero, List.getElem_cons_succ]))
    | (refine wpAnyH_take (i := 7) (v := ?zv7b) rfl (by kernel_rfl) (by kernel_rfl) (by kernel_rfl) (fun _ _ _ h => h) (Or.inl ⟨by rfl, ?zy7b⟩) (by assumption) ?zr7b; (case zy7b => (intro w hSw; (try dsimp only at hSw); go_simp; try (with_reducible rfl))); (try simp only [Act.put, List.setIfInBounds_toArray, List.set_cons_zero, List.set_cons_succ, List.getElem_toArray, List.getElem_cons_zero, List.getElem_cons_succ]))
    | fail
  first
    | (refine wpAnyH_take (i := 8) (v := undef) rfl (by kernel_rfl) (by kernel_rfl) (by kernel_rfl) (fun _ _ _ h => h) (Or.inr ⟨by rfl, rfl⟩) (by assumption) ?_; (try simp only [Act.put, List.setIfInBounds_toArray, List.set_cons_zero, List.set_cons_succ, List.getElem_toArray, List.getElem_cons_zero, List.getElem_cons_succ]))
    | (refine wpAnyH_take (i := 8) (v := ?zv8b) rfl (by kernel_rfl) (by kernel_rfl) (by kernel_rfl) (fun _ _ _ h => h) (Or.inl ⟨by rfl, ?zy8b⟩) (by assumption) ?zr8b; (case zy8b => (intro w hSw; (try dsimp only at hSw); go_simp; try (with_reducible rfl))); (try simp only [Act.put, List.setIfInBounds_toArray, List.set_cons_zero, List.set_cons_succ, List.getElem_toArray, List.getElem_cons_zero, List.getElem_cons_succ]))
    | fail
  first
    | (refine wpAnyH_take (i := 9) (v := undef) rfl (by kernel_rfl) (by kernel_rfl) (by kernel_rfl) (fun _ _ _ h => h) (Or.inr ⟨by rfl, rfl⟩) (by assumption) ?_; (try simp only [Act.put, List.setIfInBounds_toArray, List.set_cons_zero, List.set_cons_succ, List.getElem_toArray, List.getElem_cons_zero, List.getElem_cons_succ]))
    | (refine wpAnyH_take (i := 9) (v := ?zv9b) rfl (by kernel_rfl) (by kernel_rfl) (by kernel_rfl) (fun _ _ _ h => h) (Or.inl ⟨by rfl, ?zy9b⟩) (by assumption) ?zr9b; (case zy9b => (intro w hSw; (try dsimp only at hSw); go_simp; try (with_reducible rfl))); (try simp only [Act.put, List.setIfInBounds_toArray, List.set_cons_zero, List.set_cons_succ, List.getElem_toArray, List.getElem_cons_zero, List.getElem_cons_succ]))
    | fail
  first
    | (refine wpAnyH_take (i := 10) (v := undef) rfl (by kernel_rfl) (by kernel_rfl) (by kernel_rfl) (fun _ _ _ h => h) (Or.inr ⟨by rfl, rfl⟩) (by assumption) ?_; (try simp only [Act.put, List.setIfInBounds_toArray, List.set_cons_zero, List.set_cons_succ, List.getElem_toArray, List.getElem_cons_zero, List.getElem_cons_succ]))
    | (refine wpAnyH_take (i := 10) (v := ?zv10b) rfl (by kernel_rfl) (by kernel_rfl) (by kernel_rfl) (fun _ _ _ h => h) (Or.inl ⟨by rfl, ?zy10b⟩) (by assumption) ?zr10b; (case zy10b => (intro w hSw; (try dsimp only at hSw); go_simp; try (with_reducible rfl))); (try simp only [Act.put, List.setIfInBounds_toArray, List.set_cons_zero, List.set_cons_succ, List.getElem_toArray, List.getElem_cons_zero, List.getElem_cons_succ]))
    | fail
  first
    | (refine wpAnyH_take (i := 11) (v := undef) rfl (by kernel_rfl) (by kernel_rfl) (by kernel_rfl) (fun _ _ _ h => h) (Or.inr ⟨by rfl, rfl⟩) (by assumption) ?_; (try simp only [Act.put, List.setIfInBounds_toArray, List.set_cons_zero, List.set_cons_succ, List.getElem_toArray, List.getElem_cons_zero, List.getElem_cons_succ]))
    | (refine wpAnyH_take (i := 11) (v := ?zv11b) rfl (by kernel_rfl) (by kernel_rfl) (by kernel_rfl) (fun _ _ _ h => h) (Or.inl ⟨by rfl, ?zy11b⟩) (by assumption) ?zr11b; (case zy11b => (intro w hSw; (try dsimp only at hSw); go_simp; try (with_reducible rfl))); (try simp only [Act.put, List.setIfInBounds_toArray, List.set_cons_zero, List.set_cons_succ, List.getElem_toArray, List.getElem_cons_zero, List.getElem_cons_succ]))
    | fail
  first
    | (refine wpAnyH_take (i := 12) (v := undef) rfl (by kernel_rfl) (by kernel_rfl) (by kernel_rfl) (fun _ _ _ h => h) (Or.inr ⟨by rfl, rfl⟩) (by assumption) ?_; (try simp only [Act.put, List.setIfInBounds_toArray, List.set_cons_zero, List.set_cons_succ, List.getElem_toArray, List.getElem_cons_zero, List.getElem_cons_succ]))
    | (refine wpAnyH_take (i := 12) (v := ?zv12b) rfl (by kernel_rfl) (by kernel_rfl) (by kernel_rfl) (fun _ _ _ h => h) (Or.inl ⟨by rfl, ?zy12b⟩) (by assumption) ?zr12b; (case zy12b => (intro w hSw; (try dsimp only at hSw); go_simp; try (with_reducible rfl))); (try simp only [Act.put, List.setIfInBounds_toArray, List.set_cons_zero, List.set_cons_succ, List.getElem_toArray, List.getElem_cons_zero, List.getElem_cons_succ]))
    | fail
  refine wpAnyH_done (by kernel_rfl) ?_ _
  go_wp2
  go_ret2
  exact ⟨rfl, 2, rfl⟩
theorem put_form' {W : World} {base : Nat} {v : Value} {xs : List Int} (HO : (Kd.int .u8).R 5 W base (fun _ => True) v xs) : ∃ A c, v = .slice A xs.length c ∧ xs.length ≤ c ∧ Kd.C (Kd.int .u8) W A xs.length xs := by
  have own := Kd.own_of_R (enc := Value.int .u8) (h1 := fun _ => rfl) HO
  obtain ⟨A, c, rfl, hr⟩ := own_reads (k := .u8) (by simpa [encs, nums] using own)
  refine ⟨A, c, rfl, ?_, Kd.C_of_reads (d := (0 : Int)) (h1 := fun _ => rfl) hr⟩
  rcases own.2 with ⟨e, h0⟩ | ⟨g, cap, cur, e, _, _, hnc, _⟩
  · simp only [Value.slice.injEq] at e; omega
  · simp only [Value.slice.injEq] at e; omega
theorem row_form {W : World} {base : Nat} {v : Value} {x y z : Int} (HO : (Kd.int .u8).R 5 W base (fun _ => True) v ([] ++ [x, y, z])) : ∃ gb cap, v = .slice (some ⟨gb, 0, none⟩) 3 cap ∧ base ≤ gb ∧ gb < W.heap.size ∧ 3 ≤ cap ∧ Kd.C (Kd.int .u8) W (some ⟨gb, 0, none⟩) 3 [x, y, z] := by
  have own := Kd.own_of_R (enc := Value.int .u8) (h1 := fun _ => rfl) HO
  obtain ⟨A', c', e', _, hC⟩ := put_form' HO
  rcases own.2 with ⟨_, h0⟩ | ⟨gb, cap, cur_, e, hb, hg, hnc, hm, _⟩
  · simp at h0
  · have e2 := e'.symm.trans e
    simp only [Value.slice.injEq] at e2
    rw [e2.1] at hC
    exact ⟨gb, cap, e, hb, (Array.getElem?_eq_some_iff.1 hg).1, by simpa using hnc, hC⟩
set_option maxHeartbeats 4000000 in
set_option maxRecDepth 100000 in
theorem Open_3 (A : Option Addr) (c0 : Nat) (x y z : Int) (w : World) (hr : Kd.C (Kd.int .u8) w A 3 [x, y, z]) (hc : 3 ≤ c0) :
    Calls Try.prog 39 #[.slice A 3 c0] w fun e w' => ∃ g gb c, e = .returned (.pointer (some ⟨g, 0, none⟩)) ∧ w.heap.size ≤ gb ∧ gb < g ∧ 3 ≤ c ∧ w'.heap[g]? = some (cur gb 3 c 0 0) ∧ Kd.C (Kd.int .u8) w' (some ⟨gb, 0, none⟩) 3 [x, y, z] ∧ w'.heap.size = g + 1 ∧ Below w.heap.size w w' := by
  have HR0 := Aside0.mk hr
  have HB := Aside0.mk (Below.refl w.heap.size w)
  have hu := Try.underlying22
  have q1 : (0 : Int) ≤ 3 := by decide
  have q2 : (3 : Int) ≤ (c0 : Int) := by omega
  clear hr
  go_enter Try.func39, Try.ntmps39
  go_wp2_with (first | ((with_reducible refine gate_builtin (b := .append) (xs := #[.const (.slice none 0 0), .tmp 7]) rfl ?_); at_builtin; refine Kd.R_append_rows (Kd.int .u8) (w0 := w) w.heap.size rfl (.const (.slice none 0 0)) (.tmp 7) 22 5 (.int .u8 0) 1 rfl Try.underlying22 XTel.info5 rfl (by decide) (by omega) (.slice none 0 0) [] [x, y, z] _ _ _ (fun _ => True) (fun _ => False) rfl rfl ?aO ?aR (fun _ _ h => h) (fun _ h => h.elim) ?aF ?aB ?aS ?aL ?_; (case aR => exact (Kd.C_below HR0.out (by repeat (first | (with_reducible first | exact HB.out | apply below_alloc | apply pw_below_drewN | apply below_drew1) | exact HB.out)))); (case aB => exact (by repeat (first | (with_reducible first | exact HB.out | apply below_alloc | apply pw_below_drewN | apply below_drew1) | exact HB.out))); (case aF => exact (fun _ _ => trivial)); (case aO => exact Kd.R_nil _ _ _ _ _); (case aS => exact (below_size (by repeat (first | (with_reducible first | exact HB.out | apply below_alloc | apply pw_below_drewN | apply below_drew1) | exact HB.out)))); (case aL => simp); intro v141 w5 ho hb hg hat; obtain ⟨gb, cap, rfl, hf⟩ := row_form ho; have HF := Aside0.mk hf; clear hf; have n0_ := Aside0.mk hb; clear HB; have HB := n0_; clear n0_; clear ho hb hg hat))
  go_ret
  exact ⟨w5.heap.size, gb, cap, rfl, HF.out.1, HF.out.2.1, HF.out.2.2.1, alloc_new _ _, Kd.C_alloc HF.out.2.2.2 _, Array.size_push .., below_alloc HB.out _⟩
end Go.Proofs.Ytlmpecahmmgphaa.Curm
