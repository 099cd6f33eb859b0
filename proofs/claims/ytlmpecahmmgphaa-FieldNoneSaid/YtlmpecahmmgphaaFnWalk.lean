/- The walk of linotypelaw01.FieldNone: it answers true. No conditions. -/
import Derived.Test.YtlmpecahmmgphaaCur
import Derived.Test.YtlmpecahmmgphaaXTelx7
import Derived.Deep.LoopGhost
namespace Go.Proofs.Ytlmpecahmmgphaa.Fn
open Go.RowKit Go.Proofs.Ytlmpecahmmgphaa.XTel Go.Proofs.Ytlmpecahmmgphaa.Cur Go.Proofs.YtlmpecahmmgphaaW.PrintWords Go.Proofs.YtlmpecahmmgphaaW.PrintLast Go.Proofs.YtlmpecahmmgphaaW.PrintMore
set_option linter.unusedVariables false
set_option linter.unusedSimpArgs false
theorem awake_eq : linotypelaw01_awake.f 100 = some true := by decide +kernel
def W1 (w : World) : World := ((w.alloc (Obj.cells #[Value.slice none 0 0, Value.int IntKind.i64 0, Value.int IntKind.i64 0, Value.bool false] 39)).alloc (Obj.cells #[Value.pointer none, Value.pointer (some { block := w.heap.size, off := 0 })] 37))
theorem W1_size (w : World) : (W1 w).heap.size = w.heap.size + 2 := by
  show ((w.heap.push _).push _).size = _
  simp
theorem W1_below (w : World) : Below w.heap.size w (W1 w) := by
  unfold W1
  repeat (first | exact Below.refl _ _ | apply below_alloc)
theorem W1_at0 (w : World) : (W1 w).heap[w.heap.size]? = some (.cells #[Value.slice none 0 0, Value.int IntKind.i64 0, Value.int IntKind.i64 0, Value.bool false] 39 (0, 0)) := by
  show ((w.heap.push _).push _)[w.heap.size]? = _
  rw [Array.getElem?_push_lt (by simp)]
  simp
theorem W1_at1 (w : World) : (W1 w).heap[w.heap.size + 1]? = some (.cells #[Value.pointer none, Value.pointer (some { block := w.heap.size, off := 0 })] 37 (0, 0)) := by
  show ((w.heap.push _).push _)[w.heap.size + 1]? = _
  have : w.heap.size + 1 = (w.heap.push (.cells #[Value.slice none 0 0, Value.int IntKind.i64 0, Value.int IntKind.i64 0, Value.bool false] 39)).size := by simp
  rw [this, Array.getElem?_push_size]
theorem Un_of {w W : World} (h : Below (W1 w).heap.size (W1 w) W) : Unmade W w.heap.size := by
  have e : W.heap[w.heap.size]? = _ := (h.block _ (by rw [W1_size]; omega)).trans (W1_at0 w)
  refine ⟨?_, ?_, ?_, ?_⟩ <;> simp [World.cell?, e]
theorem at_of {w W : World} (h : Below (W1 w).heap.size (W1 w) W) : W.cell? ⟨w.heap.size + 1, 0, none⟩ = some (.pointer none) ∧ W.cell? ⟨w.heap.size + 1, 1, none⟩ = some (.pointer (some ⟨w.heap.size, 0, none⟩)) := by
  have e : W.heap[w.heap.size + 1]? = _ := (h.block _ (by rw [W1_size]; omega)).trans (W1_at1 w)
  refine ⟨?_, ?_⟩ <;> simp [World.cell?, e]
set_option maxHeartbeats 4000000 in
set_option maxRecDepth 100000 in
theorem calls (a0 : Int) (a1 : Bool) (w : World) : Calls Try.prog 6 #[.int .i64 a0, .bool a1] w fun e w' => e = .returned (.bool true) ∧ Below w.heap.size w w' := by
  have HU := Aside0.mk (show ∀ W : World, Below (W1 w).heap.size (W1 w) W → Unmade W w.heap.size from fun W h => Un_of h)
  have HA := Aside0.mk (show ∀ W : World, Below (W1 w).heap.size (W1 w) W → _ from fun W h => at_of h)
  have HW := Aside0.mk (show ((w.alloc (Obj.cells #[Value.slice none 0 0, Value.int IntKind.i64 0, Value.int IntKind.i64 0, Value.bool false] 39)).alloc (Obj.cells #[Value.pointer none, Value.pointer (some { block := w.heap.size, off := 0 })] 37)) = W1 w from rfl)
  have H29 := Aside0.mk awake_eq
  go_enter Try.func6, Try.ntmps6
  go_wp2
  have HX0 := Aside0.mk (Below.refl (W1 w).heap.size (W1 w))
  go_loopg [6] 2 (fun g s6 wx => ∃ j : Nat, s6 = .int .i64 (j : Int) ∧ j + g = 2 ∧ Hid (Below (W1 w).heap.size (W1 w) wx))
  case atStart => exact ⟨0, rfl, rfl, HX0.out⟩
  case round =>
    obtain ⟨j, rfl, hj, hbel⟩ := hrel
    have HX := Aside0.mk hbel.out
    clear hbel HX0
    cases gk with
    | zero =>
      have e2 : j = 2 := by omega
      subst e2
      go_wp2_with (first | ((with_reducible refine gate_callee (f := 29) rfl ?_); (try (refine gate_guard (by rfl) ?_; dsimp only)); refine goesL_ (some 65) rfl rfl Try.func29 (by kernel_rfl) rfl #[] rfl (by (try simp only [List.map_toArray, List.map_cons, List.map_nil]); first | done | rfl) ?_; refine (linotypelaw01_awake.calls 100 true _ H29.out).mono ?_; rintro e w' ⟨rfl, hb⟩; refine ⟨_, rfl, ?_⟩; have n0_ := Aside0.mk (below_step (by repeat (first | (with_reducible first | exact HX.out | apply below_alloc | apply pw_below_drewN | apply below_drew1) | exact HX.out)) hb); clear HX; have HX := n0_; clear n0_; clear hb; (try clear cc); have cc := (HA.out _ HX.out)))
      go_ret
      exact ⟨rfl, below_step (W1_below w) (by repeat (first | (with_reducible first | exact HX.out | apply below_alloc | apply pw_below_drewN | apply below_drew1) | exact HX.out))⟩
    | succ k1 =>
      cases j with
      | zero =>
        have c0 := (HA.out wr HX.out).1
        go_wp2_with (first | ((with_reducible refine gate_callee (f := 32) rfl ?_); (try (refine gate_guard (by rfl) ?_; dsimp only)); refine goesL_ (some 23) rfl rfl Try.func32 (by kernel_rfl) rfl #[.pointer none] rfl (by (try simp only [List.map_toArray, List.map_cons, List.map_nil]); first | done | rfl) ?_; refine (Peek_nil _).mono ?_; rintro e w' ⟨rfl, hb⟩; refine ⟨_, rfl, ?_⟩; have n0_ := Aside0.mk (below_step (by repeat (first | (with_reducible first | exact HX.out | apply below_alloc | apply pw_below_drewN | apply below_drew1) | exact HX.out)) hb); clear HX; have HX := n0_; clear n0_; clear hb; (try clear cc); have cc := (HA.out _ HX.out).1) | ((with_reducible refine gate_callee (f := 33) rfl ?_); (try (refine gate_guard (by rfl) ?_; dsimp only)); refine goesL_ (some 32) rfl rfl Try.func33 (by kernel_rfl) rfl #[.pointer none, .int .i64 a0, .bool a1] rfl (by (try simp only [List.map_toArray, List.map_cons, List.map_nil]); first | done | rfl) ?_; refine (Int_nil a0 a1 _).mono ?_; rintro e w' ⟨rfl, hb⟩; refine ⟨_, rfl, ?_⟩; have n0_ := Aside0.mk (below_step (by repeat (first | (with_reducible first | exact HX.out | apply below_alloc | apply pw_below_drewN | apply below_drew1) | exact HX.out)) hb); clear HX; have HX := n0_; clear n0_; clear hb; (try clear cc); have cc := (HA.out _ HX.out).1) | ((with_reducible refine gate_callee (f := 34) rfl ?_); (try (refine gate_guard (by rfl) ?_; dsimp only)); refine goesL_ (some 39) rfl rfl Try.func34 (by kernel_rfl) rfl #[.pointer none] rfl (by (try simp only [List.map_toArray, List.map_cons, List.map_nil]); first | done | rfl) ?_; refine (Byte_nil _).mono ?_; rintro e w' ⟨rfl, hb⟩; refine ⟨_, rfl, ?_⟩; have n0_ := Aside0.mk (below_step (by repeat (first | (with_reducible first | exact HX.out | apply below_alloc | apply pw_below_drewN | apply below_drew1) | exact HX.out)) hb); clear HX; have HX := n0_; clear n0_; clear hb; (try clear cc); have cc := (HA.out _ HX.out).1) | ((with_reducible refine gate_callee (f := 35) rfl ?_); (try (refine gate_guard (by rfl) ?_; dsimp only)); refine goesL_ (some 54) rfl rfl Try.func35 (by kernel_rfl) rfl #[.pointer none] rfl (by (try simp only [List.map_toArray, List.map_cons, List.map_nil]); first | done | rfl) ?_; refine (At_nil _).mono ?_; rintro e w' ⟨rfl, hb⟩; refine ⟨_, rfl, ?_⟩; have n0_ := Aside0.mk (below_step (by repeat (first | (with_reducible first | exact HX.out | apply below_alloc | apply pw_below_drewN | apply below_drew1) | exact HX.out)) hb); clear HX; have HX := n0_; clear n0_; clear hb; (try clear cc); have cc := (HA.out _ HX.out).1) | ((with_reducible refine gate_callee (f := 36) rfl ?_); (try (refine gate_guard (by rfl) ?_; dsimp only)); refine goesL_ (some 62) rfl rfl Try.func36 (by kernel_rfl) rfl #[.pointer none] rfl (by (try simp only [List.map_toArray, List.map_cons, List.map_nil]); first | done | rfl) ?_; refine (Err_nil _).mono ?_; rintro e w' ⟨rfl, hb⟩; refine ⟨_, rfl, ?_⟩; have n0_ := Aside0.mk (below_step (by repeat (first | (with_reducible first | exact HX.out | apply below_alloc | apply pw_below_drewN | apply below_drew1) | exact HX.out)) hb); clear HX; have HX := n0_; clear n0_; clear hb; (try clear cc); have cc := (HA.out _ HX.out).1))
        go_roundg k1
        case measure => omega
        case rel => exact ⟨1, rfl, by omega, (by repeat (first | (with_reducible first | exact HX.out | apply below_alloc | apply pw_below_drewN | apply below_drew1) | exact HX.out))⟩
      | succ j1 =>
        have e1 : j1 = 0 := by omega
        subst e1
        have c0 := (HA.out wr HX.out).2
        go_wp2_with (first | ((with_reducible refine gate_callee (f := 32) rfl ?_); (try (refine gate_guard (by rfl) ?_; dsimp only)); refine goesL_ (some 23) rfl rfl Try.func32 (by kernel_rfl) rfl #[.pointer (some ⟨w.heap.size, 0, none⟩)] rfl (by (try simp only [List.map_toArray, List.map_cons, List.map_nil]); first | done | rfl) ?_; refine (Peek_un w.heap.size _ (HU.out _ (by repeat (first | (with_reducible first | exact HX.out | apply below_alloc | apply pw_below_drewN | apply below_drew1) | exact HX.out)))).mono ?_; rintro e w' ⟨rfl, hb⟩; refine ⟨_, rfl, ?_⟩; have n0_ := Aside0.mk (below_step (by repeat (first | (with_reducible first | exact HX.out | apply below_alloc | apply pw_below_drewN | apply below_drew1) | exact HX.out)) hb); clear HX; have HX := n0_; clear n0_; clear hb; (try clear cc); have cc := (HA.out _ HX.out).2) | ((with_reducible refine gate_callee (f := 33) rfl ?_); (try (refine gate_guard (by rfl) ?_; dsimp only)); refine goesL_ (some 32) rfl rfl Try.func33 (by kernel_rfl) rfl #[.pointer (some ⟨w.heap.size, 0, none⟩), .int .i64 a0, .bool a1] rfl (by (try simp only [List.map_toArray, List.map_cons, List.map_nil]); first | done | rfl) ?_; refine (Int_un a0 a1 w.heap.size _ (HU.out _ (by repeat (first | (with_reducible first | exact HX.out | apply below_alloc | apply pw_below_drewN | apply below_drew1) | exact HX.out)))).mono ?_; rintro e w' ⟨rfl, hb⟩; refine ⟨_, rfl, ?_⟩; have n0_ := Aside0.mk (below_step (by repeat (first | (with_reducible first | exact HX.out | apply below_alloc | apply pw_below_drewN | apply below_drew1) | exact HX.out)) hb); clear HX; have HX := n0_; clear n0_; clear hb; (try clear cc); have cc := (HA.out _ HX.out).2) | ((with_reducible refine gate_callee (f := 34) rfl ?_); (try (refine gate_guard (by rfl) ?_; dsimp only)); refine goesL_ (some 39) rfl rfl Try.func34 (by kernel_rfl) rfl #[.pointer (some ⟨w.heap.size, 0, none⟩)] rfl (by (try simp only [List.map_toArray, List.map_cons, List.map_nil]); first | done | rfl) ?_; refine (Byte_un w.heap.size _ (HU.out _ (by repeat (first | (with_reducible first | exact HX.out | apply below_alloc | apply pw_below_drewN | apply below_drew1) | exact HX.out)))).mono ?_; rintro e w' ⟨rfl, hb⟩; refine ⟨_, rfl, ?_⟩; have n0_ := Aside0.mk (below_step (by repeat (first | (with_reducible first | exact HX.out | apply below_alloc | apply pw_below_drewN | apply below_drew1) | exact HX.out)) hb); clear HX; have HX := n0_; clear n0_; clear hb; (try clear cc); have cc := (HA.out _ HX.out).2) | ((with_reducible refine gate_callee (f := 35) rfl ?_); (try (refine gate_guard (by rfl) ?_; dsimp only)); refine goesL_ (some 54) rfl rfl Try.func35 (by kernel_rfl) rfl #[.pointer (some ⟨w.heap.size, 0, none⟩)] rfl (by (try simp only [List.map_toArray, List.map_cons, List.map_nil]); first | done | rfl) ?_; refine (At_un w.heap.size _ (HU.out _ (by repeat (first | (with_reducible first | exact HX.out | apply below_alloc | apply pw_below_drewN | apply below_drew1) | exact HX.out)))).mono ?_; rintro e w' ⟨rfl, hb⟩; refine ⟨_, rfl, ?_⟩; have n0_ := Aside0.mk (below_step (by repeat (first | (with_reducible first | exact HX.out | apply below_alloc | apply pw_below_drewN | apply below_drew1) | exact HX.out)) hb); clear HX; have HX := n0_; clear n0_; clear hb; (try clear cc); have cc := (HA.out _ HX.out).2) | ((with_reducible refine gate_callee (f := 36) rfl ?_); (try (refine gate_guard (by rfl) ?_; dsimp only)); refine goesL_ (some 62) rfl rfl Try.func36 (by kernel_rfl) rfl #[.pointer (some ⟨w.heap.size, 0, none⟩)] rfl (by (try simp only [List.map_toArray, List.map_cons, List.map_nil]); first | done | rfl) ?_; refine (Err_un w.heap.size _ (HU.out _ (by repeat (first | (with_reducible first | exact HX.out | apply below_alloc | apply pw_below_drewN | apply below_drew1) | exact HX.out)))).mono ?_; rintro e w' ⟨rfl, hb⟩; refine ⟨_, rfl, ?_⟩; have n0_ := Aside0.mk (below_step (by repeat (first | (with_reducible first | exact HX.out | apply below_alloc | apply pw_below_drewN | apply below_drew1) | exact HX.out)) hb); clear HX; have HX := n0_; clear n0_; clear hb; (try clear cc); have cc := (HA.out _ HX.out).2))
        go_roundg k1
        case measure => omega
        case rel => exact ⟨2, rfl, by omega, (by repeat (first | (with_reducible first | exact HX.out | apply below_alloc | apply pw_below_drewN | apply below_drew1) | exact HX.out))⟩
end Go.Proofs.Ytlmpecahmmgphaa.Fn
