/- A contract of linotypekit.KeptBytes: what was lent is as it was lent. Condition: at most 100 bytes. -/
import Derived.Test.YtlmpecahmmgphaaHand1
import Derived.Test.YtlmpecahmmgphaaXTelx6
import Derived.Deep.RegionHeld3
namespace Go.Proofs.Ytlmpecahmmgphaa.Hand
open Go.RowKit Go.Proofs.YtlmpecahmmgphaaW.PrintWords Go.Proofs.YtlmpecahmmgphaaW.PrintLast Go.Proofs.YtlmpecahmmgphaaW.PrintMore
set_option linter.unusedVariables false
theorem row_reads {w : World} {g : Nat} {l : List Int} (h : w.heap[g]? = some (.cells (iv l).toArray 5 (0, 0))) (hl : l.length ≤ 200) : Kd.C (Kd.int .u8) w (some ⟨g, 0, none⟩) l.length l := by
  refine Kd.C_of_reads (d := (0 : Int)) (h1 := fun _ => rfl) ⟨rfl, by omega, fun _ => ⟨_, rfl, fun j hj => ?_⟩⟩
  rw [add_plain]
  simp [World.cell?, h, iv, hj]
set_option maxHeartbeats 4000000 in
set_option maxRecDepth 100000 in
theorem KeptBytes_any (g : Nat) (A : Option Addr) (c : Nat) (l : List Int) (w : World) (hrow : w.heap[g]? = some (.cells (iv (lentRow l 3)).toArray 5 (0, 0))) (hr : Kd.C (Kd.int .u8) w A l.length l) (hc : l.length ≤ c) (h20 : l.length ≤ 100) :
    Calls Try.prog 19 #[.slice (some ⟨g, 0, none⟩) l.length (l.length + 3), .slice A l.length c] w fun e w' => e = .returned (.bool true) ∧ Below w.heap.size w w' := by
  obtain ⟨n, hn⟩ : ∃ n, l.length = n := ⟨_, rfl⟩
  have hr' := Lib.hid hr
  have hrow' := Lib.hid hrow
  have hn' := Lib.hid hn
  have HB := Lib.hid (Below.refl w.heap.size w)
  have hgl : g < w.heap.size := (Array.getElem?_eq_some_iff.1 hrow).1
  have hL := Lib.hid (show ∀ W : World, Below w.heap.size w W → Calls Try.prog 13 #[.slice A n c] W fun e w' => ∃ g', W.heap.size ≤ g' ∧ e = .returned (.slice (some ⟨g', 0, none⟩) n (n + 3)) ∧
      w'.heap[g']? = some (.cells (iv (lentRow l 3)).toArray 5 (0, 0)) ∧ Below W.heap.size W w' from by
    intro W hb
    rw [← hn]
    exact LentBytes_any A c l W (Kd.C_below hr hb) hc h20)
  have hS := Lib.hid (show ∀ (W : World) (g' : Nat), Below w.heap.size w W → W.heap[g']? = some (.cells (iv (lentRow l 3)).toArray 5 (0, 0)) →
      Calls Try.prog 18 #[.slice (some ⟨g, 0, none⟩) (n + 3) (n + 3), .slice (some ⟨g', 0, none⟩) (n + 3) (n + 3)] W fun e w' => e = .returned (.bool true) ∧ Drawn0 W w' from by
    intro W g' hb hg'
    have e := lentRow_length l 3 (Nat.le_refl _)
    rw [hn] at e
    have h0 := row_reads ((hb.block g hgl).trans hrow) (by omega)
    have h1 := row_reads hg' (by omega)
    have h := XTel.linotypekit_SameBytes.calls _ (lentRow l 3).length _ _ (lentRow l 3).length _ true W h0 (Nat.le_refl _) h1 (Nat.le_refl _) (by unfold XTel.linotypekit_SameBytes.f; simp)
    rw [e] at h
    exact h)
  clear hrow hr
  rw [hn] at hc h20 ⊢
  clear hn
  have hu := Try.underlying22
  have ec : ((n + 3 : Nat) : Int) = (n : Int) + 3 := by omega
  have c1 : (n : Int) ≤ (n : Int) + 3 := by omega
  have c0 : (0 : Int) ≤ (n : Int) + 3 := by omega
  have c2 : ((n : Int) + 3).toNat = n + 3 := by omega
  have c3 : (n : Int) + 3 ≤ (n : Int) + 3 := Int.le_refl _
  have c4 : IntKind.i64.wrap ((n : Int) + 3) = (n : Int) + 3 := by rw [IntKind.wrap_i64]; omega
  go_enter Try.func19, Try.ntmps19
  go_wp2
  go_region_held3 (fun _ => True) (trivial) (first
    | (go_at_call 13; refine (hL.out _ ?b).mono ?_; (case b => exact (by repeat (first | (with_reducible first | exact HB.out | apply below_alloc | apply pw_below_drewN | apply below_drew1) | exact HB.out))); rintro e w1 ⟨g1, hg1, rfl, hr1, hb1⟩; have hrow1 := Lib.hid hr1; have n1_ := Lib.hid (below_step (by repeat (first | (with_reducible first | exact HB.out | apply below_alloc | apply pw_below_drewN | apply below_drew1) | exact HB.out)) hb1); clear HB; have HB := n1_; clear n1_ hb1 hr1)
    | (go_at_call 18; refine (hS.out _ _ ?b ?r).mono ?_; (case b => exact (by repeat (first | (with_reducible first | exact HB.out | apply below_alloc | apply pw_below_drewN | apply below_drew1) | exact HB.out))); (case r => exact hrow1.out); rintro e w2 ⟨rfl, hd⟩; have n1_ := Lib.hid (below_step (by repeat (first | (with_reducible first | exact HB.out | apply below_alloc | apply pw_below_drewN | apply below_drew1) | exact HB.out)) hd.below); clear HB; have HB := n1_; clear n1_ hd))
  go_wp2
  go_ret
  exact ⟨rfl, HB.out⟩
end Go.Proofs.Ytlmpecahmmgphaa.Hand
