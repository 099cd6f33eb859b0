/- A contract of layout.lie: where the pieces lie with a choice. Condition: the choice is as long as the pieces, at most 20000. -/
import Derived.Test.YtlmpecahmmgphaaLayAll
import Derived.Test.YtlmpecahmmgphaaWRepsOne
namespace Go.Proofs.Ytlmpecahmmgphaa.Lay
open Go.RowKit Go.Proofs.Ytlmpecahmmgphaa.XLay Go.Proofs.YtlmpecahmmgphaaW.PrintWords Go.Proofs.YtlmpecahmmgphaaW.PrintLast Go.Proofs.YtlmpecahmmgphaaW.PrintMore
set_option linter.unusedVariables false
set_option linter.unusedSimpArgs false
theorem info3 : (Try.prog.info? 3).map (fun i => (i.zero, i.size, i.bytes)) = some (some (.int .i64 0), 1, 8) := by kernel_rfl
/-- Where a piece ends. -/
def stepP (v : PV) (nb : Bool) (e : Int) : Int := match v with
  | .fix z => wrap64 (e + z)
  | .br s n _ _ => if nb = true then wrap64 (e + n) else wrap64 (e + s)
  | .al n => Go.bits .andNot .i64 (wrap64 (wrap64 (e + n) - 1)) (wrap64 (n - 1))
/-- Where the first i pieces begin, and the next. -/
def lieL (ps : List PV) (near : List Bool) (o : Int) : Nat → List Int
  | 0 => [o]
  | i + 1 => lieL ps near o i ++ [stepP (ps.getD i (.fix 0)) (near.getD i false) (rd (lieL ps near o i) (i : Int))]
theorem lieL_succ (ps : List PV) (near : List Bool) (o : Int) (i : Nat) : lieL ps near o (i + 1) = lieL ps near o i ++ [stepP (ps.getD i (.fix 0)) (near.getD i false) (rd (lieL ps near o i) (i : Int))] := rfl
theorem lieL_len (ps : List PV) (near : List Bool) (o : Int) (i : Nat) : (lieL ps near o i).length = i + 1 := by
  induction i with
  | zero => rfl
  | succ i ih => rw [lieL_succ, List.length_append, ih]; rfl
theorem at_pv {w : World} {A : Option Addr} {n : Nat} {xs : List PV} (h : Kd.C kPV w A n xs) (i : Int) (h0 : 0 ≤ i) (h1 : i < n) : ∃ ad, A = some ad ∧ w.cell? (ad.add i.toNat) = some (encV (xs.getD i.toNat (.fix 0))) := by
  obtain ⟨ad, c, e, _, hK, hc0⟩ := Kd.C_get h (.fix 0) i h0 h1
  have hK' : c = [encV (xs.getD i.toNat (.fix 0))] := hK
  refine ⟨ad, e, ?_⟩
  have := hc0 0 (encV (xs.getD i.toNat (.fix 0))) (by rw [hK']; rfl)
  simpa [show kPV.sz = 1 from rfl] using this
theorem row64 {W : World} {base : Nat} {v : Value} {xs : List Int} (HO : (Kd.int .i64).R 3 W base (fun _ => True) v xs) : ∃ A c, v = .slice A xs.length c ∧ Kd.C (Kd.int .i64) W A xs.length xs := by
  have own := Kd.own_of_R (enc := Value.int .i64) (h1 := fun _ => rfl) HO
  obtain ⟨A, c, rfl, hr⟩ := own_reads (k := .i64) (by simpa [encs, nums] using own)
  exact ⟨A, c, rfl, Kd.C_of_reads (d := (0 : Int)) (h1 := fun _ => rfl) hr⟩
set_option maxHeartbeats 8000000 in
set_option maxRecDepth 100000 in
theorem lie_calls (A0 : Option Addr) (c0 : Nat) (ps : List PV) (o : Int) (A2 : Option Addr) (c2 : Nat) (l2 : List Bool) (w : World) (hr0 : Kd.C kPV w A0 ps.length ps) (hc0 : ps.length ≤ c0) (hr2 : Kd.C Kd.bool w A2 l2.length l2) (hc2 : l2.length ≤ c2) (h20 : ps.length ≤ 20000) (hl : l2.length = ps.length) :
    Calls Try.prog 62 #[.slice A0 ps.length c0, .int .i64 o, .slice A2 l2.length c2] w fun e w' => ∃ v0_ : Value, e = .returned v0_ ∧ Kd.R (Kd.int .i64) 3 w' w.heap.size (fun _ => True) v0_ (lieL ps l2 o ps.length) ∧ Below w.heap.size w w' := by
  have HR0 := Aside0.mk hr0
  have HR2 := Aside0.mk hr2
  have HB := Aside0.mk (Below.refl w.heap.size w)
  clear hr0 hr2
  go_enter Try.func62, Try.ntmps62
  go_wp2_with (first | ((with_reducible refine gate_dst (N := 15) rfl ?_); refine Kd.R_lit (Kd.int .i64) _ 3 ?hg (N := 15) ?hd (xs := ([o] : List Int)) (inner := [.int .i64 o]) (ok := fun _ => True) (okp := fun _ => True) ?hr ?hp (fun _ hk => hk) trivial (Below.refl _ _) (Nat.le_refl _) (by simp) ?_; (case hd => rfl); (case hg => rfl); (case hr => first | (go_simp; done) | (go_simp; rfl)); (case hp => exact (Reps.one (show Kd.M (Kd.int .i64) _ _ _ o [.int .i64 o] from rfl) (Reps.none _ _))); intro v4_ w4_ ho hb hg_ hnew_; clear hg_ hnew_; have HR := Aside0.mk (Kd.R_lower ho (below_size (by repeat (first | (with_reducible first | exact HB.out | apply below_alloc | apply pw_below_drewN | apply below_drew1) | exact HB.out)))); have n0_ := Aside0.mk (below_step (by repeat (first | (with_reducible first | exact HB.out | apply below_alloc | apply pw_below_drewN | apply below_drew1) | exact HB.out)) hb); clear HB; have HB := n0_; clear n0_; clear hb ho))
  go_loopg [7, 18] ps.length (fun g v7 v18 wx => ∃ (i : Nat), v18 = .int .i64 (i : Int) ∧ i + g = ps.length ∧ Aside0 (Kd.R (Kd.int .i64) 3 wx w.heap.size (fun _ => True) v7 (lieL ps l2 o i)) ∧ Aside0 (Below w.heap.size w wx))
  case atStart => exact ⟨0, rfl, by omega, ⟨by (with_reducible repeat (first | apply Kd.R_alloc | apply Kd.R_drewN | apply Kd.R_drew)); exact HR.out⟩, ⟨(by repeat (first | (with_reducible first | exact HB.out | apply below_alloc | apply pw_below_drewN | apply below_drew1) | exact HB.out))⟩⟩
  case round =>
    try clear HB HR
    obtain ⟨i, rfl, hi, HR, HB⟩ := hrel
    cases gk with
    | zero =>
      have hlt : ¬ ((i : Int) < (ps.length : Int)) := by omega
      have hlt2 : ¬ (i < ps.length) := by omega
      go_wp2
      go_ret
      have e : i = ps.length := by omega
      subst e
      exact ⟨_, rfl, by (with_reducible repeat (first | apply Kd.R_alloc | apply Kd.R_drewN | apply Kd.R_drew)); exact HR.out, (by repeat (first | (with_reducible first | exact HB.out | apply below_alloc | apply pw_below_drewN | apply below_drew1) | exact HB.out))⟩
    | succ k1 =>
      have hlt : (i : Int) < (ps.length : Int) := by omega
      have hlt2 : i < ps.length := by omega
      have h0i : (0 : Int) ≤ (i : Int) := by omega
      have hl2 : (i : Int) < (l2.length : Int) := by omega
      obtain ⟨xs, hxs⟩ : ∃ xs, xs = lieL ps l2 o i := ⟨_, rfl⟩
      have hxl : xs.length = i + 1 := by rw [hxs, lieL_len]
      rw [← hxs] at HR
      have HXS := Aside0.mk hxs
      clear hxs
      obtain ⟨A7, c7_, rfl, hC7⟩ := row64 HR.out
      have hx7 : (i : Int) < (xs.length : Int) := by omega
      obtain ⟨ad7, e7, h7⟩ := Kd.at_int hC7 (i : Int) h0i (by omega)
      cases e7
      clear hC7
      obtain ⟨ad0, e0, hx⟩ := at_pv HR0.out (i : Int) h0i hlt
      cases e0
      replace hx := (HB.out.cell (World.block_lt_of_cell? w _ hx)).trans hx
      simp only [Int.toNat_natCast] at hx h7
      cases hv0 : ps.getD i (.fix 0) with
      | fix z =>
        rw [hv0] at hx
        have hv := Aside0.mk hv0
        clear hv0
        replace hx : wr.cell? (ad0.add i) = some (.iface 93 (.agg #[.int .i64 z])) := hx
        have ta93 : ∀ w : World, (Instr.typeAssert (.iface 93 (.agg #[.int .i64 z])) 80 93 true).run Try.prog w = .ok (.tuple #[.agg #[.int .i64 z], .bool true]) w := fun _ => by kernel_rfl
        obtain ⟨nb, hnb⟩ : ∃ b, l2.getD i false = b := ⟨_, rfl⟩
        go_wp2_with (first | ((with_reducible refine gate_builtin (b := .append) (xs := #[.tmp 62, .tmp 64]) rfl ?_); at_builtin; refine Kd.R_append (Kd.int .i64) (w0 := w) w.heap.size rfl (.tmp 62) (.tmp 64) 53 3 (.int .i64 0) 8 rfl Try.underlying53 info3 rfl (by decide) (by omega) (.slice (some ad7) xs.length c7_) xs (wrap64 ((rd xs (i : Int)) + z)) [.int .i64 (wrap64 ((rd xs (i : Int)) + z))] (fun _ => True) (fun _ => False) rfl ?aX ?aP (fun _ hk => hk.elim) ?aF ?aO ?aB ?aS ?aL ?_; (case aX => first | rfl | (rw [show (wr.alloc (.cells #[.int .i64 z] 93)).heap.size = wr.heap.size + 1 from Array.size_push ..]; rfl) | (simp; done)); (case aP => exact rfl); (case aB => exact (by repeat (first | (with_reducible first | exact HB.out | apply below_alloc | apply pw_below_drewN | apply below_drew1) | exact HB.out))); (case aF => exact (fun _ _ => trivial)); (case aO => exact (by (with_reducible repeat (first | apply Kd.R_alloc | apply Kd.R_drewN | apply Kd.R_drew)); exact HR.out)); (case aS => exact (below_size (by repeat (first | (with_reducible first | exact HB.out | apply below_alloc | apply pw_below_drewN | apply below_drew1) | exact HB.out)))); (case aL => omega); intro v_ w_ ho hb hg hat; have n0_ := Aside0.mk hb; have n1_ := Aside0.mk ho; clear HB HR; have HB := n0_; have HR := n1_; clear n0_ n1_; clear ho hb hg hat))
        go_roundg k1
        case measure => omega
        case rel =>
          refine ⟨i + 1, by first | rfl | (simp; done) | (simp [*]; done), by omega, ⟨?_⟩, ⟨(by repeat (first | (with_reducible first | exact HB.out | apply below_alloc | apply pw_below_drewN | apply below_drew1) | exact HB.out))⟩⟩
          have e := HR.out
          show Kd.R (Kd.int .i64) 3 _ w.heap.size (fun _ => True) _ (lieL ps l2 o (i + 1))
          rw [lieL_succ, ← HXS.out, hv.out, hnb]
          (with_reducible repeat (first | apply Kd.R_alloc | apply Kd.R_drewN | apply Kd.R_drew))
          exact e
      | br s n_ t o_ =>
        rw [hv0] at hx
        have hv := Aside0.mk hv0
        clear hv0
        replace hx : wr.cell? (ad0.add i) = some (.iface 82 (.agg #[.int .i64 s, .int .i64 n_, .int .i64 t, .int .i64 o_])) := hx
        have ta93 : ∀ w : World, (Instr.typeAssert (.iface 82 (.agg #[.int .i64 s, .int .i64 n_, .int .i64 t, .int .i64 o_])) 80 93 true).run Try.prog w = .ok (.tuple #[.agg #[.int .i64 0], .bool false]) w := fun _ => by kernel_rfl
        have ta95 : ∀ w : World, (Instr.typeAssert (.iface 82 (.agg #[.int .i64 s, .int .i64 n_, .int .i64 t, .int .i64 o_])) 80 95 true).run Try.prog w = .ok (.tuple #[.agg #[.int .i64 0], .bool false]) w := fun _ => by kernel_rfl
        have ta82 : ∀ w : World, (Instr.typeAssert (.iface 82 (.agg #[.int .i64 s, .int .i64 n_, .int .i64 t, .int .i64 o_])) 80 82 true).run Try.prog w = .ok (.tuple #[.agg #[.int .i64 s, .int .i64 n_, .int .i64 t, .int .i64 o_], .bool true]) w := fun _ => by kernel_rfl
        have hnb0 := Kd.at_bool HR2.out (i : Int) h0i (by omega)
        obtain ⟨ad2, e2, hn0⟩ := hnb0
        cases e2
        simp only [Int.toNat_natCast] at hn0
        cases hnb : l2.getD i false with
        | true =>
          have hn1 : rdOf false l2 (i : Int) = true := hnb
          rw [hn1] at hn0
          have hn : ∀ o : Obj, (wr.alloc o).cell? (ad2.add i) = some (.bool true) := fun o => (((below_alloc HB.out o)).cell (World.block_lt_of_cell? w _ hn0)).trans hn0
          go_wp2_with (first | ((with_reducible refine gate_builtin (b := .append) (xs := #[.tmp 62, .tmp 64]) rfl ?_); at_builtin; refine Kd.R_append (Kd.int .i64) (w0 := w) w.heap.size rfl (.tmp 62) (.tmp 64) 53 3 (.int .i64 0) 8 rfl Try.underlying53 info3 rfl (by decide) (by omega) (.slice (some ad7) xs.length c7_) xs (wrap64 ((rd xs (i : Int)) + n_)) [.int .i64 (wrap64 ((rd xs (i : Int)) + n_))] (fun _ => True) (fun _ => False) rfl ?aX ?aP (fun _ hk => hk.elim) ?aF ?aO ?aB ?aS ?aL ?_; (case aX => first | rfl | (rw [show (wr.alloc (.cells #[.int .i64 s, .int .i64 n_, .int .i64 t, .int .i64 o_] 82)).heap.size = wr.heap.size + 1 from Array.size_push ..]; rfl) | (simp; done)); (case aP => exact rfl); (case aB => exact (by repeat (first | (with_reducible first | exact HB.out | apply below_alloc | apply pw_below_drewN | apply below_drew1) | exact HB.out))); (case aF => exact (fun _ _ => trivial)); (case aO => exact (by (with_reducible repeat (first | apply Kd.R_alloc | apply Kd.R_drewN | apply Kd.R_drew)); exact HR.out)); (case aS => exact (below_size (by repeat (first | (with_reducible first | exact HB.out | apply below_alloc | apply pw_below_drewN | apply below_drew1) | exact HB.out)))); (case aL => omega); intro v_ w_ ho hb hg hat; have n0_ := Aside0.mk hb; have n1_ := Aside0.mk ho; clear HB HR; have HB := n0_; have HR := n1_; clear n0_ n1_; clear ho hb hg hat))
          go_roundg k1
          case measure => omega
          case rel =>
            refine ⟨i + 1, by first | rfl | (simp; done) | (simp [*]; done), by omega, ⟨?_⟩, ⟨(by repeat (first | (with_reducible first | exact HB.out | apply below_alloc | apply pw_below_drewN | apply below_drew1) | exact HB.out))⟩⟩
            have e := HR.out
            show Kd.R (Kd.int .i64) 3 _ w.heap.size (fun _ => True) _ (lieL ps l2 o (i + 1))
            rw [lieL_succ, ← HXS.out, hv.out, hnb]
            (with_reducible repeat (first | apply Kd.R_alloc | apply Kd.R_drewN | apply Kd.R_drew))
            exact e
        | false =>
          have hn1 : rdOf false l2 (i : Int) = false := hnb
          rw [hn1] at hn0
          have hn : ∀ o : Obj, (wr.alloc o).cell? (ad2.add i) = some (.bool false) := fun o => (((below_alloc HB.out o)).cell (World.block_lt_of_cell? w _ hn0)).trans hn0
          go_wp2_with (first | ((with_reducible refine gate_builtin (b := .append) (xs := #[.tmp 62, .tmp 64]) rfl ?_); at_builtin; refine Kd.R_append (Kd.int .i64) (w0 := w) w.heap.size rfl (.tmp 62) (.tmp 64) 53 3 (.int .i64 0) 8 rfl Try.underlying53 info3 rfl (by decide) (by omega) (.slice (some ad7) xs.length c7_) xs (wrap64 ((rd xs (i : Int)) + s)) [.int .i64 (wrap64 ((rd xs (i : Int)) + s))] (fun _ => True) (fun _ => False) rfl ?aX ?aP (fun _ hk => hk.elim) ?aF ?aO ?aB ?aS ?aL ?_; (case aX => first | rfl | (rw [show (wr.alloc (.cells #[.int .i64 s, .int .i64 n_, .int .i64 t, .int .i64 o_] 82)).heap.size = wr.heap.size + 1 from Array.size_push ..]; rfl) | (simp; done)); (case aP => exact rfl); (case aB => exact (by repeat (first | (with_reducible first | exact HB.out | apply below_alloc | apply pw_below_drewN | apply below_drew1) | exact HB.out))); (case aF => exact (fun _ _ => trivial)); (case aO => exact (by (with_reducible repeat (first | apply Kd.R_alloc | apply Kd.R_drewN | apply Kd.R_drew)); exact HR.out)); (case aS => exact (below_size (by repeat (first | (with_reducible first | exact HB.out | apply below_alloc | apply pw_below_drewN | apply below_drew1) | exact HB.out)))); (case aL => omega); intro v_ w_ ho hb hg hat; have n0_ := Aside0.mk hb; have n1_ := Aside0.mk ho; clear HB HR; have HB := n0_; have HR := n1_; clear n0_ n1_; clear ho hb hg hat))
          go_roundg k1
          case measure => omega
          case rel =>
            refine ⟨i + 1, by first | rfl | (simp; done) | (simp [*]; done), by omega, ⟨?_⟩, ⟨(by repeat (first | (with_reducible first | exact HB.out | apply below_alloc | apply pw_below_drewN | apply below_drew1) | exact HB.out))⟩⟩
            have e := HR.out
            show Kd.R (Kd.int .i64) 3 _ w.heap.size (fun _ => True) _ (lieL ps l2 o (i + 1))
            rw [lieL_succ, ← HXS.out, hv.out, hnb]
            (with_reducible repeat (first | apply Kd.R_alloc | apply Kd.R_drewN | apply Kd.R_drew))
            exact e
      | al n_ =>
        rw [hv0] at hx
        have hv := Aside0.mk hv0
        clear hv0
        replace hx : wr.cell? (ad0.add i) = some (.iface 95 (.agg #[.int .i64 n_])) := hx
        have ta93 : ∀ w : World, (Instr.typeAssert (.iface 95 (.agg #[.int .i64 n_])) 80 93 true).run Try.prog w = .ok (.tuple #[.agg #[.int .i64 0], .bool false]) w := fun _ => by kernel_rfl
        have ta95 : ∀ w : World, (Instr.typeAssert (.iface 95 (.agg #[.int .i64 n_])) 80 95 true).run Try.prog w = .ok (.tuple #[.agg #[.int .i64 n_], .bool true]) w := fun _ => by kernel_rfl
        obtain ⟨nb, hnb⟩ : ∃ b, l2.getD i false = b := ⟨_, rfl⟩
        go_wp2_with (first | ((with_reducible refine gate_builtin (b := .append) (xs := #[.tmp 62, .tmp 64]) rfl ?_); at_builtin; refine Kd.R_append (Kd.int .i64) (w0 := w) w.heap.size rfl (.tmp 62) (.tmp 64) 53 3 (.int .i64 0) 8 rfl Try.underlying53 info3 rfl (by decide) (by omega) (.slice (some ad7) xs.length c7_) xs (Go.bits .andNot .i64 (wrap64 (wrap64 ((rd xs (i : Int)) + n_) - 1)) (wrap64 (n_ - 1))) [.int .i64 (Go.bits .andNot .i64 (wrap64 (wrap64 ((rd xs (i : Int)) + n_) - 1)) (wrap64 (n_ - 1)))] (fun _ => True) (fun _ => False) rfl ?aX ?aP (fun _ hk => hk.elim) ?aF ?aO ?aB ?aS ?aL ?_; (case aX => first | rfl | (rw [show (wr.alloc (.cells #[.int .i64 n_] 95)).heap.size = wr.heap.size + 1 from Array.size_push ..]; rfl) | (simp; done)); (case aP => exact rfl); (case aB => exact (by repeat (first | (with_reducible first | exact HB.out | apply below_alloc | apply pw_below_drewN | apply below_drew1) | exact HB.out))); (case aF => exact (fun _ _ => trivial)); (case aO => exact (by (with_reducible repeat (first | apply Kd.R_alloc | apply Kd.R_drewN | apply Kd.R_drew)); exact HR.out)); (case aS => exact (below_size (by repeat (first | (with_reducible first | exact HB.out | apply below_alloc | apply pw_below_drewN | apply below_drew1) | exact HB.out)))); (case aL => omega); intro v_ w_ ho hb hg hat; have n0_ := Aside0.mk hb; have n1_ := Aside0.mk ho; clear HB HR; have HB := n0_; have HR := n1_; clear n0_ n1_; clear ho hb hg hat))
        go_roundg k1
        case measure => omega
        case rel =>
          refine ⟨i + 1, by first | rfl | (simp; done) | (simp [*]; done), by omega, ⟨?_⟩, ⟨(by repeat (first | (with_reducible first | exact HB.out | apply below_alloc | apply pw_below_drewN | apply below_drew1) | exact HB.out))⟩⟩
          have e := HR.out
          show Kd.R (Kd.int .i64) 3 _ w.heap.size (fun _ => True) _ (lieL ps l2 o (i + 1))
          rw [lieL_succ, ← HXS.out, hv.out, hnb]
          (with_reducible repeat (first | apply Kd.R_alloc | apply Kd.R_drewN | apply Kd.R_drew))
          exact e
end Go.Proofs.Ytlmpecahmmgphaa.Lay
