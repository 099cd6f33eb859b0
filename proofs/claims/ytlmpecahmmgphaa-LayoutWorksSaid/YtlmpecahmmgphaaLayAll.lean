/- A contract of layout.all: what all pieces are, or that one may not be. Condition: at most 20000 pieces. -/
import Derived.Test.YtlmpecahmmgphaaLayOf
import Derived.Deep.LoopGhost
namespace Go.Proofs.Ytlmpecahmmgphaa.Lay
open Go.RowKit Go.Proofs.Ytlmpecahmmgphaa.XLay Go.Proofs.YtlmpecahmmgphaaW.PrintWords Go.Proofs.YtlmpecahmmgphaaW.PrintLast Go.Proofs.YtlmpecahmmgphaaW.PrintMore
set_option linter.unusedVariables false
set_option linter.unusedSimpArgs false
theorem info80 : (Try.prog.info? 80).map (fun i => (i.zero, i.size, i.bytes)) = some (some .nilIface, 1, 16) := by kernel_rfl
def kPV : Kd PV := Kd.scalar encV (fun x => by cases x <;> rfl)
/-- What the pieces are, or none: one may not be. -/
def allP (many : Int) : List S52 → Option (List PV)
  | [] => some []
  | p :: r => (ofP p.f0 p.f1 p.f2 p.f3 p.f4 p.f5 p.f6 many).bind fun v => (allP many r).bind fun vs => some (v :: vs)
theorem allP_snoc (many : Int) (l : List S52) (p : S52) : allP many (l ++ [p]) = (allP many l).bind fun vs => (ofP p.f0 p.f1 p.f2 p.f3 p.f4 p.f5 p.f6 many).bind fun v => some (vs ++ [v]) := by
  induction l with
  | nil => simp [allP]
  | cons q r ih =>
    simp only [List.cons_append, allP, ih]
    cases ofP q.f0 q.f1 q.f2 q.f3 q.f4 q.f5 q.f6 many with
    | none => rfl
    | some v =>
      simp only [Option.bind_some]
      cases allP many r with
      | none => rfl
      | some vs =>
        simp only [Option.bind_some]
        cases ofP p.f0 p.f1 p.f2 p.f3 p.f4 p.f5 p.f6 many <;> rfl
theorem allP_len (many : Int) (l : List S52) (ps : List PV) (h : allP many l = some ps) : ps.length = l.length := by
  induction l generalizing ps with
  | nil => simp [allP] at h; subst h; rfl
  | cons q r ih =>
    simp only [allP] at h
    obtain ⟨v, _, h⟩ := Option.bind_eq_some_iff.1 h
    obtain ⟨vs, h2, h⟩ := Option.bind_eq_some_iff.1 h
    cases h
    simp [ih vs h2]
theorem allP_none (many : Int) (l r : List S52) (h : allP many l = none) : allP many (l ++ r) = none := by
  induction l with
  | nil => simp [allP] at h
  | cons q s ih =>
    simp only [List.cons_append, allP] at h ⊢
    cases hq : ofP q.f0 q.f1 q.f2 q.f3 q.f4 q.f5 q.f6 many with
    | none => rfl
    | some v =>
      rw [hq] at h
      simp only [Option.bind_some] at h ⊢
      cases hs : allP many s with
      | none => rw [ih hs]; rfl
      | some vs => rw [hs] at h; simp at h
theorem rd_eq (l : List S52) (i : Nat) (h : i < l.length) : rd_T52 l (i : Int) = l[i] := by
  unfold rd_T52
  simp [h]
theorem take_snoc (l : List S52) (i : Nat) (h : i < l.length) : l.take (i + 1) = l.take i ++ [rd_T52 l (i : Int)] := by
  rw [rd_eq l i h, List.take_add_one, List.getElem?_eq_getElem h]
  rfl
set_option maxHeartbeats 8000000 in
set_option maxRecDepth 100000 in
theorem all_calls (A0 : Option Addr) (c0 : Nat) (l : List S52) (w : World) (hr0 : Kd.C k52 w A0 l.length l) (hc0 : l.length ≤ c0) (h20 : l.length ≤ 20000) :
    Calls Try.prog 60 #[.slice A0 l.length c0] w fun e w' => ((allP (l.length : Int) l = none → e = .returned (.tuple #[.slice none 0 0, .int .i64 2])) ∧
      (∀ ps, allP (l.length : Int) l = some ps → ∃ v, e = .returned (.tuple #[v, .int .i64 0]) ∧ Kd.R kPV 80 w' w.heap.size (fun _ => True) v ps)) ∧ Below w.heap.size w w' := by
  have hu52 := Try.underlying52
  have HR0 := Aside0.mk hr0
  have HC0 := Aside0.mk hc0
  have HB := Aside0.mk (Below.refl w.heap.size w)
  clear hr0 hc0
  have c2 : decide ((20000 : Int) < (l.length : Int)) = false := decide_eq_false (by omega)
  have c3 : decide (20000 < l.length) = false := decide_eq_false (by omega)
  go_enter Try.func60, Try.ntmps60
  go_wp2
  go_loopg [4, 13] l.length (fun g v4 v13 wx => ∃ (i : Nat) (ps : List PV), v13 = .int .i64 (i : Int) ∧ i + g = l.length ∧ Aside0 (allP (l.length : Int) (l.take i) = some ps) ∧ Aside0 (Kd.R kPV 80 wx w.heap.size (fun _ => True) v4 ps) ∧ Aside0 (Below w.heap.size w wx))
  case atStart => exact ⟨0, [], rfl, by omega, ⟨rfl⟩, ⟨Kd.R_nil _ _ _ _ _⟩, ⟨by repeat (first | (with_reducible first | exact HB.out | apply below_alloc | apply pw_below_drewN | apply below_drew1) | exact HB.out)⟩⟩
  case round =>
    try clear HB
    obtain ⟨i, ps, rfl, hi, HP, HR, HB⟩ := hrel
    cases gk with
    | zero =>
      have hlt : ¬ ((i : Int) < (l.length : Int)) := by omega
      have hlt2 : ¬ (i < l.length) := by omega
      go_wp2
      go_ret2
      have e := HP.out
      rw [List.take_of_length_le (by omega)] at e
      refine ⟨⟨fun h => absurd (e.symm.trans h) (by simp), fun ps' h => ?_⟩, (by repeat (first | (with_reducible first | exact HB.out | apply below_alloc | apply pw_below_drewN | apply below_drew1) | exact HB.out))⟩
      cases Option.some.inj (e.symm.trans h)
      exact ⟨_, rfl, by (with_reducible repeat (first | apply Kd.R_alloc | apply Kd.R_drewN | apply Kd.R_drew)); exact HR.out⟩
    | succ k1 =>
      have hlt : (i : Int) < (l.length : Int) := by omega
      have hlt2 : i < l.length := by omega
      have h0i : (0 : Int) ≤ (i : Int) := by omega
      obtain ⟨ad, e1, x0, x1, x2, x3, x4, x5, x6⟩ := at_T52 HR0.out (i : Int) h0i hlt
      cases e1
      simp only [Int.toNat_natCast] at x0 x1 x2 x3 x4 x5 x6
      have HP2 := Aside0.mk (allP_snoc (l.length : Int) (l.take i) (rd_T52 l (i : Int)))
      cases hof : (ofP (rd_T52 l (i : Int)).f0 (rd_T52 l (i : Int)).f1 (rd_T52 l (i : Int)).f2 (rd_T52 l (i : Int)).f3 (rd_T52 l (i : Int)).f4 (rd_T52 l (i : Int)).f5 (rd_T52 l (i : Int)).f6 (l.length : Int)) with
      | none =>
        have HO_ := Aside0.mk hof
        clear hof
        replace x0 := (HB.out.cell (World.block_lt_of_cell? w _ x0)).trans x0
        replace x1 := (HB.out.cell (World.block_lt_of_cell? w _ x1)).trans x1
        replace x2 := (HB.out.cell (World.block_lt_of_cell? w _ x2)).trans x2
        replace x3 := (HB.out.cell (World.block_lt_of_cell? w _ x3)).trans x3
        replace x4 := (HB.out.cell (World.block_lt_of_cell? w _ x4)).trans x4
        replace x5 := (HB.out.cell (World.block_lt_of_cell? w _ x5)).trans x5
        replace x6 := (HB.out.cell (World.block_lt_of_cell? w _ x6)).trans x6
        go_wp2_with (first | ((with_reducible refine gate_callee (f := 74) rfl ?_); (try (refine gate_guard (by rfl) ?_; dsimp only)); refine goesL_ (some 20) rfl rfl Try.func74 (by kernel_rfl) rfl #[.agg #[.int .i64 (rd_T52 l (i : Int)).f0, .int .i64 (rd_T52 l (i : Int)).f1, .int .i64 (rd_T52 l (i : Int)).f2, .int .i64 (rd_T52 l (i : Int)).f3, .int .i64 (rd_T52 l (i : Int)).f4, .int .i64 (rd_T52 l (i : Int)).f5, .int .i64 (rd_T52 l (i : Int)).f6], .int .i64 (l.length : Int)] rfl (by (try simp only [List.map_toArray, List.map_cons, List.map_nil]); first | done | rfl) ?_; refine (of_calls _ _ _ _ _ _ _ _ _).mono ?_; rintro e w1 ⟨he, hb⟩; rw [HO_.out] at he; replace he : e = .returned (.nilIface) := he; subst he; refine ⟨_, rfl, ?_⟩; have n2_ := Aside0.mk (Kd.R_below (by (with_reducible repeat (first | apply Kd.R_alloc | apply Kd.R_drewN | apply Kd.R_drew)); exact HR.out) hb); clear HR; have HR := n2_; clear n2_; have n0_ := Aside0.mk (below_step (by repeat (first | (with_reducible first | exact HB.out | apply below_alloc | apply pw_below_drewN | apply below_drew1) | exact HB.out)) hb); clear HB; have HB := n0_; clear n0_; clear hb))
        go_ret2
        have e := HP2.out
        rw [HP.out, HO_.out, ← take_snoc l i hlt2] at e
        have e2 := allP_none (l.length : Int) (l.take (i + 1)) (l.drop (i + 1)) e
        rw [List.take_append_drop] at e2
        exact ⟨⟨fun _ => rfl, fun ps' h => absurd (e2.symm.trans h) (by simp)⟩, (by repeat (first | (with_reducible first | exact HB.out | apply below_alloc | apply pw_below_drewN | apply below_drew1) | exact HB.out))⟩
      | some v =>
        cases v with
        | fix z =>
          have HO_ := Aside0.mk hof
          clear hof
          replace x0 := (HB.out.cell (World.block_lt_of_cell? w _ x0)).trans x0
          replace x1 := (HB.out.cell (World.block_lt_of_cell? w _ x1)).trans x1
          replace x2 := (HB.out.cell (World.block_lt_of_cell? w _ x2)).trans x2
          replace x3 := (HB.out.cell (World.block_lt_of_cell? w _ x3)).trans x3
          replace x4 := (HB.out.cell (World.block_lt_of_cell? w _ x4)).trans x4
          replace x5 := (HB.out.cell (World.block_lt_of_cell? w _ x5)).trans x5
          replace x6 := (HB.out.cell (World.block_lt_of_cell? w _ x6)).trans x6
          have hlen : ps.length ≤ 20000 := by
            have := allP_len _ _ _ HP.out
            rw [List.length_take] at this
            omega
          go_wp2_with (first | ((with_reducible refine gate_callee (f := 74) rfl ?_); (try (refine gate_guard (by rfl) ?_; dsimp only)); refine goesL_ (some 20) rfl rfl Try.func74 (by kernel_rfl) rfl #[.agg #[.int .i64 (rd_T52 l (i : Int)).f0, .int .i64 (rd_T52 l (i : Int)).f1, .int .i64 (rd_T52 l (i : Int)).f2, .int .i64 (rd_T52 l (i : Int)).f3, .int .i64 (rd_T52 l (i : Int)).f4, .int .i64 (rd_T52 l (i : Int)).f5, .int .i64 (rd_T52 l (i : Int)).f6], .int .i64 (l.length : Int)] rfl (by (try simp only [List.map_toArray, List.map_cons, List.map_nil]); first | done | rfl) ?_; refine (of_calls _ _ _ _ _ _ _ _ _).mono ?_; rintro e w1 ⟨he, hb⟩; rw [HO_.out] at he; replace he : e = .returned (.iface 93 (.agg #[.int .i64 z])) := he; subst he; refine ⟨_, rfl, ?_⟩; have n2_ := Aside0.mk (Kd.R_below (by (with_reducible repeat (first | apply Kd.R_alloc | apply Kd.R_drewN | apply Kd.R_drew)); exact HR.out) hb); clear HR; have HR := n2_; clear n2_; have n0_ := Aside0.mk (below_step (by repeat (first | (with_reducible first | exact HB.out | apply below_alloc | apply pw_below_drewN | apply below_drew1) | exact HB.out)) hb); clear HB; have HB := n0_; clear n0_; clear hb) | ((with_reducible refine gate_builtin (b := .append) (xs := #[.tmp 23, .tmp 25]) rfl ?_); at_builtin; refine Kd.R_append kPV (w0 := w) w.heap.size rfl (.tmp 23) (.tmp 25) 75 80 .nilIface 16 rfl Try.underlying75 info80 rfl (by decide) (by omega) _ ps (PV.fix z) [.iface 93 (.agg #[.int .i64 z])] (fun _ => True) (fun _ => False) rfl rfl ?aP (fun _ hk => hk.elim) ?aF ?aO ?aB ?aS ?aL ?_; (case aP => exact rfl); (case aB => exact (by repeat (first | (with_reducible first | exact HB.out | apply below_alloc | apply pw_below_drewN | apply below_drew1) | exact HB.out))); (case aF => exact (fun _ _ => trivial)); (case aO => exact (by (with_reducible repeat (first | apply Kd.R_alloc | apply Kd.R_drewN | apply Kd.R_drew)); exact HR.out)); (case aS => exact (below_size (by repeat (first | (with_reducible first | exact HB.out | apply below_alloc | apply pw_below_drewN | apply below_drew1) | exact HB.out)))); (case aL => omega); intro v_ w_ ho hb hg hat; have n0_ := Aside0.mk hb; have n1_ := Aside0.mk ho; clear HB HR; have HB := n0_; have HR := n1_; clear n0_ n1_; clear ho hb hg hat))
          go_roundg k1
          case measure => omega
          case rel =>
            have e := HP2.out
            rw [HP.out, HO_.out, ← take_snoc l i hlt2] at e
            exact ⟨i + 1, ps ++ [(PV.fix z)], by first | rfl | (simp; done) | (simp [*]; done), by omega, ⟨e⟩, ⟨by (with_reducible repeat (first | apply Kd.R_alloc | apply Kd.R_drewN | apply Kd.R_drew)); exact HR.out⟩, ⟨(by repeat (first | (with_reducible first | exact HB.out | apply below_alloc | apply pw_below_drewN | apply below_drew1) | exact HB.out))⟩⟩
        | br s n t o =>
          have HO_ := Aside0.mk hof
          clear hof
          replace x0 := (HB.out.cell (World.block_lt_of_cell? w _ x0)).trans x0
          replace x1 := (HB.out.cell (World.block_lt_of_cell? w _ x1)).trans x1
          replace x2 := (HB.out.cell (World.block_lt_of_cell? w _ x2)).trans x2
          replace x3 := (HB.out.cell (World.block_lt_of_cell? w _ x3)).trans x3
          replace x4 := (HB.out.cell (World.block_lt_of_cell? w _ x4)).trans x4
          replace x5 := (HB.out.cell (World.block_lt_of_cell? w _ x5)).trans x5
          replace x6 := (HB.out.cell (World.block_lt_of_cell? w _ x6)).trans x6
          have hlen : ps.length ≤ 20000 := by
            have := allP_len _ _ _ HP.out
            rw [List.length_take] at this
            omega
          go_wp2_with (first | ((with_reducible refine gate_callee (f := 74) rfl ?_); (try (refine gate_guard (by rfl) ?_; dsimp only)); refine goesL_ (some 20) rfl rfl Try.func74 (by kernel_rfl) rfl #[.agg #[.int .i64 (rd_T52 l (i : Int)).f0, .int .i64 (rd_T52 l (i : Int)).f1, .int .i64 (rd_T52 l (i : Int)).f2, .int .i64 (rd_T52 l (i : Int)).f3, .int .i64 (rd_T52 l (i : Int)).f4, .int .i64 (rd_T52 l (i : Int)).f5, .int .i64 (rd_T52 l (i : Int)).f6], .int .i64 (l.length : Int)] rfl (by (try simp only [List.map_toArray, List.map_cons, List.map_nil]); first | done | rfl) ?_; refine (of_calls _ _ _ _ _ _ _ _ _).mono ?_; rintro e w1 ⟨he, hb⟩; rw [HO_.out] at he; replace he : e = .returned (.iface 82 (.agg #[.int .i64 s, .int .i64 n, .int .i64 t, .int .i64 o])) := he; subst he; refine ⟨_, rfl, ?_⟩; have n2_ := Aside0.mk (Kd.R_below (by (with_reducible repeat (first | apply Kd.R_alloc | apply Kd.R_drewN | apply Kd.R_drew)); exact HR.out) hb); clear HR; have HR := n2_; clear n2_; have n0_ := Aside0.mk (below_step (by repeat (first | (with_reducible first | exact HB.out | apply below_alloc | apply pw_below_drewN | apply below_drew1) | exact HB.out)) hb); clear HB; have HB := n0_; clear n0_; clear hb) | ((with_reducible refine gate_builtin (b := .append) (xs := #[.tmp 23, .tmp 25]) rfl ?_); at_builtin; refine Kd.R_append kPV (w0 := w) w.heap.size rfl (.tmp 23) (.tmp 25) 75 80 .nilIface 16 rfl Try.underlying75 info80 rfl (by decide) (by omega) _ ps (PV.br s n t o) [.iface 82 (.agg #[.int .i64 s, .int .i64 n, .int .i64 t, .int .i64 o])] (fun _ => True) (fun _ => False) rfl rfl ?aP (fun _ hk => hk.elim) ?aF ?aO ?aB ?aS ?aL ?_; (case aP => exact rfl); (case aB => exact (by repeat (first | (with_reducible first | exact HB.out | apply below_alloc | apply pw_below_drewN | apply below_drew1) | exact HB.out))); (case aF => exact (fun _ _ => trivial)); (case aO => exact (by (with_reducible repeat (first | apply Kd.R_alloc | apply Kd.R_drewN | apply Kd.R_drew)); exact HR.out)); (case aS => exact (below_size (by repeat (first | (with_reducible first | exact HB.out | apply below_alloc | apply pw_below_drewN | apply below_drew1) | exact HB.out)))); (case aL => omega); intro v_ w_ ho hb hg hat; have n0_ := Aside0.mk hb; have n1_ := Aside0.mk ho; clear HB HR; have HB := n0_; have HR := n1_; clear n0_ n1_; clear ho hb hg hat))
          go_roundg k1
          case measure => omega
          case rel =>
            have e := HP2.out
            rw [HP.out, HO_.out, ← take_snoc l i hlt2] at e
            exact ⟨i + 1, ps ++ [(PV.br s n t o)], by first | rfl | (simp; done) | (simp [*]; done), by omega, ⟨e⟩, ⟨by (with_reducible repeat (first | apply Kd.R_alloc | apply Kd.R_drewN | apply Kd.R_drew)); exact HR.out⟩, ⟨(by repeat (first | (with_reducible first | exact HB.out | apply below_alloc | apply pw_below_drewN | apply below_drew1) | exact HB.out))⟩⟩
        | al n =>
          have HO_ := Aside0.mk hof
          clear hof
          replace x0 := (HB.out.cell (World.block_lt_of_cell? w _ x0)).trans x0
          replace x1 := (HB.out.cell (World.block_lt_of_cell? w _ x1)).trans x1
          replace x2 := (HB.out.cell (World.block_lt_of_cell? w _ x2)).trans x2
          replace x3 := (HB.out.cell (World.block_lt_of_cell? w _ x3)).trans x3
          replace x4 := (HB.out.cell (World.block_lt_of_cell? w _ x4)).trans x4
          replace x5 := (HB.out.cell (World.block_lt_of_cell? w _ x5)).trans x5
          replace x6 := (HB.out.cell (World.block_lt_of_cell? w _ x6)).trans x6
          have hlen : ps.length ≤ 20000 := by
            have := allP_len _ _ _ HP.out
            rw [List.length_take] at this
            omega
          go_wp2_with (first | ((with_reducible refine gate_callee (f := 74) rfl ?_); (try (refine gate_guard (by rfl) ?_; dsimp only)); refine goesL_ (some 20) rfl rfl Try.func74 (by kernel_rfl) rfl #[.agg #[.int .i64 (rd_T52 l (i : Int)).f0, .int .i64 (rd_T52 l (i : Int)).f1, .int .i64 (rd_T52 l (i : Int)).f2, .int .i64 (rd_T52 l (i : Int)).f3, .int .i64 (rd_T52 l (i : Int)).f4, .int .i64 (rd_T52 l (i : Int)).f5, .int .i64 (rd_T52 l (i : Int)).f6], .int .i64 (l.length : Int)] rfl (by (try simp only [List.map_toArray, List.map_cons, List.map_nil]); first | done | rfl) ?_; refine (of_calls _ _ _ _ _ _ _ _ _).mono ?_; rintro e w1 ⟨he, hb⟩; rw [HO_.out] at he; replace he : e = .returned (.iface 95 (.agg #[.int .i64 n])) := he; subst he; refine ⟨_, rfl, ?_⟩; have n2_ := Aside0.mk (Kd.R_below (by (with_reducible repeat (first | apply Kd.R_alloc | apply Kd.R_drewN | apply Kd.R_drew)); exact HR.out) hb); clear HR; have HR := n2_; clear n2_; have n0_ := Aside0.mk (below_step (by repeat (first | (with_reducible first | exact HB.out | apply below_alloc | apply pw_below_drewN | apply below_drew1) | exact HB.out)) hb); clear HB; have HB := n0_; clear n0_; clear hb) | ((with_reducible refine gate_builtin (b := .append) (xs := #[.tmp 23, .tmp 25]) rfl ?_); at_builtin; refine Kd.R_append kPV (w0 := w) w.heap.size rfl (.tmp 23) (.tmp 25) 75 80 .nilIface 16 rfl Try.underlying75 info80 rfl (by decide) (by omega) _ ps (PV.al n) [.iface 95 (.agg #[.int .i64 n])] (fun _ => True) (fun _ => False) rfl rfl ?aP (fun _ hk => hk.elim) ?aF ?aO ?aB ?aS ?aL ?_; (case aP => exact rfl); (case aB => exact (by repeat (first | (with_reducible first | exact HB.out | apply below_alloc | apply pw_below_drewN | apply below_drew1) | exact HB.out))); (case aF => exact (fun _ _ => trivial)); (case aO => exact (by (with_reducible repeat (first | apply Kd.R_alloc | apply Kd.R_drewN | apply Kd.R_drew)); exact HR.out)); (case aS => exact (below_size (by repeat (first | (with_reducible first | exact HB.out | apply below_alloc | apply pw_below_drewN | apply below_drew1) | exact HB.out)))); (case aL => omega); intro v_ w_ ho hb hg hat; have n0_ := Aside0.mk hb; have n1_ := Aside0.mk ho; clear HB HR; have HB := n0_; have HR := n1_; clear n0_ n1_; clear ho hb hg hat))
          go_roundg k1
          case measure => omega
          case rel =>
            have e := HP2.out
            rw [HP.out, HO_.out, ← take_snoc l i hlt2] at e
            exact ⟨i + 1, ps ++ [(PV.al n)], by first | rfl | (simp; done) | (simp [*]; done), by omega, ⟨e⟩, ⟨by (with_reducible repeat (first | apply Kd.R_alloc | apply Kd.R_drewN | apply Kd.R_drew)); exact HR.out⟩, ⟨(by repeat (first | (with_reducible first | exact HB.out | apply below_alloc | apply pw_below_drewN | apply below_drew1) | exact HB.out))⟩⟩
end Go.Proofs.Ytlmpecahmmgphaa.Lay
