/- A contract of layout.fits: whether a choice fits. Conditions: the choice is as long as the pieces, at most 20000; each branch's target is a piece's place. -/
import Derived.Test.YtlmpecahmmgphaaLayClone
namespace Go.Proofs.Ytlmpecahmmgphaa.Lay
open Go.RowKit Go.Proofs.Ytlmpecahmmgphaa.XLay Go.Proofs.YtlmpecahmmgphaaW.PrintWords Go.Proofs.YtlmpecahmmgphaaW.PrintLast Go.Proofs.YtlmpecahmmgphaaW.PrintMore
set_option linter.unusedVariables false
set_option linter.unusedSimpArgs false
/-- Whether a branch's distance fits. -/
def reachP (at_ : List Int) (t o : Int) (i : Nat) (bits : Int) : Bool := (field_Fits.f (wrap64 (wrap64 (rd at_ t + o) - rd at_ ((i : Int) + 1))) bits).getD false
theorem fits8 (O : Int) : ∃ b, field_Fits.f O 8 = some b := by
  have h : field_bits.f 8 = some true := by decide
  unfold field_Fits.f field_Sign.f
  rw [h]
  simp only [Option.bind_some, if_true]
  rw [if_pos (show 0 ≤ wrap64 (64 - 8) by unfold wrap64; omega)]
  exact ⟨_, rfl⟩
theorem fits32' (O : Int) : ∃ b, field_Fits.f O 32 = some b := by
  rcases fits32 O with h | h
  · exact ⟨_, h⟩
  · exact ⟨_, h⟩
theorem fits_some (O bits : Int) (hb : bits = 8 ∨ bits = 32) : field_Fits.f O bits = some ((field_Fits.f O bits).getD false) := by
  rcases hb with rfl | rfl
  · obtain ⟨b, e⟩ := fits8 O; rw [e]; rfl
  · obtain ⟨b, e⟩ := fits32' O; rw [e]; rfl
theorem reach_some (s n t o : Int) (at_ : List Int) (i : Nat) (bits : Int) (h0 : 0 ≤ t) (h1 : t < at_.length) (hi : i + 1 < at_.length) (hb : bits = 8 ∨ bits = 32) (hsz : at_.length ≤ 20001) : layout_reach.f s n t o at_ (i : Int) bits = some (reachP at_ t o i bits) := by
  have e : wrap64 ((i : Int) + 1) = (i : Int) + 1 := by unfold wrap64; omega
  unfold layout_reach.f reachP
  rw [if_pos h0, if_pos h1, e, if_pos (by omega), if_pos (by omega), fits_some _ _ hb]
  rfl
/-- Whether a piece fits with a choice. -/
def fitP (at_ : List Int) (v : PV) (nb : Bool) (i : Nat) : Bool := match v with
  | .br _ _ t o => reachP at_ t o i (if nb then 32 else 8)
  | _ => true
def fitsL (ps : List PV) (near : List Bool) (at_ : List Int) : Nat → Bool
  | 0 => true
  | i + 1 => fitsL ps near at_ i && fitP at_ (ps.getD i (.fix 0)) (near.getD i false) i
theorem fitsL_succ (ps : List PV) (near : List Bool) (at_ : List Int) (i : Nat) : fitsL ps near at_ (i + 1) = (fitsL ps near at_ i && fitP at_ (ps.getD i (.fix 0)) (near.getD i false) i) := rfl
theorem fitsL_false (ps : List PV) (near : List Bool) (at_ : List Int) (i j : Nat) (h : fitsL ps near at_ i = false) : fitsL ps near at_ (i + j) = false := by
  induction j with
  | zero => exact h
  | succ j ih => rw [← Nat.add_assoc, fitsL_succ, ih]; rfl
/-- Whether a choice fits. -/
def fitsP (ps : List PV) (o : Int) (near : List Bool) : Bool := fitsL ps near (lieL ps near o ps.length) ps.length
def OkT (ps : List PV) : Prop := ∀ (i : Nat) (s n t o : Int), ps.getD i (.fix 0) = .br s n t o → 0 ≤ t ∧ t ≤ ps.length
set_option maxHeartbeats 8000000 in
set_option maxRecDepth 100000 in
theorem fits_calls (A0 : Option Addr) (c0 : Nat) (ps : List PV) (o : Int) (A2 : Option Addr) (c2 : Nat) (l2 : List Bool) (w : World) (hr0 : Kd.C kPV w A0 ps.length ps) (hc0 : ps.length ≤ c0) (hr2 : Kd.C Kd.bool w A2 l2.length l2) (hc2 : l2.length ≤ c2) (h20 : ps.length ≤ 20000) (hl : l2.length = ps.length) (hT : OkT ps) :
    Calls Try.prog 66 #[.slice A0 ps.length c0, .int .i64 o, .slice A2 l2.length c2] w fun e w' => e = .returned (.bool (fitsP ps o l2)) ∧ Below w.heap.size w w' := by
  have HR0 := Aside0.mk hr0
  have HR2 := Aside0.mk hr2
  have HC0 := Aside0.mk hc0
  have HC2 := Aside0.mk hc2
  have HT := Aside0.mk hT
  have HL := Aside0.mk hl
  have HB := Aside0.mk (Below.refl w.heap.size w)
  clear hr0 hr2 hT hc0 hc2 hl
  obtain ⟨at_, hat_⟩ : ∃ x, x = lieL ps l2 o ps.length := ⟨_, rfl⟩
  have hatl : at_.length = ps.length + 1 := by rw [hat_, lieL_len]
  have HAT := Aside0.mk hat_
  have HATL := Aside0.mk hatl
  have HF : Aside0 (fitsP ps o l2 = fitsL ps l2 at_ ps.length) := ⟨by rw [hat_]; rfl⟩
  clear hat_ hatl
  go_enter Try.func66, Try.ntmps66
  go_wp2_with (first | ((with_reducible refine gate_callee (f := 62) rfl ?_); refine goesL_ (some 16) rfl rfl Try.func62 (by kernel_rfl) rfl #[.slice A0 ps.length c0, .int .i64 o, .slice A2 l2.length c2] rfl (by (try simp only [List.map_toArray, List.map_cons, List.map_nil]); first | done | rfl) ?_; (with_reducible refine (lie_calls A0 c0 ps o A2 c2 l2 _ ?side1 ?side2 ?side3 ?side4 ?side5 ?side6).mono ?_); (case side1 => exact Kd.C_below HR0.out HB.out); (case side2 => exact HC0.out); (case side3 => exact Kd.C_below HR2.out HB.out); (case side4 => exact HC2.out); (case side5 => exact h20); (case side6 => exact HL.out); rintro e w16 ⟨v16_, rfl, ho, hb⟩; refine ⟨_, rfl, ?_⟩; have HR := Aside0.mk (show Kd.R (Kd.int .i64) 3 w16 w.heap.size (fun _ => True) v16_ at_ from by rw [HAT.out]; exact Kd.R_lower ho (below_size (by repeat (first | (with_reducible first | exact HB.out | apply below_alloc | apply pw_below_drewN | apply below_drew1) | exact HB.out)))); have n0_ := Aside0.mk (below_step (by repeat (first | (with_reducible first | exact HB.out | apply below_alloc | apply pw_below_drewN | apply below_drew1) | exact HB.out)) hb); clear HB; have HB := n0_; clear n0_; clear hb ho))
  obtain ⟨A7, c7_, rfl, hC7⟩ := row64 HR.out
  have HC7 := Aside0.mk hC7
  clear hC7
  have HL7 : Aside0 (at_.length ≤ c7_) := ⟨(Kd.R_reads' HR.out).2.1⟩
  go_loopg [19] ps.length (fun g v19 wx => ∃ (i : Nat), v19 = .int .i64 (i : Int) ∧ i + g = ps.length ∧ Aside0 (fitsL ps l2 at_ i = true) ∧ Aside0 (Kd.C (Kd.int .i64) wx A7 at_.length at_) ∧ Aside0 (Below w.heap.size w wx))
  case atStart => exact ⟨0, rfl, by omega, ⟨rfl⟩, ⟨HC7.out⟩, ⟨(by repeat (first | (with_reducible first | exact HB.out | apply below_alloc | apply pw_below_drewN | apply below_drew1) | exact HB.out))⟩⟩
  case round =>
    try clear HB HR HC7
    obtain ⟨i, rfl, hi, HFI, HC7, HB⟩ := hrel
    cases gk with
    | zero =>
      have hlt : ¬ ((i : Int) < (ps.length : Int)) := by omega
      have hlt2 : ¬ (i < ps.length) := by omega
      go_wp2
      go_ret
      have e : i = ps.length := by omega
      subst e
      exact ⟨by rw [HF.out, HFI.out]; rfl, (by repeat (first | (with_reducible first | exact HB.out | apply below_alloc | apply pw_below_drewN | apply below_drew1) | exact HB.out))⟩
    | succ k1 =>
      have hlt : (i : Int) < (ps.length : Int) := by omega
      have hlt2 : i < ps.length := by omega
      have h0i : (0 : Int) ≤ (i : Int) := by omega
      have hl2 : (i : Int) < (l2.length : Int) := by have := HL.out; omega
      have HS := Aside0.mk (fitsL_succ ps l2 at_ i)
      obtain ⟨ad0, e0, hx⟩ := at_pv HR0.out (i : Int) h0i hlt
      cases e0
      replace hx := (HB.out.cell (World.block_lt_of_cell? w _ hx)).trans hx
      have hnb0 := Kd.at_bool HR2.out (i : Int) h0i (by omega)
      obtain ⟨ad2, e2, hn0⟩ := hnb0
      cases e2
      replace hn0 := (HB.out.cell (World.block_lt_of_cell? w _ hn0)).trans hn0
      simp only [Int.toNat_natCast] at hx hn0
      cases hnb : l2.getD i false with
      | true =>
        have hn1 : rdOf false l2 (i : Int) = true := hnb
        rw [hn1] at hn0
        have HNB := Aside0.mk hnb
        clear hnb hn1
        cases hv0 : ps.getD i (.fix 0) with
        | fix z =>
          rw [hv0] at hx
          have hv := Aside0.mk hv0
          clear hv0
          replace hx : wr.cell? (ad0.add i) = some (.iface 93 (.agg #[.int .i64 z])) := hx
          have ta82 : ∀ w : World, (Instr.typeAssert (.iface 93 (.agg #[.int .i64 z])) 80 82 true).run Try.prog w = .ok (.tuple #[.agg #[.int .i64 0, .int .i64 0, .int .i64 0, .int .i64 0], .bool false]) w := fun _ => by kernel_rfl
          go_wp2
          go_roundg k1
          case measure => omega
          case rel =>
            refine ⟨i + 1, by first | rfl | (simp; done) | (simp [*]; done), by omega, ⟨?_⟩, ⟨?_⟩, ⟨(by repeat (first | (with_reducible first | exact HB.out | apply below_alloc | apply pw_below_drewN | apply below_drew1) | exact HB.out))⟩⟩
            · rw [HS.out, HFI.out, hv.out]; rfl
            · repeat (first | exact HC7.out | (with_reducible refine Kd.C_alloc ?_ _) | (with_reducible refine Kd.C_drewN ?_ _) | (with_reducible refine Kd.C_drew ?_))
        | al n_ =>
          rw [hv0] at hx
          have hv := Aside0.mk hv0
          clear hv0
          replace hx : wr.cell? (ad0.add i) = some (.iface 95 (.agg #[.int .i64 n_])) := hx
          have ta82 : ∀ w : World, (Instr.typeAssert (.iface 95 (.agg #[.int .i64 n_])) 80 82 true).run Try.prog w = .ok (.tuple #[.agg #[.int .i64 0, .int .i64 0, .int .i64 0, .int .i64 0], .bool false]) w := fun _ => by kernel_rfl
          go_wp2
          go_roundg k1
          case measure => omega
          case rel =>
            refine ⟨i + 1, by first | rfl | (simp; done) | (simp [*]; done), by omega, ⟨?_⟩, ⟨?_⟩, ⟨(by repeat (first | (with_reducible first | exact HB.out | apply below_alloc | apply pw_below_drewN | apply below_drew1) | exact HB.out))⟩⟩
            · rw [HS.out, HFI.out, hv.out]; rfl
            · repeat (first | exact HC7.out | (with_reducible refine Kd.C_alloc ?_ _) | (with_reducible refine Kd.C_drewN ?_ _) | (with_reducible refine Kd.C_drew ?_))
        | br s n_ t o_ =>
          rw [hv0] at hx
          have HTT := Aside0.mk (HT.out i _ _ _ _ hv0)
          have hv := Aside0.mk hv0
          clear hv0
          replace hx : wr.cell? (ad0.add i) = some (.iface 82 (.agg #[.int .i64 s, .int .i64 n_, .int .i64 t, .int .i64 o_])) := hx
          have ta82 : ∀ w : World, (Instr.typeAssert (.iface 82 (.agg #[.int .i64 s, .int .i64 n_, .int .i64 t, .int .i64 o_])) 80 82 true).run Try.prog w = .ok (.tuple #[.agg #[.int .i64 s, .int .i64 n_, .int .i64 t, .int .i64 o_], .bool true]) w := fun _ => by kernel_rfl
          have HQ := Aside0.mk (reach_some s n_ t o_ at_ i 32 HTT.out.1 (by have := HTT.out.2; have := HATL.out; omega) (by have := HATL.out; omega) (by decide) (by have := HATL.out; omega))
          have HFP : Aside0 (fitP at_ (ps.getD i (.fix 0)) (l2.getD i false) i = reachP at_ t o_ i 32) := ⟨by rw [hv.out, HNB.out]; rfl⟩
          cases hq : reachP at_ t o_ i 32 with
          | true =>
            rw [hq] at HQ HFP
            clear hq
            go_wp2_with (first | (go_at_call 64; (with_reducible refine (layout_reach.calls s n_ t o_ A7 c7_ at_ (i : Int) 32 true _ ?sd1 ?sd2 HQ.out).mono ?_); (case sd1 => repeat (first | exact HC7.out | (with_reducible refine Kd.C_alloc ?_ _) | (with_reducible refine Kd.C_drewN ?_ _) | (with_reducible refine Kd.C_drew ?_))); (case sd2 => exact HL7.out); rintro e w39 ⟨rfl, hb⟩; have n0_ := Aside0.mk (below_step (by repeat (first | (with_reducible first | exact HB.out | apply below_alloc | apply pw_below_drewN | apply below_drew1) | exact HB.out)) hb); have n1_ := Aside0.mk (Kd.C_below (show Kd.C (Kd.int .i64) _ A7 at_.length at_ from by repeat (first | exact HC7.out | (with_reducible refine Kd.C_alloc ?_ _) | (with_reducible refine Kd.C_drewN ?_ _) | (with_reducible refine Kd.C_drew ?_))) hb); clear HB; have HB := n0_; clear n0_; clear HC7; have HC7 := n1_; clear n1_; clear hb))
            go_roundg k1
            case measure => omega
            case rel =>
              refine ⟨i + 1, by first | rfl | (simp; done) | (simp [*]; done), by omega, ⟨?_⟩, ⟨?_⟩, ⟨(by repeat (first | (with_reducible first | exact HB.out | apply below_alloc | apply pw_below_drewN | apply below_drew1) | exact HB.out))⟩⟩
              · rw [HS.out, HFI.out, HFP.out]; rfl
              · repeat (first | exact HC7.out | (with_reducible refine Kd.C_alloc ?_ _) | (with_reducible refine Kd.C_drewN ?_ _) | (with_reducible refine Kd.C_drew ?_))
          | false =>
            rw [hq] at HQ HFP
            clear hq
            go_wp2_with (first | (go_at_call 64; (with_reducible refine (layout_reach.calls s n_ t o_ A7 c7_ at_ (i : Int) 32 false _ ?sd1 ?sd2 HQ.out).mono ?_); (case sd1 => repeat (first | exact HC7.out | (with_reducible refine Kd.C_alloc ?_ _) | (with_reducible refine Kd.C_drewN ?_ _) | (with_reducible refine Kd.C_drew ?_))); (case sd2 => exact HL7.out); rintro e w39 ⟨rfl, hb⟩; have n0_ := Aside0.mk (below_step (by repeat (first | (with_reducible first | exact HB.out | apply below_alloc | apply pw_below_drewN | apply below_drew1) | exact HB.out)) hb); have n1_ := Aside0.mk (Kd.C_below (show Kd.C (Kd.int .i64) _ A7 at_.length at_ from by repeat (first | exact HC7.out | (with_reducible refine Kd.C_alloc ?_ _) | (with_reducible refine Kd.C_drewN ?_ _) | (with_reducible refine Kd.C_drew ?_))) hb); clear HB; have HB := n0_; clear n0_; clear HC7; have HC7 := n1_; clear n1_; clear hb))
            go_ret
            have e1 : fitsL ps l2 at_ (i + 1) = false := by rw [HS.out, HFP.out, Bool.and_false]
            have e2 := fitsL_false ps l2 at_ (i + 1) (ps.length - (i + 1)) e1
            rw [show i + 1 + (ps.length - (i + 1)) = ps.length by omega] at e2
            exact ⟨by rw [HF.out, e2]; rfl, (by repeat (first | (with_reducible first | exact HB.out | apply below_alloc | apply pw_below_drewN | apply below_drew1) | exact HB.out))⟩
      | false =>
        have hn1 : rdOf false l2 (i : Int) = false := hnb
        rw [hn1] at hn0
        have HNB := Aside0.mk hnb
        clear hnb hn1
        cases hv0 : ps.getD i (.fix 0) with
        | fix z =>
          rw [hv0] at hx
          have hv := Aside0.mk hv0
          clear hv0
          replace hx : wr.cell? (ad0.add i) = some (.iface 93 (.agg #[.int .i64 z])) := hx
          have ta82 : ∀ w : World, (Instr.typeAssert (.iface 93 (.agg #[.int .i64 z])) 80 82 true).run Try.prog w = .ok (.tuple #[.agg #[.int .i64 0, .int .i64 0, .int .i64 0, .int .i64 0], .bool false]) w := fun _ => by kernel_rfl
          go_wp2
          go_roundg k1
          case measure => omega
          case rel =>
            refine ⟨i + 1, by first | rfl | (simp; done) | (simp [*]; done), by omega, ⟨?_⟩, ⟨?_⟩, ⟨(by repeat (first | (with_reducible first | exact HB.out | apply below_alloc | apply pw_below_drewN | apply below_drew1) | exact HB.out))⟩⟩
            · rw [HS.out, HFI.out, hv.out]; rfl
            · repeat (first | exact HC7.out | (with_reducible refine Kd.C_alloc ?_ _) | (with_reducible refine Kd.C_drewN ?_ _) | (with_reducible refine Kd.C_drew ?_))
        | al n_ =>
          rw [hv0] at hx
          have hv := Aside0.mk hv0
          clear hv0
          replace hx : wr.cell? (ad0.add i) = some (.iface 95 (.agg #[.int .i64 n_])) := hx
          have ta82 : ∀ w : World, (Instr.typeAssert (.iface 95 (.agg #[.int .i64 n_])) 80 82 true).run Try.prog w = .ok (.tuple #[.agg #[.int .i64 0, .int .i64 0, .int .i64 0, .int .i64 0], .bool false]) w := fun _ => by kernel_rfl
          go_wp2
          go_roundg k1
          case measure => omega
          case rel =>
            refine ⟨i + 1, by first | rfl | (simp; done) | (simp [*]; done), by omega, ⟨?_⟩, ⟨?_⟩, ⟨(by repeat (first | (with_reducible first | exact HB.out | apply below_alloc | apply pw_below_drewN | apply below_drew1) | exact HB.out))⟩⟩
            · rw [HS.out, HFI.out, hv.out]; rfl
            · repeat (first | exact HC7.out | (with_reducible refine Kd.C_alloc ?_ _) | (with_reducible refine Kd.C_drewN ?_ _) | (with_reducible refine Kd.C_drew ?_))
        | br s n_ t o_ =>
          rw [hv0] at hx
          have HTT := Aside0.mk (HT.out i _ _ _ _ hv0)
          have hv := Aside0.mk hv0
          clear hv0
          replace hx : wr.cell? (ad0.add i) = some (.iface 82 (.agg #[.int .i64 s, .int .i64 n_, .int .i64 t, .int .i64 o_])) := hx
          have ta82 : ∀ w : World, (Instr.typeAssert (.iface 82 (.agg #[.int .i64 s, .int .i64 n_, .int .i64 t, .int .i64 o_])) 80 82 true).run Try.prog w = .ok (.tuple #[.agg #[.int .i64 s, .int .i64 n_, .int .i64 t, .int .i64 o_], .bool true]) w := fun _ => by kernel_rfl
          have HQ := Aside0.mk (reach_some s n_ t o_ at_ i 8 HTT.out.1 (by have := HTT.out.2; have := HATL.out; omega) (by have := HATL.out; omega) (by decide) (by have := HATL.out; omega))
          have HFP : Aside0 (fitP at_ (ps.getD i (.fix 0)) (l2.getD i false) i = reachP at_ t o_ i 8) := ⟨by rw [hv.out, HNB.out]; rfl⟩
          cases hq : reachP at_ t o_ i 8 with
          | true =>
            rw [hq] at HQ HFP
            clear hq
            go_wp2_with (first | (go_at_call 64; (with_reducible refine (layout_reach.calls s n_ t o_ A7 c7_ at_ (i : Int) 8 true _ ?sd1 ?sd2 HQ.out).mono ?_); (case sd1 => repeat (first | exact HC7.out | (with_reducible refine Kd.C_alloc ?_ _) | (with_reducible refine Kd.C_drewN ?_ _) | (with_reducible refine Kd.C_drew ?_))); (case sd2 => exact HL7.out); rintro e w39 ⟨rfl, hb⟩; have n0_ := Aside0.mk (below_step (by repeat (first | (with_reducible first | exact HB.out | apply below_alloc | apply pw_below_drewN | apply below_drew1) | exact HB.out)) hb); have n1_ := Aside0.mk (Kd.C_below (show Kd.C (Kd.int .i64) _ A7 at_.length at_ from by repeat (first | exact HC7.out | (with_reducible refine Kd.C_alloc ?_ _) | (with_reducible refine Kd.C_drewN ?_ _) | (with_reducible refine Kd.C_drew ?_))) hb); clear HB; have HB := n0_; clear n0_; clear HC7; have HC7 := n1_; clear n1_; clear hb))
            go_roundg k1
            case measure => omega
            case rel =>
              refine ⟨i + 1, by first | rfl | (simp; done) | (simp [*]; done), by omega, ⟨?_⟩, ⟨?_⟩, ⟨(by repeat (first | (with_reducible first | exact HB.out | apply below_alloc | apply pw_below_drewN | apply below_drew1) | exact HB.out))⟩⟩
              · rw [HS.out, HFI.out, HFP.out]; rfl
              · repeat (first | exact HC7.out | (with_reducible refine Kd.C_alloc ?_ _) | (with_reducible refine Kd.C_drewN ?_ _) | (with_reducible refine Kd.C_drew ?_))
          | false =>
            rw [hq] at HQ HFP
            clear hq
            go_wp2_with (first | (go_at_call 64; (with_reducible refine (layout_reach.calls s n_ t o_ A7 c7_ at_ (i : Int) 8 false _ ?sd1 ?sd2 HQ.out).mono ?_); (case sd1 => repeat (first | exact HC7.out | (with_reducible refine Kd.C_alloc ?_ _) | (with_reducible refine Kd.C_drewN ?_ _) | (with_reducible refine Kd.C_drew ?_))); (case sd2 => exact HL7.out); rintro e w39 ⟨rfl, hb⟩; have n0_ := Aside0.mk (below_step (by repeat (first | (with_reducible first | exact HB.out | apply below_alloc | apply pw_below_drewN | apply below_drew1) | exact HB.out)) hb); have n1_ := Aside0.mk (Kd.C_below (show Kd.C (Kd.int .i64) _ A7 at_.length at_ from by repeat (first | exact HC7.out | (with_reducible refine Kd.C_alloc ?_ _) | (with_reducible refine Kd.C_drewN ?_ _) | (with_reducible refine Kd.C_drew ?_))) hb); clear HB; have HB := n0_; clear n0_; clear HC7; have HC7 := n1_; clear n1_; clear hb))
            go_ret
            have e1 : fitsL ps l2 at_ (i + 1) = false := by rw [HS.out, HFP.out, Bool.and_false]
            have e2 := fitsL_false ps l2 at_ (i + 1) (ps.length - (i + 1)) e1
            rw [show i + 1 + (ps.length - (i + 1)) = ps.length by omega] at e2
            exact ⟨by rw [HF.out, e2]; rfl, (by repeat (first | (with_reducible first | exact HB.out | apply below_alloc | apply pw_below_drewN | apply below_drew1) | exact HB.out))⟩
end Go.Proofs.Ytlmpecahmmgphaa.Lay
