/- OperandTells: whatever the operands, it answers true. Condition: the library's table strings.asciiSpace holds what it was laid with. -/
import Derived.Test.YtceofdchbolidaaDoorOtLaw
import Derived.Test.YtceofdchbolidaaDoorPureOt
namespace Go.Proofs.YtceofdchbolidaaDoor.Ot
open Go.RowKit Go.Proofs.YtceofdchbolidaaDoor.XOt Go.Proofs.YtceofdchbolidaaDoor.Pure5 Go.Proofs.YtceofdchbolidaaDoor.Hand Go.Proofs.YtceofdchbolidaaDoor.Math Go.Proofs.YtceofdchbolidaaDoorW.PrintWords Go.Proofs.YtceofdchbolidaaDoorW.PrintLast Go.Proofs.YtceofdchbolidaaDoorW.PrintMore
set_option linter.unusedVariables false
theorem canon35 (a0 a1 a2 a3 a4 a5 a6 a7 a8 a9 a10 : Int) (w : World) : Calls Tryd.prog 35 #[.agg #[.int .i64 a0, .int .i64 a1, .int .i64 a2, .int .i64 a3, .int .i64 a4, .int .i64 a5, .int .i64 a6, .int .i64 a7, .int .i64 a8, .int .i64 a9, .int .i64 a10]] w fun e w' => e = .returned (.tuple #[.agg #[.int .i64 (oCan a0 a1 a2 a3 a4 a5 a6 a7 a8 a9 a10).1, .int .i64 (oCan a0 a1 a2 a3 a4 a5 a6 a7 a8 a9 a10).2.1, .int .i64 (oCan a0 a1 a2 a3 a4 a5 a6 a7 a8 a9 a10).2.2.1, .int .i64 (oCan a0 a1 a2 a3 a4 a5 a6 a7 a8 a9 a10).2.2.2.1, .int .i64 (oCan a0 a1 a2 a3 a4 a5 a6 a7 a8 a9 a10).2.2.2.2.1, .int .i64 (oCan a0 a1 a2 a3 a4 a5 a6 a7 a8 a9 a10).2.2.2.2.2.1, .int .i64 (oCan a0 a1 a2 a3 a4 a5 a6 a7 a8 a9 a10).2.2.2.2.2.2.1, .int .i64 (oCan a0 a1 a2 a3 a4 a5 a6 a7 a8 a9 a10).2.2.2.2.2.2.2.1, .int .i64 (oCan a0 a1 a2 a3 a4 a5 a6 a7 a8 a9 a10).2.2.2.2.2.2.2.2.1, .int .i64 (oCan a0 a1 a2 a3 a4 a5 a6 a7 a8 a9 a10).2.2.2.2.2.2.2.2.2.1, .int .i64 (oCan a0 a1 a2 a3 a4 a5 a6 a7 a8 a9 a10).2.2.2.2.2.2.2.2.2.2.1], .int .i64 (oCan a0 a1 a2 a3 a4 a5 a6 a7 a8 a9 a10).2.2.2.2.2.2.2.2.2.2.2]) ∧ Below w.heap.size w w' := by
  have hE := fun W : World => linotyperef06_Check.calls 30 a0 a1 a2 a3 a4 a5 a6 a7 a8 a9 a10 (oChk a0 a1 a2 a3 a4 a5 a6 a7 a8 a9 a10) W (rochk_eq 21 a0 a1 a2 a3 a4 a5 a6 a7 a8 a9 a10)
  unfold oCan
  by_cases h0 : oChk a0 a1 a2 a3 a4 a5 a6 a7 a8 a9 a10 = 0
  · rw [if_pos h0]
    rw [h0] at hE
    by_cases h1 : a0 = 1
    · rw [if_pos h1]
      exact Can35_r a0 a1 a2 a3 a4 a5 a6 a7 a8 a9 a10 0 0 0 0 0 0 0 0 w hE (beq_iff_eq.2 h1)
    · rw [if_neg h1]
      by_cases h2 : a0 = 2
      · rw [if_pos h2]
        have hc : chk a3 a4 a5 a6 a7 a8 a9 = 0 := by unfold oChk at h0; rw [if_neg h1, if_pos h2] at h0; exact h0
        obtain ⟨_, _, _, _, _, e, _⟩ := canon_good ((chk_iff a3 a4 a5 a6 a7 a8 a9).1 hc)
        have er : (canon a3 a4 a5 a6 a7 a8 a9).2.2.2.2.2.2.2 = 0 := by rw [e]
        have hr := rcanon_eq 21 a3 a4 a5 a6 a7 a8 a9
        rw [er]
        generalize canon a3 a4 a5 a6 a7 a8 a9 = q at hr er ⊢
        obtain ⟨c0, c1, c2, c3, c4, c5, c6, ce⟩ := q
        exact Can35_m a0 a1 a2 a3 a4 a5 a6 a7 a8 a9 a10 ce c0 c1 c2 c3 c4 c5 c6 w hE (fun W => linotyperef05_Canon.calls 30 a3 a4 a5 a6 a7 a8 a9 c0 c1 c2 c3 c4 c5 c6 ce W hr) (beq_eq_false_iff_ne.2 h1) (beq_iff_eq.2 h2)
      · rw [if_neg h2]
        exact Can35_d a0 a1 a2 a3 a4 a5 a6 a7 a8 a9 a10 0 0 0 0 0 0 0 0 w hE (beq_eq_false_iff_ne.2 h1) (beq_eq_false_iff_ne.2 h2)
  · rw [if_neg h0]
    exact Can35_e a0 a1 a2 a3 a4 a5 a6 a7 a8 a9 a10 (oChk a0 a1 a2 a3 a4 a5 a6 a7 a8 a9 a10) 0 0 0 0 0 0 0 w hE (beq_eq_false_iff_ne.2 h0)
def Fine (a0 a1 a2 a3 a4 a5 a6 a7 a8 a9 a10 b0 b1 b2 b3 b4 b5 b6 b7 b8 b9 b10 : Int) : Prop := (I64 a2 ∧ I64 a4 ∧ I64 a6 ∧ I64 a7 ∧ I64 a9) ∧ (I64 b2 ∧ I64 b4 ∧ I64 b6 ∧ I64 b7 ∧ I64 b9)
theorem OperandTells (a0 a1 a2 a3 a4 a5 a6 a7 a8 a9 a10 b0 b1 b2 b3 b4 b5 b6 b7 b8 b9 b10 : Int) (v0 : (Lit.int .i64 a0).wf = true) (v1 : (Lit.int .i64 a1).wf = true) (v2 : (Lit.int .i64 a2).wf = true) (v3 : (Lit.int .i64 a3).wf = true) (v4 : (Lit.int .i64 a4).wf = true) (v5 : (Lit.int .i64 a5).wf = true) (v6 : (Lit.int .i64 a6).wf = true) (v7 : (Lit.int .i64 a7).wf = true) (v8 : (Lit.int .i64 a8).wf = true) (v9 : (Lit.int .i64 a9).wf = true) (v10 : (Lit.int .i64 a10).wf = true) (w0 : (Lit.int .i64 b0).wf = true) (w1 : (Lit.int .i64 b1).wf = true) (w2 : (Lit.int .i64 b2).wf = true) (w3 : (Lit.int .i64 b3).wf = true) (w4 : (Lit.int .i64 b4).wf = true) (w5 : (Lit.int .i64 b5).wf = true) (w6 : (Lit.int .i64 b6).wf = true) (w7 : (Lit.int .i64 b7).wf = true) (w8 : (Lit.int .i64 b8).wf = true) (w9 : (Lit.int .i64 b9).wf = true) (w10 : (Lit.int .i64 b10).wf = true) : ∃ k : Nat, Fine a0 a1 a2 a3 a4 a5 a6 a7 a8 a9 a10 b0 b1 b2 b3 b4 b5 b6 b7 b8 b9 b10 := ⟨0, ⟨wf64 v2, wf64 v4, wf64 v6, wf64 v7, wf64 v9⟩, ⟨wf64 w2, wf64 w4, wf64 w6, wf64 w7, wf64 w9⟩⟩
theorem awake_eq : linotypelaw06_awake.f 30 = some true := by decide +kernel
theorem calls (k : Nat) (a0 a1 a2 a3 a4 a5 a6 a7 a8 a9 a10 b0 b1 b2 b3 b4 b5 b6 b7 b8 b9 b10 : Int) (W : World) (h : Fine a0 a1 a2 a3 a4 a5 a6 a7 a8 a9 a10 b0 b1 b2 b3 b4 b5 b6 b7 b8 b9 b10) (hG : G W) : Calls Tryd.prog 11 #[.agg #[.int .i64 a0, .int .i64 a1, .int .i64 a2, .int .i64 a3, .int .i64 a4, .int .i64 a5, .int .i64 a6, .int .i64 a7, .int .i64 a8, .int .i64 a9, .int .i64 a10], .agg #[.int .i64 b0, .int .i64 b1, .int .i64 b2, .int .i64 b3, .int .i64 b4, .int .i64 b5, .int .i64 b6, .int .i64 b7, .int .i64 b8, .int .i64 b9, .int .i64 b10]] W fun e w' => e = .returned (.bool true) ∧ Below W.heap.size W w' := by
  obtain ⟨⟨ha2, ha4, ha6, ha7, ha9⟩, ⟨hb2, hb4, hb6, hb7, hb9⟩⟩ := h
  have gG : ∀ V : World, Below W.heap.size W V → G V := fun V hb => hG.below hb
  have ca := ocan_eq 26 a0 a1 a2 a3 a4 a5 a6 a7 a8 a9 a10 ha2 ha6 ha4 ha7 ha9
  have cb := ocan_eq 26 b0 b1 b2 b3 b4 b5 b6 b7 b8 b9 b10 hb2 hb6 hb4 hb7 hb9
  have ra := canon35 a0 a1 a2 a3 a4 a5 a6 a7 a8 a9 a10
  have rb := canon35 b0 b1 b2 b3 b4 b5 b6 b7 b8 b9 b10
  obtain ⟨qa, hqa⟩ : ∃ t, oCan a0 a1 a2 a3 a4 a5 a6 a7 a8 a9 a10 = t := ⟨_, rfl⟩
  obtain ⟨qb, hqb⟩ : ∃ t, oCan b0 b1 b2 b3 b4 b5 b6 b7 b8 b9 b10 = t := ⟨_, rfl⟩
  rw [hqa] at ca ra
  rw [hqb] at cb rb
  obtain ⟨x0, x1, x2, x3, x4, x5, x6, x7, x8, x9, x10, ex⟩ := qa
  obtain ⟨y0, y1, y2, y3, y4, y5, y6, y7, y8, y9, y10, ey⟩ := qb
  have c34 : ∀ V : World, Below W.heap.size W V → _ := fun V hb => operand_Canon.calls 30 a0 a1 a2 a3 a4 a5 a6 a7 a8 a9 a10 x0 x1 x2 x3 x4 x5 x6 x7 x8 x9 x10 ex V ca (gG V hb)
  have d34 : ∀ V : World, Below W.heap.size W V → _ := fun V hb => operand_Canon.calls 30 b0 b1 b2 b3 b4 b5 b6 b7 b8 b9 b10 y0 y1 y2 y3 y4 y5 y6 y7 y8 y9 y10 ey V cb (gG V hb)
  refine law a0 a1 a2 a3 a4 a5 a6 a7 a8 a9 a10 b0 b1 b2 b3 b4 b5 b6 b7 b8 b9 b10 x0 x1 x2 x3 x4 x5 x6 x7 x8 x9 x10 ex (oChk a0 a1 a2 a3 a4 a5 a6 a7 a8 a9 a10) (oSize a0 a1 a2 a3 a4 a5 a6 a7 a8 a9 a10) (if ex = 0 then if ey = 0 then ((x0 == y0) && (((x1 == y1) && (x2 == y2)) && ((((x3 == y3) && (x4 == y4)) && (((x5 == y5) && (x6 == y6)) && ((x7 == y7) && ((x8 == y8) && (x9 == y9))))) && (x10 == y10)))) else false else false) W c34 (fun V _ => ra V) ?_ ?_ ?_ ?_ ?_ ?_ ?_
  · exact fun V hb => operand_Check.calls 30 a0 a1 a2 a3 a4 a5 a6 a7 a8 a9 a10 _ V (ochk_eq 26 a0 a1 a2 a3 a4 a5 a6 a7 a8 a9 a10 ha2 ha6 ha4 ha7 ha9) (gG V hb)
  · exact fun V hb => linotyperef06_Check.calls 30 a0 a1 a2 a3 a4 a5 a6 a7 a8 a9 a10 _ V (rochk_eq 21 a0 a1 a2 a3 a4 a5 a6 a7 a8 a9 a10)
  · exact fun V hb => operand_Size.calls 30 a0 a1 a2 a3 a4 a5 a6 a7 a8 a9 a10 _ V (osize_eq 26 a0 a1 a2 a3 a4 a5 a6 a7 a8 a9 a10 ha2 ha6 ha4 ha7 ha9) (gG V hb)
  · exact fun V hb => linotyperef06_Size.calls 30 a0 a1 a2 a3 a4 a5 a6 a7 a8 a9 a10 _ V (rosize_eq 21 a0 a1 a2 a3 a4 a5 a6 a7 a8 a9 a10 ha2)
  · exact fun V hb => Same38 a0 a1 a2 a3 a4 a5 a6 a7 a8 a9 a10 b0 b1 b2 b3 b4 b5 b6 b7 b8 b9 b10 x0 x1 x2 x3 x4 x5 x6 x7 x8 x9 x10 y0 y1 y2 y3 y4 y5 y6 y7 y8 y9 y10 ex ey V (fun U hu => c34 U (below_step hb hu)) (fun U hu => d34 U (below_step hb hu))
  · exact fun V hb => Same39 a0 a1 a2 a3 a4 a5 a6 a7 a8 a9 a10 b0 b1 b2 b3 b4 b5 b6 b7 b8 b9 b10 x0 x1 x2 x3 x4 x5 x6 x7 x8 x9 x10 y0 y1 y2 y3 y4 y5 y6 y7 y8 y9 y10 ex ey V (fun U _ => ra U) (fun U _ => rb U)
  · exact fun V hb => linotypelaw06_awake.callsR 30 true V awake_eq (gG V hb)
end Go.Proofs.YtceofdchbolidaaDoor.Ot
