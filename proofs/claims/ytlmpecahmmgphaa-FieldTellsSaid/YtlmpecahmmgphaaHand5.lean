/- An append of one byte to a row of the call's own, as a law of the walk: the row stays one of bytes, its room too. No conditions. -/
import Derived.Test.YtlmpecahmmgphaaHand4
namespace Go.Proofs.Ytlmpecahmmgphaa.Hand
open Go.RowKit Go.Proofs.YtlmpecahmmgphaaW.PrintWords
set_option linter.unusedVariables false
theorem cell_row {w : World} {g : Nat} {cs : Array Value} {t : TypeId} (h : w.heap[g]? = some (.cells cs t (0, 0))) (j : Nat) : w.cell? ⟨g, j, none⟩ = cs[j]? := by simp [World.cell?, h]
theorem R_append_typed {P : Program} {ops : Array Oper} {rest : List Oper} {o : Oper} {a : Act} {Q : Exit → Act → World → Prop} {w0 W : World} (base : Nat) (hgd : o.guard = none) (s x : Operand) (t : TypeId)
    (ho : o.op = .call { callee := .builtin .append, args := #[s, x], argTypes := #[t, t] })
    (ht : P.underlying t = some (.slice 5)) (hinfo : (P.info? 5).map (fun i => (i.zero, i.size, i.bytes)) = some (some (.int .u8 0), 1, 1))
    (v : Value) (xs : List Int) (p : Int) (hs : a.eval s = v) (hx : a.eval x = .slice (some ⟨W.heap.size, 0, none⟩) 1 1)
    (HO : (Kd.int .u8).R 5 W base (fun _ => True) v xs) (hT : Typed W v) (HB : Below base w0 W) (hbase : base ≤ W.heap.size) (hl : xs.length < 140737488355328)
    (h : ∀ v1 w1, (Kd.int .u8).R 5 w1 base (fun _ => True) v1 (xs ++ [p]) → Typed w1 v1 → Below base w0 w1 → wpList P ops Q rest (a.put o.dst v1) w1) :
    wpList P ops Q (o :: rest) a (W.alloc (.cells #[Value.int .u8 p] 5)) := by
  obtain ⟨i, hi, hzz⟩ := Option.map_eq_some_iff.1 hinfo
  simp only [Prod.mk.injEq] at hzz
  obtain ⟨hz, hsz, hby⟩ := hzz
  have own := (Kd.own_of_R (enc := Value.int .u8) (h1 := fun _ => rfl) HO).alloc (.cells #[Value.int .u8 p] 5)
  have hT1 : Typed (W.alloc (.cells #[Value.int .u8 p] 5)) v := hT.below ((Below.refl _ _).alloc (Nat.le_refl _) _)
  have hnews : ∀ j u, [Value.int .u8 p][j]? = some u → (W.alloc (.cells #[Value.int .u8 p] 5)).cell? ((⟨W.heap.size, 0, none⟩ : Addr).add j) = some u := by
    intro j u hj
    rw [add_plain]
    rw [cell_row (alloc_new W (.cells #[Value.int .u8 p] 5)) j, ← hj]
    simp
  have hb1 : base ≤ (W.alloc (.cells #[Value.int .u8 p] 5)).heap.size := by simp; omega
  obtain ⟨v1, w1, r1, o1, g1, _⟩ := run_append_own (P := P) (W.alloc (.cells #[Value.int .u8 p] 5)) base t o.type 5 i (.int .u8 0) 1 1 ht hi hz hsz hby rfl (by decide) v xs.length _ own ⟨W.heap.size, 0, none⟩ 1 1 [Value.int .u8 p] rfl hnews (by intro u hu; simp at hu; subst hu; rfl) (by simp [maxLen]; omega) (by omega) hb1
  obtain ⟨v2, w2, r2, t2⟩ := typed_append (P := P) (W.alloc (.cells #[Value.int .u8 p] 5)) base t o.type i ht hi hz hsz hby v xs.length _ own xs rfl hT1 ⟨W.heap.size, 0, none⟩ 1 p hnews hl
  have er := r1.symm.trans r2
  simp only [Result.ok.injEq] at er
  obtain ⟨rfl, rfl⟩ := er
  refine wpList_plain hgd fun K hK => ?_
  unfold Oper.wp execOp
  simp only [ho, resolve, invoke, builtin, Sem.run_bind, Sem.run_pure, Result.andThen_ok, List.map_toArray, List.map_cons, List.map_nil, hs, hx, r1]
  refine hK _ _ (h v1 w1 (Kd.R_of_own (enc := Value.int .u8) (h1 := fun _ => rfl) ?_ (fun _ _ => trivial)) t2 ?_)
  · have := o1
    simpa [encs] using this
  · exact (HB.alloc hbase _).grown g1 hb1 (fun k hk => own_base (own) k hk)
end Go.Proofs.Ytlmpecahmmgphaa.Hand
