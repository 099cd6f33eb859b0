/- A row of bytes whose cells, the room's too, are bytes: it stays so behind an append of one byte. No conditions. -/
import Derived.Test.YtlmpecahmmgphaaHand1
import Derived.Laws.AppendOwn
namespace Go.Proofs.Ytlmpecahmmgphaa.Hand
open Go.RowKit Go.Proofs.YtlmpecahmmgphaaW.PrintWords
set_option linter.unusedVariables false
/-- All cells of the slice's row, up to its capacity, are bytes. -/
def Typed (w : World) (v : Value) : Prop := ∀ a n cap, v = .slice (some a) n cap → ∃ cur : List Int, w.heap[a.block]? = some (.cells (iv cur).toArray 5 (0, 0)) ∧ cur.length = cap
theorem Typed.nil (w : World) : Typed w (.slice none 0 0) := fun a n cap h => by simp at h
theorem Typed.below {w w1 : World} {v : Value} (h : Typed w v) (hb : Below w.heap.size w w1) : Typed w1 v := by
  intro a n cap e
  obtain ⟨cur, hg, hl⟩ := h a n cap e
  exact ⟨cur, (hb.block a.block (Array.getElem?_eq_some_iff.1 hg).1).trans hg, hl⟩
theorem zero_bytes (k : Nat) : Builtin.zeroCells (Value.int .u8 0).cells k = (iv (List.replicate k 0)).toArray := by
  apply Array.ext
  · rw [size_zeroCells]; simp [iv, Value.cells]
  · intro j h1 h2
    simp [Builtin.zeroCells, iv, Value.cells, Nat.mod_one]
theorem iv_app (a b : List Int) : (iv a).toArray ++ (iv b).toArray = (iv (a ++ b)).toArray := by simp [iv]
theorem typed_append {P : Program} (w : World) (base : Nat) (t ty : TypeId) (i : TypeInfo) (ht : P.underlying t = some (.slice 5)) (hi : P.info? 5 = some i) (hz : i.zero = some (.int .u8 0)) (hsize : i.size = 1) (hby : i.bytes = 1)
    (v : Value) (n : Nat) (xs : List Value) (hown : w.ownsRow base 5 1 v n xs) (ys : List Int) (hxs : xs = iv ys) (hT : Typed w v)
    (a : Addr) (c : Nat) (x : Int) (hnews : ∀ j u, [Value.int .u8 x][j]? = some u → w.cell? (a.add j) = some u) (hn : n < 140737488355328) :
    ∃ v' w', (Builtin.append_ #[t, t] ty #[v, .slice (some a) 1 c]).run P w = .ok v' w' ∧ Typed w' v' := by
  have h1 : ∀ u ∈ [Value.int .u8 x], u.oneCell' = true := by intro u hu; simp at hu; subst hu; rfl
  rcases hown.2 with ⟨rfl, rfl⟩ | ⟨g, cap, cur, rfl, hbg, hg, hnc, hcm, hcs, htake⟩
  · have hr := run_append_nil (P := P) w t ty 5 i (.int .u8 0) ht hi hz a 1 c [.int .u8 x] (by rw [hsize]; rfl) hnews (by omega) (by omega) (by rw [hby]; omega)
    refine ⟨_, _, hr, ?_⟩
    intro a' n' cap' e
    simp only [Value.slice.injEq, Option.some.injEq] at e
    obtain ⟨rfl, rfl, rfl⟩ := e
    have hge := grownCap_ge w 1 0 5
    refine ⟨[x] ++ List.replicate (grownCap w 1 0 5 - 1) 0, ?_, by simp; omega⟩
    rw [zero_bytes, show ([Value.int .u8 x]).toArray = (iv [x]).toArray from rfl, iv_app]
    exact alloc_new w.drew _
  · obtain ⟨cu, hcu, hcl⟩ := hT _ _ _ rfl
    have hcur : cur = (iv cu).toArray := by
      have := hg.symm.trans hcu
      simp only [Option.some.injEq, Obj.cells.injEq] at this
      exact this.1
    by_cases hroom : n + 1 ≤ cap
    · have hr := run_append_room (P := P) w t ty 5 i ht hi g n cap cur hg a 1 c [.int .u8 x] (by rw [hsize]; rfl) hnews h1 hroom (by rw [hsize, hcs]; simp; omega)
      refine ⟨_, _, hr, ?_⟩
      intro a' n' cap' e
      simp only [Value.slice.injEq, Option.some.injEq] at e
      obtain ⟨rfl, rfl, rfl⟩ := e
      refine ⟨cu.take n ++ ([x] ++ cu.drop (n + 1)), ?_, by simp; omega⟩
      have := setRow_heap w g cur (cur.toList.take (n * i.size) ++ [Value.int .u8 x] ++ cur.toList.drop (n * i.size + [Value.int .u8 x].length)).toArray 5 (0, 0) hg
      rw [this, hcur, hsize]
      simp [iv, List.map_take, List.map_drop]
    · have holds : ∀ j u, xs[j]? = some u → w.cell? ((⟨g, 0, none⟩ : Addr).add j) = some u := hown.cells (g := g) rfl
      have hlx : xs.length = n := by have := hown.1; omega
      have hr := run_append_grow (P := P) w t ty 5 i (.int .u8 0) ht hi hz ⟨g, 0, none⟩ n cap xs (by rw [hsize]; omega) holds a 1 c [.int .u8 x] (by rw [hsize]; rfl) hnews (by omega) (by omega) (growslice_fits (by omega) (by rw [hby]; omega))
      refine ⟨_, _, hr, ?_⟩
      intro a' n' cap' e
      simp only [Value.slice.injEq, Option.some.injEq] at e
      obtain ⟨rfl, rfl, rfl⟩ := e
      have hge := grownCap_ge w (n + 1) cap 5
      have hly : ys.length = n := by rw [← hlx, hxs]; simp [iv]
      refine ⟨(ys ++ [x]) ++ List.replicate (grownCap w (n + 1) cap 5 - (n + 1)) 0, ?_, by simp; omega⟩
      rw [zero_bytes, hxs, show ([Value.int .u8 x]).toArray = (iv [x]).toArray from rfl, iv_app, iv_app]
      exact alloc_new w.drew _
end Go.Proofs.Ytlmpecahmmgphaa.Hand
