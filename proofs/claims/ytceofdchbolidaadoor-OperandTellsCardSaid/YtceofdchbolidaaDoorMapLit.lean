/- A law for the walk: an entry of a map literal 'map[K]struct{}{..}' is laid as a store is. No conditions but those of the store's law. -/
import Derived.Test.YtceofdchbolidaaDoorProg
import Derived.WalkKit
import Derived.Below
import Derived.Maps.Own
import Derived.Maps.OwnSet
import Derived.Lib.Hide
namespace Go.Proofs.YtceofdchbolidaaDoor.Hand
open Go.RowKit Go.Maps Go.WideMaps Go.ChangeMaps

theorem wpList_insert_unit {P : Program} (w : World) {ops : Array Oper} {rest : List Oper} {o : Oper} {a : Act} {Q : Exit → Act → World → Prop}
    (hg : o.guard = none) (m x v : Operand) (t : TypeId) (hop : o.op = Op.insert t m x v)
    (k e : TypeId) (K : Keyed P k) (ht : P.underlying t = some (.map k e)) (b n : Nat) (D : DataW Unit)
    (hm : a.eval m = .map (some b)) (hown : w.ownsMap P k unitElem b n D) (hn : n < 1000) (key : Value) (kl : Lit) (hx : a.eval x = key) (hv : a.eval v = .agg #[]) (hkey : keyOf P k key = some kl)
    (hK : ∀ w', w'.ownsMap P k unitElem b (n + 1) (D.put kl (.agg [])) → w.grownBy w' (some b) → wpList P ops Q rest (a.put o.dst undef) w') :
    wpList P ops Q (o :: rest) a w := by
  refine wpList_plain hg fun K' hK' => ?_
  obtain ⟨w', hrun, r1, r2⟩ := hown.update K ht (by unfold maxLen; omega) hkey unitElem_mk
  unfold Oper.wp
  simp [execOp, hop, hm, hx, hv, hrun, Result.andThen]
  exact hK' _ _ (hK w' r1 r2)
end Go.Proofs.YtceofdchbolidaaDoor.Hand
