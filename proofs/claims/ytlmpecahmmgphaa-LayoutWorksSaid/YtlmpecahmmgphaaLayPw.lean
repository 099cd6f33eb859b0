/- What layout.Plan computes, and what its world holds on the way. -/
import Derived.Test.YtlmpecahmmgphaaLayFits
import Derived.Test.YtlmpecahmmgphaaXLayx3
namespace Go.Proofs.Ytlmpecahmmgphaa.Lay
open Go.RowKit Go.Proofs.Ytlmpecahmmgphaa.XLay Go.Proofs.YtlmpecahmmgphaaW.PrintWords Go.Proofs.YtlmpecahmmgphaaW.PrintLast Go.Proofs.YtlmpecahmmgphaaW.PrintMore
set_option linter.unusedVariables false
set_option linter.unusedSimpArgs false
/-- Whether a piece is a branch whose distance does not fit in a byte. -/
def lateP (at_ : List Int) (v : PV) (i : Nat) : Bool := match v with
  | .br _ _ t o => !reachP at_ t o i 8
  | _ => false
/-- A choice behind the first i pieces of a pass. -/
def nearL (ps : List PV) (at_ : List Int) (near : List Bool) : Nat → List Bool
  | 0 => near
  | i + 1 => if (nearL ps at_ near i).getD i false = false ∧ lateP at_ (ps.getD i (.fix 0)) i = true then (nearL ps at_ near i).set i true else nearL ps at_ near i
theorem nearL_succ (ps : List PV) (at_ : List Int) (near : List Bool) (i : Nat) : nearL ps at_ near (i + 1) = if (nearL ps at_ near i).getD i false = false ∧ lateP at_ (ps.getD i (.fix 0)) i = true then (nearL ps at_ near i).set i true else nearL ps at_ near i := rfl
theorem nearL_len (ps : List PV) (at_ : List Int) (near : List Bool) (i : Nat) : (nearL ps at_ near i).length = near.length := by
  induction i with
  | zero => rfl
  | succ i ih =>
    rw [nearL_succ]
    split
    · rw [List.length_set, ih]
    · exact ih
/-- The passes. -/
def planL (ps : List PV) (o : Int) : Nat → List Bool → Int → Option (List Int × List Bool × Int)
  | 0, _, _ => none
  | k + 1, near, p => if near = nearL ps (lieL ps near o ps.length) near ps.length then some (lieL ps near o ps.length, near, wrap64 (p + 1)) else planL ps o k (nearL ps (lieL ps near o ps.length) near ps.length) (wrap64 (p + 1))
theorem planL_succ (ps : List PV) (o : Int) (k : Nat) (near : List Bool) (p : Int) : planL ps o (k + 1) near p = if near = nearL ps (lieL ps near o ps.length) near ps.length then some (lieL ps near o ps.length, near, wrap64 (p + 1)) else planL ps o k (nearL ps (lieL ps near o ps.length) near ps.length) (wrap64 (p + 1)) := rfl
/-- What a plan is, of pieces that may be. -/
def planT (ps : List PV) (o : Int) (x : List Int × List Bool × Int) : List Int × List Bool × Int × Int :=
  if 1048576 < wrap64 (rd x.1 (ps.length : Int) - o) then ([], [], 0, 3) else if fitsP ps o x.2.1 = true then (x.1, x.2.1, x.2.2, 0) else ([], [], 0, 5)
/-- layout.Plan. -/
def layout_Plan.f (l : List S52) (o : Int) : Option (List Int × List Bool × Int × Int) :=
  if 20000 < l.length then none else match allP (l.length : Int) l with
  | none => some ([], [], 0, 2)
  | some ps => if (layout_origin.f o) = some true then (planL ps o (ps.length + 2) (List.replicate ps.length false) 0).map (planT ps o) else some ([], [], 0, 5)
/-- What holds on the way of Plan. -/
structure PW (w W : World) (g4 g8 gN : Nat) (Ax : Option Addr) (cx cN n : Nat) (uA : Value) (p : Int) (at_ : List Int) (near : List Bool) (ps : List PV) : Prop where
  b : Below w.heap.size w W
  l4 : w.heap.size ≤ g4
  l8 : w.heap.size ≤ g8
  ne : g4 ≠ g8
  h4 : W.heap[g4]? = some (.cells #[.slice none 0 0, .slice none 0 0, .int .i64 0] 56 (0, 0))
  h8 : W.heap[g8]? = some (.cells #[uA, .slice (some ⟨gN, 0, none⟩) n cN, .int .i64 p] 56 (0, 0))
  ra : (Kd.int .i64).R 3 W w.heap.size (fun _ => True) uA at_
  rn : Kd.bool.R 4 W w.heap.size (fun _ => True) (.slice (some ⟨gN, 0, none⟩) n cN) near
  rx : kPV.R 80 W w.heap.size (fun _ => True) (.slice Ax n cx) ps
theorem PW.below {w W W1 : World} {g4 g8 gN : Nat} {Ax : Option Addr} {cx cN n : Nat} {uA : Value} {p : Int} {at_ : List Int} {near : List Bool} {ps : List PV} (h : PW w W g4 g8 gN Ax cx cN n uA p at_ near ps) (hb : Below W.heap.size W W1) : PW w W1 g4 g8 gN Ax cx cN n uA p at_ near ps :=
  ⟨below_step h.b hb, h.l4, h.l8, h.ne, blk_below h.h4 hb, blk_below h.h8 hb, Kd.R_below h.ra hb, Kd.R_below h.rn hb, Kd.R_below h.rx hb⟩
theorem PW.setp {w W : World} {g4 g8 gN : Nat} {Ax : Option Addr} {cx cN n : Nat} {uA : Value} {p : Int} {at_ : List Int} {near : List Bool} {ps : List PV} (h : PW w W g4 g8 gN Ax cx cN n uA p at_ near ps) (p' : Int) : PW w (W.setCell ⟨g8, 2, none⟩ (.int .i64 p')) g4 g8 gN Ax cx cN n uA p' at_ near ps :=
  ⟨below_set h.b h.l8, h.l4, h.l8, h.ne, blk_far h.h4 h.ne _, blk_put (cs := #[uA, .slice (some ⟨gN, 0, none⟩) n cN, .int .i64 p]) h.h8 2 _ rfl, Kd.R_set h.ra h.h8 (by decide) _ _, Kd.R_set h.rn h.h8 (by decide) _ _, Kd.R_set h.rx h.h8 (by decide) _ _⟩
theorem PW.setA {w W : World} {g4 g8 gN : Nat} {Ax : Option Addr} {cx cN n : Nat} {uA v : Value} {p : Int} {at_ at' : List Int} {near : List Bool} {ps : List PV} (h : PW w W g4 g8 gN Ax cx cN n uA p at_ near ps) (hv : (Kd.int .i64).R 3 W w.heap.size (fun _ => True) v at') : PW w (W.setCell ⟨g8, 0, none⟩ v) g4 g8 gN Ax cx cN n v p at' near ps :=
  ⟨below_set h.b h.l8, h.l4, h.l8, h.ne, blk_far h.h4 h.ne _, blk_put (cs := #[uA, .slice (some ⟨gN, 0, none⟩) n cN, .int .i64 p]) h.h8 0 _ rfl, Kd.R_set hv h.h8 (by decide) _ _, Kd.R_set h.rn h.h8 (by decide) _ _, Kd.R_set h.rx h.h8 (by decide) _ _⟩
theorem PW.setN {w W : World} {g4 g8 gN : Nat} {Ax : Option Addr} {cx cN n : Nat} {uA : Value} {p : Int} {at_ : List Int} {near : List Bool} {ps : List PV} (h : PW w W g4 g8 gN Ax cx cN n uA p at_ near ps) (i : Nat) : PW w (W.setCell ⟨gN, i, none⟩ (.bool true)) g4 g8 gN Ax cx cN n uA p at_ (near.set i true) ps := by
  have hp := Kd.R_putg (enc := Value.bool) h.rn (i : Int) true
  simp only [Int.toNat_natCast] at hp
  have hN : w.heap.size ≤ gN := Kd.R_base h.rn gN rfl
  have h4 : some g4 ≠ (Value.slice (some ⟨gN, 0, none⟩) n cN).ownBlock := Kd.R_ne h.rn h.h4 (by decide)
  have h8 : some g8 ≠ (Value.slice (some ⟨gN, 0, none⟩) n cN).ownBlock := Kd.R_ne h.rn h.h8 (by decide)
  exact ⟨below_set h.b hN, h.l4, h.l8, h.ne, blk_grown h.h4 hp.2 h4, blk_grown h.h8 hp.2 h8, Kd.R_over (v := .slice (some ⟨gN, 0, none⟩) n cN) h.ra h.rn (by decide) hp.2, hp.1, Kd.R_over (v := .slice (some ⟨gN, 0, none⟩) n cN) h.rx h.rn (by decide) hp.2⟩
theorem PW.nc {w W : World} {g4 g8 gN : Nat} {Ax : Option Addr} {cx cN n : Nat} {uA : Value} {p : Int} {at_ : List Int} {near : List Bool} {ps : List PV} (h : PW w W g4 g8 gN Ax cx cN n uA p at_ near ps) (i : Nat) (hi : i < n) : W.cell? ⟨gN, i, none⟩ = some (.bool (near.getD i false)) ∧ W.frozen? ⟨gN, i, none⟩ = false := by
  have := Kd.R_celln (enc := Value.bool) false h.rn (i : Int) (by omega) (by omega)
  simpa [rdOf] using this
theorem PW.xc {w W : World} {g4 g8 gN : Nat} {Ax : Option Addr} {cx cN n : Nat} {uA : Value} {p : Int} {at_ : List Int} {near : List Bool} {ps : List PV} (h : PW w W g4 g8 gN Ax cx cN n uA p at_ near ps) : n = ps.length ∧ n ≤ cx ∧ Kd.C kPV W Ax n ps := by
  have := Kd.R_reads' h.rx
  exact ⟨this.1, this.2.1, by have e := this.1; have := this.2.2; rw [e]; exact this⟩
theorem PW.nr {w W : World} {g4 g8 gN : Nat} {Ax : Option Addr} {cx cN n : Nat} {uA : Value} {p : Int} {at_ : List Int} {near : List Bool} {ps : List PV} (h : PW w W g4 g8 gN Ax cx cN n uA p at_ near ps) : n = near.length ∧ n ≤ cN ∧ Kd.C Kd.bool W (some ⟨gN, 0, none⟩) n near := by
  have := Kd.R_reads' h.rn
  exact ⟨this.1, this.2.1, by have e := this.1; have := this.2.2; rw [e]; exact this⟩
/-- The copy of a choice stands aside. -/
structure WW (w W : World) (gN : Nat) (uW : Value) (was : List Bool) : Prop where
  r : Kd.bool.R 4 W w.heap.size (fun k => k ≠ gN) uW was
theorem WW.below {w W W1 : World} {gN : Nat} {uW : Value} {was : List Bool} (h : WW w W gN uW was) (hb : Below W.heap.size W W1) : WW w W1 gN uW was := ⟨Kd.R_below h.r hb⟩
theorem WW.setN {w W : World} {gN : Nat} {uW : Value} {was : List Bool} (h : WW w W gN uW was) (i : Nat) (v : Value) : WW w (W.setCell ⟨gN, i, none⟩ v) gN uW was := ⟨Kd.R_far (p := ⟨gN, i, none⟩) h.r (fun _ hk => hk) v⟩
/-- A store of one cell. -/
theorem set_ev {P : Program} {ops : Array Oper} {rest : List Oper} {o : Oper} {a : Act} {W : World} {Q : Exit → Act → World → Prop} (hgd : o.guard = none) (hN : o.dst = none) (g off : Nat) (v : Value) (hr : (execOp a.eval o).run P W = .ok .skip (W.setCell ⟨g, off, none⟩ v)) (h : ∀ w1, w1 = W.setCell ⟨g, off, none⟩ v → wpList P ops Q rest a w1) : wpList P ops Q (o :: rest) a W :=
  wpList_plain hgd fun K hK => by
    unfold Oper.wp
    rw [hr]
    show K (a.put o.dst undef) _
    rw [hN]
    exact hK _ _ (h _ rfl)
/-- A store of a whole struct. -/
theorem put_ev {P : Program} {ops : Array Oper} {rest : List Oper} {o : Oper} {a : Act} {W : World} {Q : Exit → Act → World → Prop} (hgd : o.guard = none) (hN : o.dst = none) (ty : TypeId) (x y : Operand) (ho : o.op = .store ty x y)
    (g off : Nat) (hx : a.eval x = .pointer (some ⟨g, off, none⟩)) (vs : Array Value) (hy : a.eval y = .agg vs) (cs : Array Value) (t : TypeId) (hg : W.heap[g]? = some (.cells cs t (0, 0))) (hn : off + vs.size ≤ cs.size)
    (hi : (P.info? ty).map (·.size) = some vs.size) (h1 : vs.all (·.oneCell') = true) (cs' : Array Value) (hcs : put cs off vs.toList = cs')
    (h : ∀ w1, w1.heap[g]? = some (.cells cs' t (0, 0)) → (∀ b, b ≠ g → w1.heap[b]? = W.heap[b]?) → (∀ B w, B ≤ g → Below B w W → Below B w w1) → wpList P ops Q rest a w1) : wpList P ops Q (o :: rest) a W :=
  wpList_plain hgd fun K hK => store_wp ty x y ho g off hx vs hy cs t hg hn hi h1 cs' hcs (fun w1 a1 a2 a3 => by rw [hN]; exact hK _ _ (h w1 a1 a2 a3))
theorem lie_n (n : Nat) (A0 : Option Addr) (c0 : Nat) (ps : List PV) (o : Int) (A2 : Option Addr) (c2 : Nat) (l2 : List Bool) (w : World) (hr0 : Kd.C kPV w A0 n ps) (hc0 : n ≤ c0) (hr2 : Kd.C Kd.bool w A2 n l2) (hc2 : n ≤ c2) (h20 : n ≤ 20000) (hn : n = ps.length) (hl : n = l2.length) :
    Calls Try.prog 62 #[.slice A0 n c0, .int .i64 o, .slice A2 n c2] w fun e w' => ∃ v0_ : Value, e = .returned v0_ ∧ Kd.R (Kd.int .i64) 3 w' w.heap.size (fun _ => True) v0_ (lieL ps l2 o ps.length) ∧ Below w.heap.size w w' := by
  subst hn
  have h := lie_calls A0 c0 ps o A2 c2 l2 w hr0 hc0 (by rw [← hl]; exact hr2) (by omega) h20 hl.symm
  rw [← hl] at h
  exact h
theorem fits_n (n : Nat) (A0 : Option Addr) (c0 : Nat) (ps : List PV) (o : Int) (A2 : Option Addr) (c2 : Nat) (l2 : List Bool) (w : World) (hr0 : Kd.C kPV w A0 n ps) (hc0 : n ≤ c0) (hr2 : Kd.C Kd.bool w A2 n l2) (hc2 : n ≤ c2) (h20 : n ≤ 20000) (hn : n = ps.length) (hl : n = l2.length) (hT : OkT ps) :
    Calls Try.prog 66 #[.slice A0 n c0, .int .i64 o, .slice A2 n c2] w fun e w' => e = .returned (.bool (fitsP ps o l2)) ∧ Below w.heap.size w w' := by
  subst hn
  have h := fits_calls A0 c0 ps o A2 c2 l2 w hr0 hc0 (by rw [← hl]; exact hr2) (by omega) h20 hl.symm hT
  rw [← hl] at h
  exact h
theorem Clone_n (n : Nat) (ad : Addr) (c0 : Nat) (l : List Bool) (w : World) (hr0 : Kd.C Kd.bool w (some ad) n l) (hl : n = l.length) (h20 : n ≤ 20000) :
    Calls Try.prog 63 #[.slice (some ad) n c0] w fun e w' => ∃ v, e = .returned v ∧ Kd.R Kd.bool 4 w' w.heap.size (fun _ => True) v l ∧ Below w.heap.size w w' := by
  subst hl
  exact Clone_some ad c0 l w hr0 h20
theorem wrap_succ (j : Nat) (h : j ≤ 1000000) : wrap64 ((j : Int) + 1) = ((j + 1 : Nat) : Int) := by unfold wrap64; omega
theorem Equal_l0 (l0 l1 : List Bool) (hl : l0.length = l1.length) (h20 : l0.length ≤ 20000) : ∀ d j : Nat, j + d = l0.length → (∀ i, i < j → l0.getD i false = l1.getD i false) → slices_Equal_bool_bool.l0 (d + 1) l0 l1 (l0.length : Int) (j : Int) = some (decide (l0 = l1)) := by
  intro d
  induction d with
  | zero =>
    intro j hj hp
    unfold slices_Equal_bool_bool.l0
    rw [if_neg (by omega)]
    have : l0 = l1 := List.ext_getElem hl fun i h1 h2 => by
      have := hp i (by omega)
      simpa [List.getD_eq_getElem?_getD, h1, h2] using this
    rw [decide_eq_true this]
  | succ d ih =>
    intro j hj hp
    unfold slices_Equal_bool_bool.l0
    rw [if_pos (by omega), if_pos (by omega), if_pos (by omega), if_pos (by omega)]
    by_cases hq : l0.getD j false = l1.getD j false
    · rw [if_neg (by simp only [rdOf, Int.toNat_natCast, hq]; simp), wrap_succ j (by omega)]
      refine ih (j + 1) (by omega) fun i hi => ?_
      rcases Nat.lt_succ_iff_lt_or_eq.1 hi with h | rfl
      · exact hp i h
      · exact hq
    · rw [if_pos (by simp only [rdOf, Int.toNat_natCast]; simpa using hq)]
      have : l0 ≠ l1 := fun e => hq (by rw [e])
      rw [decide_eq_false this]
theorem Equal_n (n : Nat) (A0 : Option Addr) (c0 : Nat) (l0 : List Bool) (A1 : Option Addr) (c1 : Nat) (l1 : List Bool) (w : World) (hr0 : Kd.C Kd.bool w A0 n l0) (hc0 : n ≤ c0) (hr1 : Kd.C Kd.bool w A1 n l1) (hc1 : n ≤ c1) (h20 : n ≤ 20000) (hn : n = l0.length) (hl : n = l1.length) :
    Calls Try.prog 65 #[.slice A0 n c0, .slice A1 n c1] w fun e w' => e = .returned (.bool (decide (l0 = l1))) ∧ Below w.heap.size w w' := by
  subst hn
  have hf : slices_Equal_bool_bool.f (l0.length + 1) l0 l1 = some (decide (l0 = l1)) := by
    unfold slices_Equal_bool_bool.f
    rw [if_pos (by omega)]
    exact Equal_l0 l0 l1 hl h20 l0.length 0 (by omega) (by omega)
  have h := slices_Equal_bool_bool.calls _ A0 c0 l0 A1 c1 l1 _ w hr0 hc0 (by rw [← hl]; exact hr1) (by omega) hf
  rw [← hl] at h
  exact h.mono fun e w' ⟨h1, h2⟩ => ⟨h1, h2.below⟩
end Go.Proofs.Ytlmpecahmmgphaa.Lay
