/- Laid by this seat's own program (wip/tools/printx.py) out of the translation: the functions that laws use (All), each with its contract. Condition: the library's table strings.asciiSpace holds what it was laid with. -/
import Derived.Test.YtceofdchbolidaaDoorXAllx0
import Derived.Test.YtceofdchbolidaaDoorXAllx2
import Derived.Test.YtceofdchbolidaaDoorXAllx5
import Derived.Test.YtceofdchbolidaaDoorXAllx6
import Derived.Test.YtceofdchbolidaaDoorXAllx8
import Derived.Test.YtceofdchbolidaaDoorXAllx10
import Derived.Test.YtceofdchbolidaaDoorXAllx11
namespace Go.Proofs.YtceofdchbolidaaDoor.XAll
open Go.RowKit Go.Proofs.YtceofdchbolidaaDoorW.PrintWords Go.Proofs.YtceofdchbolidaaDoorW.PrintLast Go.Proofs.YtceofdchbolidaaDoorW.PrintMore Go.Proofs.YtceofdchbolidaaDoor.Hand
attribute [local go_sem] max2_int min2_int max_two min_two max_three min_three max_four min_four   -- for this text's walks alone
set_option linter.unusedVariables false
set_option linter.unusedSimpArgs false

attribute [local go_sem high] eqA25
/-! ### linotypelaw05_MemCanon: function 6 -/
def linotypelaw05_MemCanon.j0 : Nat → List Int → Int → Bool → Int → Bool → Int → Int → Int → Int → Int → Int → Int → Int → Int → Int → Int → Int → Int → Int → Option (Bool)
 | 0, _, _, _, _, _, _, _, _, _, _, _, _, _, _, _, _, _, _, _ => none
 | k + 1, x1, x2, x7, x9, x28, x215000, x215001, x215002, x215003, x215004, x215005, x215006, x225000, x225001, x225002, x225003, x225004, x225005, x225006 => if x28 = true then (if x7 = true then ((mem_Check.f k x215000 x215001 x215002 x215003 x215004 x215005 x215006).bind fun t226 => (some (x9 == t226))) else (some false)) else (if x9 = 0 then ((mem_Address.f k x215000 x215001 x215002 x215003 x215004 x215005 x215006 x1 x2).bind fun bt227 => ((mem_Address.f k x225000 x225001 x225002 x225003 x225004 x225005 x225006 x1 x2).bind fun bt229 => (if x7 = true then ((mem_Check.f k x225000 x225001 x225002 x225003 x225004 x225005 x225006).bind fun t231 => (if t231 = 0 then ((linotypelaw05_canon.f k x225000 x225001 x225002 x225003 x225004 x225005 x225006 x225000 x225001 x225002 x225003 x225004 x225005 x225006).bind fun t232 => (if t232 = true then ((mem_Same.f k x215000 x215001 x215002 x215003 x215004 x215005 x215006 x225000 x225001 x225002 x225003 x225004 x225005 x225006).bind fun t233 => (if t233 = true then ((mem_Same.f k x225000 x225001 x225002 x225003 x225004 x225005 x225006 x215000 x215001 x215002 x215003 x215004 x215005 x215006).bind fun t234 => (if t234 = true then (if bt227.1 = bt229.1 then (if bt227.2 = bt229.2 then (if ((bt227.2 == 0) == ((x1.length : Int) == 16)) = true then (if x225006 = x215006 then (some (x225005 == x215005)) else (some false)) else (some false)) else (some false)) else (some false)) else (some false))) else (some false))) else (some false))) else (some false))) else (some false)))) else (if x7 = true then (some ((x225000 == 0 && (x225001 == 0)) && ((x225002 == 0 && (x225003 == 0)) && (x225004 == 0 && (x225005 == 0 && (x225006 == 0)))))) else (some false)))
def linotypelaw05_MemCanon.f (k : Nat) (a0_0 : Int) (a0_1 : Int) (a0_2 : Int) (a0_3 : Int) (a0_4 : Int) (a0_5 : Int) (a0_6 : Int) (l1 : List Int) (a2 : Int) : Option (Bool) := (linotypelaw05_MemKnown.f k).bind fun t215 => ((mem_Canon.f k a0_0 a0_1 a0_2 a0_3 a0_4 a0_5 a0_6).bind fun bt216 => ((mem_Check.f k a0_0 a0_1 a0_2 a0_3 a0_4 a0_5 a0_6).bind fun t225 => (if bt216.2.2.2.2.2.2.2 = t225 then (linotypelaw05_MemCanon.j0 k l1 a2 t215 bt216.2.2.2.2.2.2.2 (decide ((l1.length : Int) > 20)) a0_0 a0_1 a0_2 a0_3 a0_4 a0_5 a0_6 bt216.1 bt216.2.1 bt216.2.2.1 bt216.2.2.2.1 bt216.2.2.2.2.1 bt216.2.2.2.2.2.1 bt216.2.2.2.2.2.2.1) else (linotypelaw05_MemCanon.j0 k l1 a2 t215 bt216.2.2.2.2.2.2.2 true a0_0 a0_1 a0_2 a0_3 a0_4 a0_5 a0_6 bt216.1 bt216.2.1 bt216.2.2.1 bt216.2.2.2.1 bt216.2.2.2.2.1 bt216.2.2.2.2.2.1 bt216.2.2.2.2.2.2.1))))
theorem linotypelaw05_MemCanon.mono_l : ∀ k, (∀ y0 y1 y2 y3 y4 y5 y6 y7 y8 y9 y10 y11 y12 y13 y14 y15 y16 y17 y18, LeO (linotypelaw05_MemCanon.j0 k y0 y1 y2 y3 y4 y5 y6 y7 y8 y9 y10 y11 y12 y13 y14 y15 y16 y17 y18) (linotypelaw05_MemCanon.j0 (k + 1) y0 y1 y2 y3 y4 y5 y6 y7 y8 y9 y10 y11 y12 y13 y14 y15 y16 y17 y18))
 | 0 => fun _ _ _ _ _ _ _ _ _ _ _ _ _ _ _ _ _ _ _ r h => by simp [linotypelaw05_MemCanon.j0] at h
 | k + 1 => by
  have ih0 := linotypelaw05_MemCanon.mono_l k
  ·intro y0 y1 y2 y3 y4 y5 y6 y7 y8 y9 y10 y11 y12 y13 y14 y15 y16 y17 y18
   unfold linotypelaw05_MemCanon.j0
   repeat' first
   | (with_reducible exact ih0 _ _ _ _ _ _ _ _ _ _ _ _ _ _ _ _ _ _ _)
   | (with_reducible exact linotypelaw05_MemKnown.mono _)
   | (with_reducible exact linotypelaw05_canon.mono _ _ _ _ _ _ _ _ _ _ _ _ _ _ _)
   | (with_reducible exact mem_Address.mono _ _ _ _ _ _ _ _ _ _)
   | (with_reducible exact mem_Canon.mono _ _ _ _ _ _ _ _)
   | (with_reducible exact mem_Check.mono _ _ _ _ _ _ _ _)
   | (with_reducible exact mem_Same.mono _ _ _ _ _ _ _ _ _ _ _ _ _ _ _)
   | (with_reducible exact LeO.refl _)
   | (with_reducible exact LeO.none _)
   | (with_reducible refine LeO.ite ?_ ?_)
   | (with_reducible refine LeO.bind ?_ (fun _ => ?_))
   | exact ih0 _ _ _ _ _ _ _ _ _ _ _ _ _ _ _ _ _ _ _
   | exact linotypelaw05_MemKnown.mono _
   | exact linotypelaw05_canon.mono _ _ _ _ _ _ _ _ _ _ _ _ _ _ _
   | exact mem_Address.mono _ _ _ _ _ _ _ _ _ _
   | exact mem_Canon.mono _ _ _ _ _ _ _ _
   | exact mem_Check.mono _ _ _ _ _ _ _ _
   | exact mem_Same.mono _ _ _ _ _ _ _ _ _ _ _ _ _ _ _
   | exact LeO.none _
   | refine LeO.ite ?_ ?_
   | refine LeO.bind ?_ (fun _ => ?_)
theorem linotypelaw05_MemCanon.mono : ∀ a0 a1 a2 a3 a4 a5 a6 a7 a8 k, LeO (linotypelaw05_MemCanon.f k a0 a1 a2 a3 a4 a5 a6 a7 a8) (linotypelaw05_MemCanon.f (k + 1) a0 a1 a2 a3 a4 a5 a6 a7 a8) := by
 intro a0 a1 a2 a3 a4 a5 a6 a7 a8 k
 have ih0 := linotypelaw05_MemCanon.mono_l k
 unfold linotypelaw05_MemCanon.f
 repeat' first
   | (with_reducible exact ih0 _ _ _ _ _ _ _ _ _ _ _ _ _ _ _ _ _ _ _)
   | (with_reducible exact linotypelaw05_MemKnown.mono _)
   | (with_reducible exact linotypelaw05_canon.mono _ _ _ _ _ _ _ _ _ _ _ _ _ _ _)
   | (with_reducible exact mem_Address.mono _ _ _ _ _ _ _ _ _ _)
   | (with_reducible exact mem_Canon.mono _ _ _ _ _ _ _ _)
   | (with_reducible exact mem_Check.mono _ _ _ _ _ _ _ _)
   | (with_reducible exact mem_Same.mono _ _ _ _ _ _ _ _ _ _ _ _ _ _ _)
   | (with_reducible exact LeO.refl _)
   | (with_reducible exact LeO.none _)
   | (with_reducible refine LeO.ite ?_ ?_)
   | (with_reducible refine LeO.bind ?_ (fun _ => ?_))
   | exact ih0 _ _ _ _ _ _ _ _ _ _ _ _ _ _ _ _ _ _ _
   | exact linotypelaw05_MemKnown.mono _
   | exact linotypelaw05_canon.mono _ _ _ _ _ _ _ _ _ _ _ _ _ _ _
   | exact mem_Address.mono _ _ _ _ _ _ _ _ _ _
   | exact mem_Canon.mono _ _ _ _ _ _ _ _
   | exact mem_Check.mono _ _ _ _ _ _ _ _
   | exact mem_Same.mono _ _ _ _ _ _ _ _ _ _ _ _ _ _ _
   | exact LeO.none _
   | refine LeO.ite ?_ ?_
   | refine LeO.bind ?_ (fun _ => ?_)
set_option maxHeartbeats 8000000 in
set_option maxRecDepth 100000 in
theorem linotypelaw05_MemCanon.calls (k : Nat) (a0_0 : Int) (a0_1 : Int) (a0_2 : Int) (a0_3 : Int) (a0_4 : Int) (a0_5 : Int) (a0_6 : Int) (A1 : Option Addr) (c1 : Nat) (l1 : List Int) (a2 : Int) (w : World) (hr1 : Kd.C (Kd.int .i64) w A1 l1.length l1) (hc1 : l1.length ≤ c1) (h : linotypelaw05_MemCanon.f k a0_0 a0_1 a0_2 a0_3 a0_4 a0_5 a0_6 l1 a2 = some true) (hG : G w) :
  Calls Tryd.prog 6 #[.agg #[.int .i64 a0_0, .int .i64 a0_1, .int .i64 a0_2, .int .i64 a0_3, .int .i64 a0_4, .int .i64 a0_5, .int .i64 a0_6], .slice A1 l1.length c1, .int .i64 a2] w fun e w' => e = .returned (.bool true) ∧ Below w.heap.size w w' := by
 have HG := Lib.hid hG
 clear hG
 have hu25 := Tryd.underlying25
 have HR1 := Aside0.mk hr1
 have HC1 := Aside0.mk hc1
 clear hr1 hc1
 have HB := Aside0.mk (Below.refl w.heap.size w)
 have H : ((linotypelaw05_MemKnown.f k).bind fun t215 => ((mem_Canon.f k a0_0 a0_1 a0_2 a0_3 a0_4 a0_5 a0_6).bind fun bt216 => ((mem_Check.f k a0_0 a0_1 a0_2 a0_3 a0_4 a0_5 a0_6).bind fun t225 => (if bt216.2.2.2.2.2.2.2 = t225 then (linotypelaw05_MemCanon.j0 k l1 a2 t215 bt216.2.2.2.2.2.2.2 (decide ((l1.length : Int) > 20)) a0_0 a0_1 a0_2 a0_3 a0_4 a0_5 a0_6 bt216.1 bt216.2.1 bt216.2.2.1 bt216.2.2.2.1 bt216.2.2.2.2.1 bt216.2.2.2.2.2.1 bt216.2.2.2.2.2.2.1) else (linotypelaw05_MemCanon.j0 k l1 a2 t215 bt216.2.2.2.2.2.2.2 true a0_0 a0_1 a0_2 a0_3 a0_4 a0_5 a0_6 bt216.1 bt216.2.1 bt216.2.2.1 bt216.2.2.2.1 bt216.2.2.2.2.1 bt216.2.2.2.2.2.1 bt216.2.2.2.2.2.2.1))))) = some true := h
 clear h
 replace H := Option.bind_eq_some_iff.mp H
 obtain ⟨t215, A40, H⟩ := H
 replace H : ((mem_Canon.f k a0_0 a0_1 a0_2 a0_3 a0_4 a0_5 a0_6).bind fun bt216 => ((mem_Check.f k a0_0 a0_1 a0_2 a0_3 a0_4 a0_5 a0_6).bind fun t225 => (if bt216.2.2.2.2.2.2.2 = t225 then (linotypelaw05_MemCanon.j0 k l1 a2 t215 bt216.2.2.2.2.2.2.2 (decide ((l1.length : Int) > 20)) a0_0 a0_1 a0_2 a0_3 a0_4 a0_5 a0_6 bt216.1 bt216.2.1 bt216.2.2.1 bt216.2.2.2.1 bt216.2.2.2.2.1 bt216.2.2.2.2.2.1 bt216.2.2.2.2.2.2.1) else (linotypelaw05_MemCanon.j0 k l1 a2 t215 bt216.2.2.2.2.2.2.2 true a0_0 a0_1 a0_2 a0_3 a0_4 a0_5 a0_6 bt216.1 bt216.2.1 bt216.2.2.1 bt216.2.2.2.1 bt216.2.2.2.2.1 bt216.2.2.2.2.2.1 bt216.2.2.2.2.2.2.1)))) = some true := H
 have A4 := Aside0.mk A40
 clear A40
 replace H := Option.bind_eq_some_iff.mp H
 obtain ⟨⟨t216, t217, t218, t219, t220, t221, t222, t223⟩, A50, H⟩ := H
 replace H : ((mem_Check.f k a0_0 a0_1 a0_2 a0_3 a0_4 a0_5 a0_6).bind fun t225 => (if t223 = t225 then (linotypelaw05_MemCanon.j0 k l1 a2 t215 t223 (decide ((l1.length : Int) > 20)) a0_0 a0_1 a0_2 a0_3 a0_4 a0_5 a0_6 t216 t217 t218 t219 t220 t221 t222) else (linotypelaw05_MemCanon.j0 k l1 a2 t215 t223 true a0_0 a0_1 a0_2 a0_3 a0_4 a0_5 a0_6 t216 t217 t218 t219 t220 t221 t222))) = some true := H
 have A5 := Aside0.mk A50
 clear A50
 have HC6 := Aside0.mk H
 clear H
 go_enter Tryd.func6, Tryd.ntmps6
 go_upto_region 3 with (first | ((with_reducible refine gate_dst (N := 3) rfl ?_); (try (refine gate_guard (by rfl) ?_; dsimp only)); refine box_event ?hg (N := 3) ?hd (cs := #[.int .i64 a0_0, .int .i64 a0_1, .int .i64 a0_2, .int .i64 a0_3, .int .i64 a0_4, .int .i64 a0_5, .int .i64 a0_6]) (t := 25) ?hr ?_; (case hd => rfl); (case hg => rfl); (case hr => first | (go_simp; done) | (go_simp; rfl)); intro gb214 hg w7 hbox hb; have n0_ := Aside0.mk (below_step (by repeat (first | (with_reducible first | exact HB.out | apply below_alloc | apply pw_below_drewN | apply below_drew1) | exact HB.out)) hb); have n1_ := Aside0.mk (hbox); have n2_ := Aside0.mk ((by rw [hg]; exact (below_size (by repeat (first | (with_reducible first | exact HB.out | apply below_alloc | apply pw_below_drewN | apply below_drew1) | exact HB.out))) : w.heap.size ≤ gb214)); have n3_ := Aside0.mk ((by rw [hg]; exact (below_size (by repeat (first | (with_reducible first | exact HB.out | apply below_alloc | apply pw_below_drewN | apply below_drew1) | exact HB.out))) : w.heap.size ≤ gb214)); clear HB; have HB := n0_; have BK214 := n1_; have GW214 := n2_; have GE214 := n3_; clear n0_ n1_ n2_ n3_; clear hb hbox hg) | ((with_reducible refine gate_callee (f := 5) rfl ?_); refine goesL_ (some 14) rfl rfl Tryd.func5 (by kernel_rfl) rfl #[] rfl (by (try simp only [List.map_toArray, List.map_cons, List.map_nil]); first | done | rfl | (simp only [List.length_drop, List.length_take]; rfl)) ?_; (with_reducible refine (linotypelaw05_MemKnown.callsR k  t215 _ A4.out ?gG).mono ?_); (case gG => exact G.below HG.out (by repeat (first | (with_reducible first | exact HB.out | apply below_alloc | apply pw_below_drewN | apply below_drew1 | refine below_set ?_ GE214.out) | exact HB.out))); rintro e w8 ⟨rfl, hb⟩; refine ⟨_, rfl, ?_⟩; have n0_ := Aside0.mk (blk_below (g := gb214) (o := .cells #[.int .i64 a0_0, .int .i64 a0_1, .int .i64 a0_2, .int .i64 a0_3, .int .i64 a0_4, .int .i64 a0_5, .int .i64 a0_6] 25 (0, 0)) (by (with_reducible repeat (first | refine blk_drewN ?_ _ | refine blk_drew ?_ | refine blk_alloc ?_ _)); exact BK214.out) hb); have n1_ := Aside0.mk (below_step (by repeat (first | (with_reducible first | exact HB.out | apply below_alloc | apply pw_below_drewN | apply below_drew1 | refine below_set ?_ GE214.out) | exact HB.out)) hb); clear BK214; clear HB; have BK214 := n0_; have HB := n1_; clear n0_ n1_; (try clear hb); (try clear hb2); (try clear hk); (try clear hi); have hcz9_0 : w8.cell? ⟨gb214, 0, none⟩ = some (.int .i64 a0_0) := (blk_cell BK214.out 0).trans rfl; have hcz9_1 : w8.cell? ⟨gb214, 1, none⟩ = some (.int .i64 a0_1) := (blk_cell BK214.out 1).trans rfl; have hcz9_2 : w8.cell? ⟨gb214, 2, none⟩ = some (.int .i64 a0_2) := (blk_cell BK214.out 2).trans rfl; have hcz9_3 : w8.cell? ⟨gb214, 3, none⟩ = some (.int .i64 a0_3) := (blk_cell BK214.out 3).trans rfl; have hcz9_4 : w8.cell? ⟨gb214, 4, none⟩ = some (.int .i64 a0_4) := (blk_cell BK214.out 4).trans rfl; have hcz9_5 : w8.cell? ⟨gb214, 5, none⟩ = some (.int .i64 a0_5) := (blk_cell BK214.out 5).trans rfl; have hcz9_6 : w8.cell? ⟨gb214, 6, none⟩ = some (.int .i64 a0_6) := (blk_cell BK214.out 6).trans rfl; have hfz9_0 := blk_frozen BK214.out 0; have hfz9_1 := blk_frozen BK214.out 1; have hfz9_2 := blk_frozen BK214.out 2; have hfz9_3 := blk_frozen BK214.out 3; have hfz9_4 := blk_frozen BK214.out 4; have hfz9_5 := blk_frozen BK214.out 5; have hfz9_6 := blk_frozen BK214.out 6) | ((with_reducible refine gate_callee (f := 13) rfl ?_); refine goesL_ (some 17) rfl rfl Tryd.func13 (by kernel_rfl) rfl #[.agg #[.int .i64 a0_0, .int .i64 a0_1, .int .i64 a0_2, .int .i64 a0_3, .int .i64 a0_4, .int .i64 a0_5, .int .i64 a0_6]] rfl (by (try simp only [List.map_toArray, List.map_cons, List.map_nil]); first | done | rfl | (simp only [List.length_drop, List.length_take]; rfl)) ?_; (with_reducible refine (mem_Canon.calls k a0_0 a0_1 a0_2 a0_3 a0_4 a0_5 a0_6 t216 t217 t218 t219 t220 t221 t222 t223 _ A5.out ?gG).mono ?_); (case gG => exact G.below HG.out (by repeat (first | (with_reducible first | exact HB.out | apply below_alloc | apply pw_below_drewN | apply below_drew1 | refine below_set ?_ GE214.out) | exact HB.out))); rintro e w10 ⟨rfl, hb⟩; refine ⟨_, rfl, ?_⟩; have n0_ := Aside0.mk (blk_below (g := gb214) (o := .cells #[.int .i64 a0_0, .int .i64 a0_1, .int .i64 a0_2, .int .i64 a0_3, .int .i64 a0_4, .int .i64 a0_5, .int .i64 a0_6] 25 (0, 0)) (by (with_reducible repeat (first | refine blk_drewN ?_ _ | refine blk_drew ?_ | refine blk_alloc ?_ _)); exact BK214.out) hb); have n1_ := Aside0.mk (below_step (by repeat (first | (with_reducible first | exact HB.out | apply below_alloc | apply pw_below_drewN | apply below_drew1 | refine below_set ?_ GE214.out) | exact HB.out)) hb); clear BK214; clear HB; have BK214 := n0_; have HB := n1_; clear n0_ n1_; (try clear hb); (try clear hb2); (try clear hk); (try clear hi)) | ((with_reducible refine gate_dst (N := 8) rfl ?_); (try (refine gate_guard (by rfl) ?_; dsimp only)); refine box_event ?hg (N := 8) ?hd (cs := #[.int .i64 0, .int .i64 0, .int .i64 0, .int .i64 0, .int .i64 0, .int .i64 0, .int .i64 0]) (t := 25) ?hr ?_; (case hd => rfl); (case hg => rfl); (case hr => first | (go_simp; done) | (go_simp; rfl)); intro gb224 hg w11 hbox hb; have n0_ := Aside0.mk (blk_below (g := gb214) (o := .cells #[.int .i64 a0_0, .int .i64 a0_1, .int .i64 a0_2, .int .i64 a0_3, .int .i64 a0_4, .int .i64 a0_5, .int .i64 a0_6] 25 (0, 0)) (by (with_reducible repeat (first | refine blk_drewN ?_ _ | refine blk_drew ?_ | refine blk_alloc ?_ _)); exact BK214.out) hb); have n1_ := Aside0.mk (below_step (by repeat (first | (with_reducible first | exact HB.out | apply below_alloc | apply pw_below_drewN | apply below_drew1 | refine below_set ?_ GE214.out) | exact HB.out)) hb); have n2_ := Aside0.mk (hbox); have n3_ := Aside0.mk ((by rw [hg]; exact (below_size (by repeat (first | (with_reducible first | exact HB.out | apply below_alloc | apply pw_below_drewN | apply below_drew1 | refine below_set ?_ GE214.out) | exact HB.out))) : w.heap.size ≤ gb224)); have n4_ := Aside0.mk ((by rw [hg]; exact (below_size (by repeat (first | (with_reducible first | exact HB.out | apply below_alloc | apply pw_below_drewN | apply below_drew1 | refine below_set ?_ GE214.out) | exact HB.out))) : w.heap.size ≤ gb224)); have n5_ := Aside0.mk ((by rw [hg]; exact Nat.ne_of_lt (blk_lt (g := gb214) (o := .cells #[.int .i64 a0_0, .int .i64 a0_1, .int .i64 a0_2, .int .i64 a0_3, .int .i64 a0_4, .int .i64 a0_5, .int .i64 a0_6] 25 (0, 0)) (by (with_reducible repeat (first | refine blk_drewN ?_ _ | refine blk_drew ?_ | refine blk_alloc ?_ _)); exact BK214.out)) : gb214 ≠ gb224)); have n6_ := Aside0.mk ((by rw [hg]; exact Nat.ne_of_gt (blk_lt (g := gb214) (o := .cells #[.int .i64 a0_0, .int .i64 a0_1, .int .i64 a0_2, .int .i64 a0_3, .int .i64 a0_4, .int .i64 a0_5, .int .i64 a0_6] 25 (0, 0)) (by (with_reducible repeat (first | refine blk_drewN ?_ _ | refine blk_drew ?_ | refine blk_alloc ?_ _)); exact BK214.out)) : gb224 ≠ gb214)); clear BK214; clear HB; have BK214 := n0_; have HB := n1_; have BK224 := n2_; have GW224 := n3_; have GE224 := n4_; have NB214_224 := n5_; have NB224_214 := n6_; clear n0_ n1_ n2_ n3_ n4_ n5_ n6_; clear hb hbox hg; have hnb12 := NB224_214.out; have hnc12 := NB214_224.out; have hcz13_0 : w11.cell? ⟨gb224, 0, none⟩ = some (.int .i64 0) := (blk_cell BK224.out 0).trans rfl; have hcz13_1 : w11.cell? ⟨gb224, 1, none⟩ = some (.int .i64 0) := (blk_cell BK224.out 1).trans rfl; have hcz13_2 : w11.cell? ⟨gb224, 2, none⟩ = some (.int .i64 0) := (blk_cell BK224.out 2).trans rfl; have hcz13_3 : w11.cell? ⟨gb224, 3, none⟩ = some (.int .i64 0) := (blk_cell BK224.out 3).trans rfl; have hcz13_4 : w11.cell? ⟨gb224, 4, none⟩ = some (.int .i64 0) := (blk_cell BK224.out 4).trans rfl; have hcz13_5 : w11.cell? ⟨gb224, 5, none⟩ = some (.int .i64 0) := (blk_cell BK224.out 5).trans rfl; have hcz13_6 : w11.cell? ⟨gb224, 6, none⟩ = some (.int .i64 0) := (blk_cell BK224.out 6).trans rfl; have hfz13_0 := blk_frozen BK224.out 0; have hfz13_1 := blk_frozen BK224.out 1; have hfz13_2 := blk_frozen BK224.out 2; have hfz13_3 := blk_frozen BK224.out 3; have hfz13_4 := blk_frozen BK224.out 4; have hfz13_5 := blk_frozen BK224.out 5; have hfz13_6 := blk_frozen BK224.out 6))
 (try simp only [Act.put, List.setIfInBounds_toArray, List.set_cons_zero, List.set_cons_succ])
 go_cut [28] (fun v28 wc => ∃ (kq : Nat) (x28_5 : Bool), v28 = .bool x28_5 ∧ Aside0 (linotypelaw05_MemCanon.j0 kq l1 a2 t215 t223 x28_5 a0_0 a0_1 a0_2 a0_3 a0_4 a0_5 a0_6 t216 t217 t218 t219 t220 t221 t222 = some true) ∧ Aside0 (kq ≤ k) ∧ Aside0 (wc.heap[gb214]? = some (.cells #[.int .i64 a0_0, .int .i64 a0_1, .int .i64 a0_2, .int .i64 a0_3, .int .i64 a0_4, .int .i64 a0_5, .int .i64 a0_6] 25 (0, 0))) ∧ Aside0 (wc.heap[gb224]? = some (.cells #[.int .i64 t216, .int .i64 t217, .int .i64 t218, .int .i64 t219, .int .i64 t220, .int .i64 t221, .int .i64 t222] 25 (0, 0))) ∧ Aside0 (Below w.heap.size w wc))
 case first =>
  have H := HC6.out
  clear HC6
  replace H := Option.bind_eq_some_iff.mp H
  obtain ⟨t225, A140, H⟩ := H
  replace H : (if t223 = t225 then (linotypelaw05_MemCanon.j0 k l1 a2 t215 t223 (decide ((l1.length : Int) > 20)) a0_0 a0_1 a0_2 a0_3 a0_4 a0_5 a0_6 t216 t217 t218 t219 t220 t221 t222) else (linotypelaw05_MemCanon.j0 k l1 a2 t215 t223 true a0_0 a0_1 a0_2 a0_3 a0_4 a0_5 a0_6 t216 t217 t218 t219 t220 t221 t222)) = some true := H
  have A14 := Aside0.mk A140
  clear A140
  by_cases c15 : t223 = t225
  ·rw [if_pos c15] at H
   have c15b0 : (t223 == t225) = true := beq_iff_eq.mpr c15
   have c15b1 : (t223 != t225) = false := bne_eq_false_iff_eq.mpr c15
   clear c15
   (first | rw [c15b0] | (simp only [i64_w, i32_w]; rw [c15b0]) | skip)
   have H' := Aside0.mk H
   clear H
   have hnb16 := NB214_224.out
   have hnc16 := NB224_214.out
   have hcz17_0 : w11.cell? ⟨gb214, 0, none⟩ = some (.int .i64 a0_0) := (blk_cell BK214.out 0).trans rfl
   have hcz17_1 : w11.cell? ⟨gb214, 1, none⟩ = some (.int .i64 a0_1) := (blk_cell BK214.out 1).trans rfl
   have hcz17_2 : w11.cell? ⟨gb214, 2, none⟩ = some (.int .i64 a0_2) := (blk_cell BK214.out 2).trans rfl
   have hcz17_3 : w11.cell? ⟨gb214, 3, none⟩ = some (.int .i64 a0_3) := (blk_cell BK214.out 3).trans rfl
   have hcz17_4 : w11.cell? ⟨gb214, 4, none⟩ = some (.int .i64 a0_4) := (blk_cell BK214.out 4).trans rfl
   have hcz17_5 : w11.cell? ⟨gb214, 5, none⟩ = some (.int .i64 a0_5) := (blk_cell BK214.out 5).trans rfl
   have hcz17_6 : w11.cell? ⟨gb214, 6, none⟩ = some (.int .i64 a0_6) := (blk_cell BK214.out 6).trans rfl
   have hfz17_0 := blk_frozen BK214.out 0
   have hfz17_1 := blk_frozen BK214.out 1
   have hfz17_2 := blk_frozen BK214.out 2
   have hfz17_3 := blk_frozen BK214.out 3
   have hfz17_4 := blk_frozen BK214.out 4
   have hfz17_5 := blk_frozen BK214.out 5
   have hfz17_6 := blk_frozen BK214.out 6
   go_wp2_with (first | ((with_reducible refine gate_callee (f := 15) rfl ?_); refine goesL_ (some 22) rfl rfl Tryd.func15 (by kernel_rfl) rfl #[.agg #[.int .i64 a0_0, .int .i64 a0_1, .int .i64 a0_2, .int .i64 a0_3, .int .i64 a0_4, .int .i64 a0_5, .int .i64 a0_6]] rfl (by (try simp only [List.map_toArray, List.map_cons, List.map_nil]); first | done | rfl | (simp only [List.length_drop, List.length_take]; rfl)) ?_; (with_reducible refine (mem_Check.calls k a0_0 a0_1 a0_2 a0_3 a0_4 a0_5 a0_6 t225 _ A14.out ?gG).mono ?_); (case gG => exact G.below HG.out (by repeat (first | (with_reducible first | exact HB.out | apply below_alloc | apply pw_below_drewN | apply below_drew1 | refine below_set ?_ GE214.out | refine below_set ?_ GE224.out) | exact HB.out))); rintro e w18 ⟨rfl, hb⟩; refine ⟨_, rfl, ?_⟩; have n0_ := Aside0.mk (blk_below (g := gb214) (o := .cells #[.int .i64 a0_0, .int .i64 a0_1, .int .i64 a0_2, .int .i64 a0_3, .int .i64 a0_4, .int .i64 a0_5, .int .i64 a0_6] 25 (0, 0)) (by (with_reducible repeat (first | refine blk_drewN ?_ _ | refine blk_drew ?_ | refine blk_alloc ?_ _)); refine blk_far ?_ NB214_224.out _; (with_reducible repeat (first | refine blk_drewN ?_ _ | refine blk_drew ?_ | refine blk_alloc ?_ _)); refine blk_far ?_ NB214_224.out _; (with_reducible repeat (first | refine blk_drewN ?_ _ | refine blk_drew ?_ | refine blk_alloc ?_ _)); refine blk_far ?_ NB214_224.out _; (with_reducible repeat (first | refine blk_drewN ?_ _ | refine blk_drew ?_ | refine blk_alloc ?_ _)); refine blk_far ?_ NB214_224.out _; (with_reducible repeat (first | refine blk_drewN ?_ _ | refine blk_drew ?_ | refine blk_alloc ?_ _)); refine blk_far ?_ NB214_224.out _; (with_reducible repeat (first | refine blk_drewN ?_ _ | refine blk_drew ?_ | refine blk_alloc ?_ _)); refine blk_far ?_ NB214_224.out _; (with_reducible repeat (first | refine blk_drewN ?_ _ | refine blk_drew ?_ | refine blk_alloc ?_ _)); refine blk_far ?_ NB214_224.out _; (with_reducible repeat (first | refine blk_drewN ?_ _ | refine blk_drew ?_ | refine blk_alloc ?_ _)); exact BK214.out) hb); have n1_ := Aside0.mk (blk_below (g := gb224) (o := .cells #[.int .i64 t216, .int .i64 t217, .int .i64 t218, .int .i64 t219, .int .i64 t220, .int .i64 t221, .int .i64 t222] 25 (0, 0)) (by (with_reducible repeat (first | refine blk_drewN ?_ _ | refine blk_drew ?_ | refine blk_alloc ?_ _)); refine blk_put (cs := #[.int .i64 t216, .int .i64 t217, .int .i64 t218, .int .i64 t219, .int .i64 t220, .int .i64 t221, .int .i64 0]) ?_ 6 _ rfl; (with_reducible repeat (first | refine blk_drewN ?_ _ | refine blk_drew ?_ | refine blk_alloc ?_ _)); refine blk_put (cs := #[.int .i64 t216, .int .i64 t217, .int .i64 t218, .int .i64 t219, .int .i64 t220, .int .i64 0, .int .i64 0]) ?_ 5 _ rfl; (with_reducible repeat (first | refine blk_drewN ?_ _ | refine blk_drew ?_ | refine blk_alloc ?_ _)); refine blk_put (cs := #[.int .i64 t216, .int .i64 t217, .int .i64 t218, .int .i64 t219, .int .i64 0, .int .i64 0, .int .i64 0]) ?_ 4 _ rfl; (with_reducible repeat (first | refine blk_drewN ?_ _ | refine blk_drew ?_ | refine blk_alloc ?_ _)); refine blk_put (cs := #[.int .i64 t216, .int .i64 t217, .int .i64 t218, .int .i64 0, .int .i64 0, .int .i64 0, .int .i64 0]) ?_ 3 _ rfl; (with_reducible repeat (first | refine blk_drewN ?_ _ | refine blk_drew ?_ | refine blk_alloc ?_ _)); refine blk_put (cs := #[.int .i64 t216, .int .i64 t217, .int .i64 0, .int .i64 0, .int .i64 0, .int .i64 0, .int .i64 0]) ?_ 2 _ rfl; (with_reducible repeat (first | refine blk_drewN ?_ _ | refine blk_drew ?_ | refine blk_alloc ?_ _)); refine blk_put (cs := #[.int .i64 t216, .int .i64 0, .int .i64 0, .int .i64 0, .int .i64 0, .int .i64 0, .int .i64 0]) ?_ 1 _ rfl; (with_reducible repeat (first | refine blk_drewN ?_ _ | refine blk_drew ?_ | refine blk_alloc ?_ _)); refine blk_put (cs := #[.int .i64 0, .int .i64 0, .int .i64 0, .int .i64 0, .int .i64 0, .int .i64 0, .int .i64 0]) ?_ 0 _ rfl; (with_reducible repeat (first | refine blk_drewN ?_ _ | refine blk_drew ?_ | refine blk_alloc ?_ _)); exact BK224.out) hb); have n2_ := Aside0.mk (below_step (by repeat (first | (with_reducible first | exact HB.out | apply below_alloc | apply pw_below_drewN | apply below_drew1 | refine below_set ?_ GE214.out | refine below_set ?_ GE224.out) | exact HB.out)) hb); clear BK214; clear BK224; clear HB; have BK214 := n0_; have BK224 := n1_; have HB := n2_; clear n0_ n1_ n2_; (try clear hb); (try clear hb2); (try clear hk); (try clear hi)))
   go_meet
   case rel => exact ⟨_, (decide ((l1.length : Int) > 20)), (by first | rfl | (simp; done) | (simp [*]; done)), H', ⟨by first | omega | exact Nat.le_refl _⟩, ⟨by (with_reducible repeat (first | refine blk_drewN ?_ _ | refine blk_drew ?_ | refine blk_alloc ?_ _)); exact BK214.out⟩, ⟨by (with_reducible repeat (first | refine blk_drewN ?_ _ | refine blk_drew ?_ | refine blk_alloc ?_ _)); exact BK224.out⟩, ⟨by repeat (first | (with_reducible first | exact HB.out | apply below_alloc | apply pw_below_drewN | apply below_drew1 | refine below_set ?_ GE214.out | refine below_set ?_ GE224.out) | exact HB.out)⟩⟩
  ·rw [if_neg c15] at H
   have c15b0 : (t223 == t225) = false := beq_eq_false_iff_ne.mpr c15
   have c15b1 : (t223 != t225) = true := bne_iff_ne.mpr c15
   (first | rw [c15b0] | (simp only [i64_w, i32_w]; rw [c15b0]) | skip)
   have H' := Aside0.mk H
   clear H
   have hnb19 := NB214_224.out
   have hnc19 := NB224_214.out
   have hcz20_0 : w11.cell? ⟨gb214, 0, none⟩ = some (.int .i64 a0_0) := (blk_cell BK214.out 0).trans rfl
   have hcz20_1 : w11.cell? ⟨gb214, 1, none⟩ = some (.int .i64 a0_1) := (blk_cell BK214.out 1).trans rfl
   have hcz20_2 : w11.cell? ⟨gb214, 2, none⟩ = some (.int .i64 a0_2) := (blk_cell BK214.out 2).trans rfl
   have hcz20_3 : w11.cell? ⟨gb214, 3, none⟩ = some (.int .i64 a0_3) := (blk_cell BK214.out 3).trans rfl
   have hcz20_4 : w11.cell? ⟨gb214, 4, none⟩ = some (.int .i64 a0_4) := (blk_cell BK214.out 4).trans rfl
   have hcz20_5 : w11.cell? ⟨gb214, 5, none⟩ = some (.int .i64 a0_5) := (blk_cell BK214.out 5).trans rfl
   have hcz20_6 : w11.cell? ⟨gb214, 6, none⟩ = some (.int .i64 a0_6) := (blk_cell BK214.out 6).trans rfl
   have hfz20_0 := blk_frozen BK214.out 0
   have hfz20_1 := blk_frozen BK214.out 1
   have hfz20_2 := blk_frozen BK214.out 2
   have hfz20_3 := blk_frozen BK214.out 3
   have hfz20_4 := blk_frozen BK214.out 4
   have hfz20_5 := blk_frozen BK214.out 5
   have hfz20_6 := blk_frozen BK214.out 6
   go_wp2_with (first | ((with_reducible refine gate_callee (f := 15) rfl ?_); refine goesL_ (some 22) rfl rfl Tryd.func15 (by kernel_rfl) rfl #[.agg #[.int .i64 a0_0, .int .i64 a0_1, .int .i64 a0_2, .int .i64 a0_3, .int .i64 a0_4, .int .i64 a0_5, .int .i64 a0_6]] rfl (by (try simp only [List.map_toArray, List.map_cons, List.map_nil]); first | done | rfl | (simp only [List.length_drop, List.length_take]; rfl)) ?_; (with_reducible refine (mem_Check.calls k a0_0 a0_1 a0_2 a0_3 a0_4 a0_5 a0_6 t225 _ A14.out ?gG).mono ?_); (case gG => exact G.below HG.out (by repeat (first | (with_reducible first | exact HB.out | apply below_alloc | apply pw_below_drewN | apply below_drew1 | refine below_set ?_ GE214.out | refine below_set ?_ GE224.out) | exact HB.out))); rintro e w21 ⟨rfl, hb⟩; refine ⟨_, rfl, ?_⟩; have n0_ := Aside0.mk (blk_below (g := gb214) (o := .cells #[.int .i64 a0_0, .int .i64 a0_1, .int .i64 a0_2, .int .i64 a0_3, .int .i64 a0_4, .int .i64 a0_5, .int .i64 a0_6] 25 (0, 0)) (by (with_reducible repeat (first | refine blk_drewN ?_ _ | refine blk_drew ?_ | refine blk_alloc ?_ _)); refine blk_far ?_ NB214_224.out _; (with_reducible repeat (first | refine blk_drewN ?_ _ | refine blk_drew ?_ | refine blk_alloc ?_ _)); refine blk_far ?_ NB214_224.out _; (with_reducible repeat (first | refine blk_drewN ?_ _ | refine blk_drew ?_ | refine blk_alloc ?_ _)); refine blk_far ?_ NB214_224.out _; (with_reducible repeat (first | refine blk_drewN ?_ _ | refine blk_drew ?_ | refine blk_alloc ?_ _)); refine blk_far ?_ NB214_224.out _; (with_reducible repeat (first | refine blk_drewN ?_ _ | refine blk_drew ?_ | refine blk_alloc ?_ _)); refine blk_far ?_ NB214_224.out _; (with_reducible repeat (first | refine blk_drewN ?_ _ | refine blk_drew ?_ | refine blk_alloc ?_ _)); refine blk_far ?_ NB214_224.out _; (with_reducible repeat (first | refine blk_drewN ?_ _ | refine blk_drew ?_ | refine blk_alloc ?_ _)); refine blk_far ?_ NB214_224.out _; (with_reducible repeat (first | refine blk_drewN ?_ _ | refine blk_drew ?_ | refine blk_alloc ?_ _)); exact BK214.out) hb); have n1_ := Aside0.mk (blk_below (g := gb224) (o := .cells #[.int .i64 t216, .int .i64 t217, .int .i64 t218, .int .i64 t219, .int .i64 t220, .int .i64 t221, .int .i64 t222] 25 (0, 0)) (by (with_reducible repeat (first | refine blk_drewN ?_ _ | refine blk_drew ?_ | refine blk_alloc ?_ _)); refine blk_put (cs := #[.int .i64 t216, .int .i64 t217, .int .i64 t218, .int .i64 t219, .int .i64 t220, .int .i64 t221, .int .i64 0]) ?_ 6 _ rfl; (with_reducible repeat (first | refine blk_drewN ?_ _ | refine blk_drew ?_ | refine blk_alloc ?_ _)); refine blk_put (cs := #[.int .i64 t216, .int .i64 t217, .int .i64 t218, .int .i64 t219, .int .i64 t220, .int .i64 0, .int .i64 0]) ?_ 5 _ rfl; (with_reducible repeat (first | refine blk_drewN ?_ _ | refine blk_drew ?_ | refine blk_alloc ?_ _)); refine blk_put (cs := #[.int .i64 t216, .int .i64 t217, .int .i64 t218, .int .i64 t219, .int .i64 0, .int .i64 0, .int .i64 0]) ?_ 4 _ rfl; (with_reducible repeat (first | refine blk_drewN ?_ _ | refine blk_drew ?_ | refine blk_alloc ?_ _)); refine blk_put (cs := #[.int .i64 t216, .int .i64 t217, .int .i64 t218, .int .i64 0, .int .i64 0, .int .i64 0, .int .i64 0]) ?_ 3 _ rfl; (with_reducible repeat (first | refine blk_drewN ?_ _ | refine blk_drew ?_ | refine blk_alloc ?_ _)); refine blk_put (cs := #[.int .i64 t216, .int .i64 t217, .int .i64 0, .int .i64 0, .int .i64 0, .int .i64 0, .int .i64 0]) ?_ 2 _ rfl; (with_reducible repeat (first | refine blk_drewN ?_ _ | refine blk_drew ?_ | refine blk_alloc ?_ _)); refine blk_put (cs := #[.int .i64 t216, .int .i64 0, .int .i64 0, .int .i64 0, .int .i64 0, .int .i64 0, .int .i64 0]) ?_ 1 _ rfl; (with_reducible repeat (first | refine blk_drewN ?_ _ | refine blk_drew ?_ | refine blk_alloc ?_ _)); refine blk_put (cs := #[.int .i64 0, .int .i64 0, .int .i64 0, .int .i64 0, .int .i64 0, .int .i64 0, .int .i64 0]) ?_ 0 _ rfl; (with_reducible repeat (first | refine blk_drewN ?_ _ | refine blk_drew ?_ | refine blk_alloc ?_ _)); exact BK224.out) hb); have n2_ := Aside0.mk (below_step (by repeat (first | (with_reducible first | exact HB.out | apply below_alloc | apply pw_below_drewN | apply below_drew1 | refine below_set ?_ GE214.out | refine below_set ?_ GE224.out) | exact HB.out)) hb); clear BK214; clear BK224; clear HB; have BK214 := n0_; have BK224 := n1_; have HB := n2_; clear n0_ n1_ n2_; (try clear hb); (try clear hb2); (try clear hk); (try clear hi)))
   go_meet
   case rel => exact ⟨_, (true), (by first | rfl | (simp; done) | (simp [*]; done)), H', ⟨by first | omega | exact Nat.le_refl _⟩, ⟨by (with_reducible repeat (first | refine blk_drewN ?_ _ | refine blk_drew ?_ | refine blk_alloc ?_ _)); exact BK214.out⟩, ⟨by (with_reducible repeat (first | refine blk_drewN ?_ _ | refine blk_drew ?_ | refine blk_alloc ?_ _)); exact BK224.out⟩, ⟨by repeat (first | (with_reducible first | exact HB.out | apply below_alloc | apply pw_below_drewN | apply below_drew1 | refine below_set ?_ GE214.out | refine below_set ?_ GE224.out) | exact HB.out)⟩⟩
 case rest =>
  clear HC6
  try clear c1
  try clear p2
  try clear c5
  try clear c6
  try clear c12
  try clear c13
  try clear c15
  try clear c15b0
  try clear c15b1
  try clear c16
  try clear c19
  try clear hcz13_0
  try clear hcz13_1
  try clear hcz13_2
  try clear hcz13_3
  try clear hcz13_4
  try clear hcz13_5
  try clear hcz13_6
  try clear hcz17_0
  try clear hcz17_1
  try clear hcz17_2
  try clear hcz17_3
  try clear hcz17_4
  try clear hcz17_5
  try clear hcz17_6
  try clear hcz20_0
  try clear hcz20_1
  try clear hcz20_2
  try clear hcz20_3
  try clear hcz20_4
  try clear hcz20_5
  try clear hcz20_6
  try clear hcz9_0
  try clear hcz9_1
  try clear hcz9_2
  try clear hcz9_3
  try clear hcz9_4
  try clear hcz9_5
  try clear hcz9_6
  try clear hfz13_0
  try clear hfz13_1
  try clear hfz13_2
  try clear hfz13_3
  try clear hfz13_4
  try clear hfz13_5
  try clear hfz13_6
  try clear hfz17_0
  try clear hfz17_1
  try clear hfz17_2
  try clear hfz17_3
  try clear hfz17_4
  try clear hfz17_5
  try clear hfz17_6
  try clear hfz20_0
  try clear hfz20_1
  try clear hfz20_2
  try clear hfz20_3
  try clear hfz20_4
  try clear hfz20_5
  try clear hfz20_6
  try clear hfz9_0
  try clear hfz9_1
  try clear hfz9_2
  try clear hfz9_3
  try clear hfz9_4
  try clear hfz9_5
  try clear hfz9_6
  obtain ⟨kq, x28_5, rfl, HA, HJ5, BK214, BK224, HB⟩ := hcut
  cases kq with
  | zero => exact absurd HA.out (by simp [linotypelaw05_MemCanon.j0])
  | succ kj5 =>
   have H := HA.out
   clear HA
   simp only [linotypelaw05_MemCanon.j0] at H
   by_cases c22 : x28_5 = true
   ·subst c22
    have H1 : (if t215 = true then ((mem_Check.f kj5 a0_0 a0_1 a0_2 a0_3 a0_4 a0_5 a0_6).bind fun t226 => (some (t223 == t226))) else (some false)) = some true := by rw [if_pos rfl] at H; exact H
    clear H
    have H := H1
    clear H1
    by_cases c23 : t215 = true
    ·subst c23
     have H1 : ((mem_Check.f kj5 a0_0 a0_1 a0_2 a0_3 a0_4 a0_5 a0_6).bind fun t226 => (some (t223 == t226))) = some true := by rw [if_pos rfl] at H; exact H
     clear H
     have H := H1
     clear H1
     replace H := Option.bind_eq_some_iff.mp H
     obtain ⟨t226, A240, H⟩ := H
     replace H : (some (t223 == t226)) = some true := H
     have A24 := Aside0.mk A240
     clear A240
     have HQ0 := Aside0.mk (Option.some.inj H)
     clear H
     have hnb25 := NB214_224.out
     have hnc25 := NB224_214.out
     have hcz26_0 : wc.cell? ⟨gb214, 0, none⟩ = some (.int .i64 a0_0) := (blk_cell BK214.out 0).trans rfl
     have hcz26_1 : wc.cell? ⟨gb214, 1, none⟩ = some (.int .i64 a0_1) := (blk_cell BK214.out 1).trans rfl
     have hcz26_2 : wc.cell? ⟨gb214, 2, none⟩ = some (.int .i64 a0_2) := (blk_cell BK214.out 2).trans rfl
     have hcz26_3 : wc.cell? ⟨gb214, 3, none⟩ = some (.int .i64 a0_3) := (blk_cell BK214.out 3).trans rfl
     have hcz26_4 : wc.cell? ⟨gb214, 4, none⟩ = some (.int .i64 a0_4) := (blk_cell BK214.out 4).trans rfl
     have hcz26_5 : wc.cell? ⟨gb214, 5, none⟩ = some (.int .i64 a0_5) := (blk_cell BK214.out 5).trans rfl
     have hcz26_6 : wc.cell? ⟨gb214, 6, none⟩ = some (.int .i64 a0_6) := (blk_cell BK214.out 6).trans rfl
     have hfz26_0 := blk_frozen BK214.out 0
     have hfz26_1 := blk_frozen BK214.out 1
     have hfz26_2 := blk_frozen BK214.out 2
     have hfz26_3 := blk_frozen BK214.out 3
     have hfz26_4 := blk_frozen BK214.out 4
     have hfz26_5 := blk_frozen BK214.out 5
     have hfz26_6 := blk_frozen BK214.out 6
     go_wp2_with (first | (go_at_call 15; (with_reducible refine (mem_Check.calls kj5 a0_0 a0_1 a0_2 a0_3 a0_4 a0_5 a0_6 t226 _ A24.out ?gG).mono ?_); (case gG => exact G.below HG.out (by repeat (first | (with_reducible first | exact HB.out | apply below_alloc | apply pw_below_drewN | apply below_drew1 | refine below_set ?_ GE214.out | refine below_set ?_ GE224.out) | exact HB.out))); rintro e w27 ⟨rfl, hb⟩; have n0_ := Aside0.mk (blk_below (g := gb214) (o := .cells #[.int .i64 a0_0, .int .i64 a0_1, .int .i64 a0_2, .int .i64 a0_3, .int .i64 a0_4, .int .i64 a0_5, .int .i64 a0_6] 25 (0, 0)) (by (with_reducible repeat (first | refine blk_drewN ?_ _ | refine blk_drew ?_ | refine blk_alloc ?_ _)); exact BK214.out) hb); have n1_ := Aside0.mk (blk_below (g := gb224) (o := .cells #[.int .i64 t216, .int .i64 t217, .int .i64 t218, .int .i64 t219, .int .i64 t220, .int .i64 t221, .int .i64 t222] 25 (0, 0)) (by (with_reducible repeat (first | refine blk_drewN ?_ _ | refine blk_drew ?_ | refine blk_alloc ?_ _)); exact BK224.out) hb); have n2_ := Aside0.mk (below_step (by repeat (first | (with_reducible first | exact HB.out | apply below_alloc | apply pw_below_drewN | apply below_drew1 | refine below_set ?_ GE214.out | refine below_set ?_ GE224.out) | exact HB.out)) hb); clear BK214; clear BK224; clear HB; have BK214 := n0_; have BK224 := n1_; have HB := n2_; clear n0_ n1_ n2_; (try clear hb); (try clear hb2); (try clear hk); (try clear hi)))
     go_ret
     exact ⟨by first | (exact congrArg (fun b_ => Ending.returned (.bool b_)) HQ0.out) | rfl | (simp [errW_none, errW_some] <;> rfl) | (simp [*, errW_none, errW_some] <;> rfl), by repeat (first | (with_reducible first | exact HB.out | apply below_alloc | apply pw_below_drewN | apply below_drew1 | refine below_set ?_ GE214.out | refine below_set ?_ GE224.out) | exact HB.out)⟩
    ·replace c23 := Bool.eq_false_iff.mpr c23
     subst c23
     have H1 : (some false) = some true := by rw [if_neg (show ¬ (false = true) by decide)] at H; exact H
     clear H
     have H := H1
     clear H1
     exact absurd H (by simp)
   ·replace c22 := Bool.eq_false_iff.mpr c22
    subst c22
    have H1 : (if t223 = 0 then ((mem_Address.f kj5 a0_0 a0_1 a0_2 a0_3 a0_4 a0_5 a0_6 l1 a2).bind fun bt227 => ((mem_Address.f kj5 t216 t217 t218 t219 t220 t221 t222 l1 a2).bind fun bt229 => (if t215 = true then ((mem_Check.f kj5 t216 t217 t218 t219 t220 t221 t222).bind fun t231 => (if t231 = 0 then ((linotypelaw05_canon.f kj5 t216 t217 t218 t219 t220 t221 t222 t216 t217 t218 t219 t220 t221 t222).bind fun t232 => (if t232 = true then ((mem_Same.f kj5 a0_0 a0_1 a0_2 a0_3 a0_4 a0_5 a0_6 t216 t217 t218 t219 t220 t221 t222).bind fun t233 => (if t233 = true then ((mem_Same.f kj5 t216 t217 t218 t219 t220 t221 t222 a0_0 a0_1 a0_2 a0_3 a0_4 a0_5 a0_6).bind fun t234 => (if t234 = true then (if bt227.1 = bt229.1 then (if bt227.2 = bt229.2 then (if ((bt227.2 == 0) == ((l1.length : Int) == 16)) = true then (if t222 = a0_6 then (some (t221 == a0_5)) else (some false)) else (some false)) else (some false)) else (some false)) else (some false))) else (some false))) else (some false))) else (some false))) else (some false)))) else (if t215 = true then (some ((t216 == 0 && (t217 == 0)) && ((t218 == 0 && (t219 == 0)) && (t220 == 0 && (t221 == 0 && (t222 == 0)))))) else (some false))) = some true := by rw [if_neg (show ¬ (false = true) by decide)] at H; exact H
    clear H
    have H := H1
    clear H1
    by_cases c28 : t223 = 0
    ·rw [if_pos c28] at H
     have c28b0 : (t223 == 0) = true := beq_iff_eq.mpr c28
     have c28b1 : (t223 != 0) = false := bne_eq_false_iff_eq.mpr c28
     clear c28
     replace H := Option.bind_eq_some_iff.mp H
     obtain ⟨⟨t227, t228⟩, A290, H⟩ := H
     replace H : ((mem_Address.f kj5 t216 t217 t218 t219 t220 t221 t222 l1 a2).bind fun bt229 => (if t215 = true then ((mem_Check.f kj5 t216 t217 t218 t219 t220 t221 t222).bind fun t231 => (if t231 = 0 then ((linotypelaw05_canon.f kj5 t216 t217 t218 t219 t220 t221 t222 t216 t217 t218 t219 t220 t221 t222).bind fun t232 => (if t232 = true then ((mem_Same.f kj5 a0_0 a0_1 a0_2 a0_3 a0_4 a0_5 a0_6 t216 t217 t218 t219 t220 t221 t222).bind fun t233 => (if t233 = true then ((mem_Same.f kj5 t216 t217 t218 t219 t220 t221 t222 a0_0 a0_1 a0_2 a0_3 a0_4 a0_5 a0_6).bind fun t234 => (if t234 = true then (if t227 = bt229.1 then (if t228 = bt229.2 then (if ((t228 == 0) == ((l1.length : Int) == 16)) = true then (if t222 = a0_6 then (some (t221 == a0_5)) else (some false)) else (some false)) else (some false)) else (some false)) else (some false))) else (some false))) else (some false))) else (some false))) else (some false))) = some true := H
     have A29 := Aside0.mk A290
     clear A290
     replace H := Option.bind_eq_some_iff.mp H
     obtain ⟨⟨t229, t230⟩, A300, H⟩ := H
     replace H : (if t215 = true then ((mem_Check.f kj5 t216 t217 t218 t219 t220 t221 t222).bind fun t231 => (if t231 = 0 then ((linotypelaw05_canon.f kj5 t216 t217 t218 t219 t220 t221 t222 t216 t217 t218 t219 t220 t221 t222).bind fun t232 => (if t232 = true then ((mem_Same.f kj5 a0_0 a0_1 a0_2 a0_3 a0_4 a0_5 a0_6 t216 t217 t218 t219 t220 t221 t222).bind fun t233 => (if t233 = true then ((mem_Same.f kj5 t216 t217 t218 t219 t220 t221 t222 a0_0 a0_1 a0_2 a0_3 a0_4 a0_5 a0_6).bind fun t234 => (if t234 = true then (if t227 = t229 then (if t228 = t230 then (if ((t228 == 0) == ((l1.length : Int) == 16)) = true then (if t222 = a0_6 then (some (t221 == a0_5)) else (some false)) else (some false)) else (some false)) else (some false)) else (some false))) else (some false))) else (some false))) else (some false))) else (some false)) = some true := H
     have A30 := Aside0.mk A300
     clear A300
     by_cases c31 : t215 = true
     ·subst c31
      have H1 : ((mem_Check.f kj5 t216 t217 t218 t219 t220 t221 t222).bind fun t231 => (if t231 = 0 then ((linotypelaw05_canon.f kj5 t216 t217 t218 t219 t220 t221 t222 t216 t217 t218 t219 t220 t221 t222).bind fun t232 => (if t232 = true then ((mem_Same.f kj5 a0_0 a0_1 a0_2 a0_3 a0_4 a0_5 a0_6 t216 t217 t218 t219 t220 t221 t222).bind fun t233 => (if t233 = true then ((mem_Same.f kj5 t216 t217 t218 t219 t220 t221 t222 a0_0 a0_1 a0_2 a0_3 a0_4 a0_5 a0_6).bind fun t234 => (if t234 = true then (if t227 = t229 then (if t228 = t230 then (if ((t228 == 0) == ((l1.length : Int) == 16)) = true then (if t222 = a0_6 then (some (t221 == a0_5)) else (some false)) else (some false)) else (some false)) else (some false)) else (some false))) else (some false))) else (some false))) else (some false))) = some true := by rw [if_pos rfl] at H; exact H
      clear H
      have H := H1
      clear H1
      replace H := Option.bind_eq_some_iff.mp H
      obtain ⟨t231, A320, H⟩ := H
      replace H : (if t231 = 0 then ((linotypelaw05_canon.f kj5 t216 t217 t218 t219 t220 t221 t222 t216 t217 t218 t219 t220 t221 t222).bind fun t232 => (if t232 = true then ((mem_Same.f kj5 a0_0 a0_1 a0_2 a0_3 a0_4 a0_5 a0_6 t216 t217 t218 t219 t220 t221 t222).bind fun t233 => (if t233 = true then ((mem_Same.f kj5 t216 t217 t218 t219 t220 t221 t222 a0_0 a0_1 a0_2 a0_3 a0_4 a0_5 a0_6).bind fun t234 => (if t234 = true then (if t227 = t229 then (if t228 = t230 then (if ((t228 == 0) == ((l1.length : Int) == 16)) = true then (if t222 = a0_6 then (some (t221 == a0_5)) else (some false)) else (some false)) else (some false)) else (some false)) else (some false))) else (some false))) else (some false))) else (some false)) = some true := H
      have A32 := Aside0.mk A320
      clear A320
      by_cases c33 : t231 = 0
      ·rw [if_pos c33] at H
       have c33b0 : (t231 == 0) = true := beq_iff_eq.mpr c33
       have c33b1 : (t231 != 0) = false := bne_eq_false_iff_eq.mpr c33
       clear c33
       replace H := Option.bind_eq_some_iff.mp H
       obtain ⟨t232, A340, H⟩ := H
       replace H : (if t232 = true then ((mem_Same.f kj5 a0_0 a0_1 a0_2 a0_3 a0_4 a0_5 a0_6 t216 t217 t218 t219 t220 t221 t222).bind fun t233 => (if t233 = true then ((mem_Same.f kj5 t216 t217 t218 t219 t220 t221 t222 a0_0 a0_1 a0_2 a0_3 a0_4 a0_5 a0_6).bind fun t234 => (if t234 = true then (if t227 = t229 then (if t228 = t230 then (if ((t228 == 0) == ((l1.length : Int) == 16)) = true then (if t222 = a0_6 then (some (t221 == a0_5)) else (some false)) else (some false)) else (some false)) else (some false)) else (some false))) else (some false))) else (some false)) = some true := H
       have A34 := Aside0.mk A340
       clear A340
       by_cases c35 : t232 = true
       ·subst c35
        have H1 : ((mem_Same.f kj5 a0_0 a0_1 a0_2 a0_3 a0_4 a0_5 a0_6 t216 t217 t218 t219 t220 t221 t222).bind fun t233 => (if t233 = true then ((mem_Same.f kj5 t216 t217 t218 t219 t220 t221 t222 a0_0 a0_1 a0_2 a0_3 a0_4 a0_5 a0_6).bind fun t234 => (if t234 = true then (if t227 = t229 then (if t228 = t230 then (if ((t228 == 0) == ((l1.length : Int) == 16)) = true then (if t222 = a0_6 then (some (t221 == a0_5)) else (some false)) else (some false)) else (some false)) else (some false)) else (some false))) else (some false))) = some true := by rw [if_pos rfl] at H; exact H
        clear H
        have H := H1
        clear H1
        replace H := Option.bind_eq_some_iff.mp H
        obtain ⟨t233, A360, H⟩ := H
        replace H : (if t233 = true then ((mem_Same.f kj5 t216 t217 t218 t219 t220 t221 t222 a0_0 a0_1 a0_2 a0_3 a0_4 a0_5 a0_6).bind fun t234 => (if t234 = true then (if t227 = t229 then (if t228 = t230 then (if ((t228 == 0) == ((l1.length : Int) == 16)) = true then (if t222 = a0_6 then (some (t221 == a0_5)) else (some false)) else (some false)) else (some false)) else (some false)) else (some false))) else (some false)) = some true := H
        have A36 := Aside0.mk A360
        clear A360
        by_cases c37 : t233 = true
        ·subst c37
         have H1 : ((mem_Same.f kj5 t216 t217 t218 t219 t220 t221 t222 a0_0 a0_1 a0_2 a0_3 a0_4 a0_5 a0_6).bind fun t234 => (if t234 = true then (if t227 = t229 then (if t228 = t230 then (if ((t228 == 0) == ((l1.length : Int) == 16)) = true then (if t222 = a0_6 then (some (t221 == a0_5)) else (some false)) else (some false)) else (some false)) else (some false)) else (some false))) = some true := by rw [if_pos rfl] at H; exact H
         clear H
         have H := H1
         clear H1
         replace H := Option.bind_eq_some_iff.mp H
         obtain ⟨t234, A380, H⟩ := H
         replace H : (if t234 = true then (if t227 = t229 then (if t228 = t230 then (if ((t228 == 0) == ((l1.length : Int) == 16)) = true then (if t222 = a0_6 then (some (t221 == a0_5)) else (some false)) else (some false)) else (some false)) else (some false)) else (some false)) = some true := H
         have A38 := Aside0.mk A380
         clear A380
         by_cases c39 : t234 = true
         ·subst c39
          have H1 : (if t227 = t229 then (if t228 = t230 then (if ((t228 == 0) == ((l1.length : Int) == 16)) = true then (if t222 = a0_6 then (some (t221 == a0_5)) else (some false)) else (some false)) else (some false)) else (some false)) = some true := by rw [if_pos rfl] at H; exact H
          clear H
          have H := H1
          clear H1
          by_cases c40 : t227 = t229
          ·rw [if_pos c40] at H
           have c40b0 : (t227 == t229) = true := beq_iff_eq.mpr c40
           have c40b1 : (t227 != t229) = false := bne_eq_false_iff_eq.mpr c40
           clear c40
           by_cases c41 : t228 = t230
           ·rw [if_pos c41] at H
            have c41b0 : (t228 == t230) = true := beq_iff_eq.mpr c41
            have c41b1 : (t228 != t230) = false := bne_eq_false_iff_eq.mpr c41
            clear c41
            by_cases c42 : ((t228 == 0) == ((l1.length : Int) == 16)) = true
            ·rw [if_pos c42] at H
             have c42b0 : ((t228 == 0) == ((l1.length : Int) == 16)) = true := c42
             (try (have c42b1 : decide ((t228 == 0) = ((l1.length : Int) == 16)) = true := by simpa using c42))
             (try (have c42b2 : ((t228 == 0) == ((l1.length : Int) == 16)) = true := by simpa using c42))
             clear c42
             by_cases c43 : t222 = a0_6
             ·rw [if_pos c43] at H
              have c43b0 : (t222 == a0_6) = true := beq_iff_eq.mpr c43
              have c43b1 : (t222 != a0_6) = false := bne_eq_false_iff_eq.mpr c43
              clear c43
              have HQ0 := Aside0.mk (Option.some.inj H)
              clear H
              have hnb44 := NB214_224.out
              have hnc44 := NB224_214.out
              have hcz45_0 : wc.cell? ⟨gb214, 0, none⟩ = some (.int .i64 a0_0) := (blk_cell BK214.out 0).trans rfl
              have hcz45_1 : wc.cell? ⟨gb214, 1, none⟩ = some (.int .i64 a0_1) := (blk_cell BK214.out 1).trans rfl
              have hcz45_2 : wc.cell? ⟨gb214, 2, none⟩ = some (.int .i64 a0_2) := (blk_cell BK214.out 2).trans rfl
              have hcz45_3 : wc.cell? ⟨gb214, 3, none⟩ = some (.int .i64 a0_3) := (blk_cell BK214.out 3).trans rfl
              have hcz45_4 : wc.cell? ⟨gb214, 4, none⟩ = some (.int .i64 a0_4) := (blk_cell BK214.out 4).trans rfl
              have hcz45_5 : wc.cell? ⟨gb214, 5, none⟩ = some (.int .i64 a0_5) := (blk_cell BK214.out 5).trans rfl
              have hcz45_6 : wc.cell? ⟨gb214, 6, none⟩ = some (.int .i64 a0_6) := (blk_cell BK214.out 6).trans rfl
              have hfz45_0 := blk_frozen BK214.out 0
              have hfz45_1 := blk_frozen BK214.out 1
              have hfz45_2 := blk_frozen BK214.out 2
              have hfz45_3 := blk_frozen BK214.out 3
              have hfz45_4 := blk_frozen BK214.out 4
              have hfz45_5 := blk_frozen BK214.out 5
              have hfz45_6 := blk_frozen BK214.out 6
              go_wp2_with (first | ((with_reducible refine gate_callee (f := 21) rfl ?_); refine goesL_ (some 48) rfl rfl Tryd.func21 (by kernel_rfl) rfl #[.agg #[.int .i64 a0_0, .int .i64 a0_1, .int .i64 a0_2, .int .i64 a0_3, .int .i64 a0_4, .int .i64 a0_5, .int .i64 a0_6], .slice A1 l1.length c1, .int .i64 a2] rfl (by (try simp only [List.map_toArray, List.map_cons, List.map_nil]); first | done | rfl | (simp only [List.length_drop, List.length_take]; rfl)) ?_; (with_reducible refine (mem_Address.calls kj5 a0_0 a0_1 a0_2 a0_3 a0_4 a0_5 a0_6 _ _ l1 a2 t227 t228 _ ?side1 ?side2 A29.out ?gG).mono ?_); (case gG => exact G.below HG.out (by repeat (first | (with_reducible first | exact HB.out | apply below_alloc | apply pw_below_drewN | apply below_drew1 | refine below_set ?_ GE214.out | refine below_set ?_ GE224.out) | exact HB.out))); (case side1 => repeat (first | exact (Kd.C_below HR1.out HB.out) | (with_reducible refine Kd.C_alloc ?_ _) | (with_reducible refine Kd.C_drewN ?_ _) | (with_reducible refine Kd.C_drew ?_))); (case side2 => exact HC1.out); rintro e w46 ⟨rfl, hb⟩; refine ⟨_, rfl, ?_⟩; have n0_ := Aside0.mk (blk_below (g := gb214) (o := .cells #[.int .i64 a0_0, .int .i64 a0_1, .int .i64 a0_2, .int .i64 a0_3, .int .i64 a0_4, .int .i64 a0_5, .int .i64 a0_6] 25 (0, 0)) (by (with_reducible repeat (first | refine blk_drewN ?_ _ | refine blk_drew ?_ | refine blk_alloc ?_ _)); exact BK214.out) hb); have n1_ := Aside0.mk (blk_below (g := gb224) (o := .cells #[.int .i64 t216, .int .i64 t217, .int .i64 t218, .int .i64 t219, .int .i64 t220, .int .i64 t221, .int .i64 t222] 25 (0, 0)) (by (with_reducible repeat (first | refine blk_drewN ?_ _ | refine blk_drew ?_ | refine blk_alloc ?_ _)); exact BK224.out) hb); have n2_ := Aside0.mk (below_step (by repeat (first | (with_reducible first | exact HB.out | apply below_alloc | apply pw_below_drewN | apply below_drew1 | refine below_set ?_ GE214.out | refine below_set ?_ GE224.out) | exact HB.out)) hb); clear BK214; clear BK224; clear HB; have BK214 := n0_; have BK224 := n1_; have HB := n2_; clear n0_ n1_ n2_; (try clear hb); (try clear hb2); (try clear hk); (try clear hi); have hcz47_0 : w46.cell? ⟨gb224, 0, none⟩ = some (.int .i64 t216) := (blk_cell BK224.out 0).trans rfl; have hcz47_1 : w46.cell? ⟨gb224, 1, none⟩ = some (.int .i64 t217) := (blk_cell BK224.out 1).trans rfl; have hcz47_2 : w46.cell? ⟨gb224, 2, none⟩ = some (.int .i64 t218) := (blk_cell BK224.out 2).trans rfl; have hcz47_3 : w46.cell? ⟨gb224, 3, none⟩ = some (.int .i64 t219) := (blk_cell BK224.out 3).trans rfl; have hcz47_4 : w46.cell? ⟨gb224, 4, none⟩ = some (.int .i64 t220) := (blk_cell BK224.out 4).trans rfl; have hcz47_5 : w46.cell? ⟨gb224, 5, none⟩ = some (.int .i64 t221) := (blk_cell BK224.out 5).trans rfl; have hcz47_6 : w46.cell? ⟨gb224, 6, none⟩ = some (.int .i64 t222) := (blk_cell BK224.out 6).trans rfl; have hfz47_0 := blk_frozen BK224.out 0; have hfz47_1 := blk_frozen BK224.out 1; have hfz47_2 := blk_frozen BK224.out 2; have hfz47_3 := blk_frozen BK224.out 3; have hfz47_4 := blk_frozen BK224.out 4; have hfz47_5 := blk_frozen BK224.out 5; have hfz47_6 := blk_frozen BK224.out 6) | ((with_reducible refine gate_callee (f := 21) rfl ?_); refine goesL_ (some 55) rfl rfl Tryd.func21 (by kernel_rfl) rfl #[.agg #[.int .i64 t216, .int .i64 t217, .int .i64 t218, .int .i64 t219, .int .i64 t220, .int .i64 t221, .int .i64 t222], .slice A1 l1.length c1, .int .i64 a2] rfl (by (try simp only [List.map_toArray, List.map_cons, List.map_nil]); first | done | rfl | (simp only [List.length_drop, List.length_take]; rfl)) ?_; (with_reducible refine (mem_Address.calls kj5 t216 t217 t218 t219 t220 t221 t222 _ _ l1 a2 t229 t230 _ ?side1 ?side2 A30.out ?gG).mono ?_); (case gG => exact G.below HG.out (by repeat (first | (with_reducible first | exact HB.out | apply below_alloc | apply pw_below_drewN | apply below_drew1 | refine below_set ?_ GE214.out | refine below_set ?_ GE224.out) | exact HB.out))); (case side1 => repeat (first | exact (Kd.C_below HR1.out HB.out) | (with_reducible refine Kd.C_alloc ?_ _) | (with_reducible refine Kd.C_drewN ?_ _) | (with_reducible refine Kd.C_drew ?_))); (case side2 => exact HC1.out); rintro e w48 ⟨rfl, hb⟩; refine ⟨_, rfl, ?_⟩; have n0_ := Aside0.mk (blk_below (g := gb214) (o := .cells #[.int .i64 a0_0, .int .i64 a0_1, .int .i64 a0_2, .int .i64 a0_3, .int .i64 a0_4, .int .i64 a0_5, .int .i64 a0_6] 25 (0, 0)) (by (with_reducible repeat (first | refine blk_drewN ?_ _ | refine blk_drew ?_ | refine blk_alloc ?_ _)); exact BK214.out) hb); have n1_ := Aside0.mk (blk_below (g := gb224) (o := .cells #[.int .i64 t216, .int .i64 t217, .int .i64 t218, .int .i64 t219, .int .i64 t220, .int .i64 t221, .int .i64 t222] 25 (0, 0)) (by (with_reducible repeat (first | refine blk_drewN ?_ _ | refine blk_drew ?_ | refine blk_alloc ?_ _)); exact BK224.out) hb); have n2_ := Aside0.mk (below_step (by repeat (first | (with_reducible first | exact HB.out | apply below_alloc | apply pw_below_drewN | apply below_drew1 | refine below_set ?_ GE214.out | refine below_set ?_ GE224.out) | exact HB.out)) hb); clear BK214; clear BK224; clear HB; have BK214 := n0_; have BK224 := n1_; have HB := n2_; clear n0_ n1_ n2_; (try clear hb); (try clear hb2); (try clear hk); (try clear hi); have hcz49_0 : w48.cell? ⟨gb224, 0, none⟩ = some (.int .i64 t216) := (blk_cell BK224.out 0).trans rfl; have hcz49_1 : w48.cell? ⟨gb224, 1, none⟩ = some (.int .i64 t217) := (blk_cell BK224.out 1).trans rfl; have hcz49_2 : w48.cell? ⟨gb224, 2, none⟩ = some (.int .i64 t218) := (blk_cell BK224.out 2).trans rfl; have hcz49_3 : w48.cell? ⟨gb224, 3, none⟩ = some (.int .i64 t219) := (blk_cell BK224.out 3).trans rfl; have hcz49_4 : w48.cell? ⟨gb224, 4, none⟩ = some (.int .i64 t220) := (blk_cell BK224.out 4).trans rfl; have hcz49_5 : w48.cell? ⟨gb224, 5, none⟩ = some (.int .i64 t221) := (blk_cell BK224.out 5).trans rfl; have hcz49_6 : w48.cell? ⟨gb224, 6, none⟩ = some (.int .i64 t222) := (blk_cell BK224.out 6).trans rfl; have hfz49_0 := blk_frozen BK224.out 0; have hfz49_1 := blk_frozen BK224.out 1; have hfz49_2 := blk_frozen BK224.out 2; have hfz49_3 := blk_frozen BK224.out 3; have hfz49_4 := blk_frozen BK224.out 4; have hfz49_5 := blk_frozen BK224.out 5; have hfz49_6 := blk_frozen BK224.out 6) | (go_at_call 15; (with_reducible refine (mem_Check.calls kj5 t216 t217 t218 t219 t220 t221 t222 t231 _ A32.out ?gG).mono ?_); (case gG => exact G.below HG.out (by repeat (first | (with_reducible first | exact HB.out | apply below_alloc | apply pw_below_drewN | apply below_drew1 | refine below_set ?_ GE214.out | refine below_set ?_ GE224.out) | exact HB.out))); rintro e w50 ⟨rfl, hb⟩; have n0_ := Aside0.mk (blk_below (g := gb214) (o := .cells #[.int .i64 a0_0, .int .i64 a0_1, .int .i64 a0_2, .int .i64 a0_3, .int .i64 a0_4, .int .i64 a0_5, .int .i64 a0_6] 25 (0, 0)) (by (with_reducible repeat (first | refine blk_drewN ?_ _ | refine blk_drew ?_ | refine blk_alloc ?_ _)); exact BK214.out) hb); have n1_ := Aside0.mk (blk_below (g := gb224) (o := .cells #[.int .i64 t216, .int .i64 t217, .int .i64 t218, .int .i64 t219, .int .i64 t220, .int .i64 t221, .int .i64 t222] 25 (0, 0)) (by (with_reducible repeat (first | refine blk_drewN ?_ _ | refine blk_drew ?_ | refine blk_alloc ?_ _)); exact BK224.out) hb); have n2_ := Aside0.mk (below_step (by repeat (first | (with_reducible first | exact HB.out | apply below_alloc | apply pw_below_drewN | apply below_drew1 | refine below_set ?_ GE214.out | refine below_set ?_ GE224.out) | exact HB.out)) hb); clear BK214; clear BK224; clear HB; have BK214 := n0_; have BK224 := n1_; have HB := n2_; clear n0_ n1_ n2_; (try clear hb); (try clear hb2); (try clear hk); (try clear hi); have hcz51_0 : w50.cell? ⟨gb224, 0, none⟩ = some (.int .i64 t216) := (blk_cell BK224.out 0).trans rfl; have hcz51_1 : w50.cell? ⟨gb224, 1, none⟩ = some (.int .i64 t217) := (blk_cell BK224.out 1).trans rfl; have hcz51_2 : w50.cell? ⟨gb224, 2, none⟩ = some (.int .i64 t218) := (blk_cell BK224.out 2).trans rfl; have hcz51_3 : w50.cell? ⟨gb224, 3, none⟩ = some (.int .i64 t219) := (blk_cell BK224.out 3).trans rfl; have hcz51_4 : w50.cell? ⟨gb224, 4, none⟩ = some (.int .i64 t220) := (blk_cell BK224.out 4).trans rfl; have hcz51_5 : w50.cell? ⟨gb224, 5, none⟩ = some (.int .i64 t221) := (blk_cell BK224.out 5).trans rfl; have hcz51_6 : w50.cell? ⟨gb224, 6, none⟩ = some (.int .i64 t222) := (blk_cell BK224.out 6).trans rfl; have hfz51_0 := blk_frozen BK224.out 0; have hfz51_1 := blk_frozen BK224.out 1; have hfz51_2 := blk_frozen BK224.out 2; have hfz51_3 := blk_frozen BK224.out 3; have hfz51_4 := blk_frozen BK224.out 4; have hfz51_5 := blk_frozen BK224.out 5; have hfz51_6 := blk_frozen BK224.out 6) | (go_at_call 24; (with_reducible refine (linotypelaw05_canon.calls kj5 t216 t217 t218 t219 t220 t221 t222 t216 t217 t218 t219 t220 t221 t222 true _ A34.out ?gG).mono ?_); (case gG => exact G.below HG.out (by repeat (first | (with_reducible first | exact HB.out | apply below_alloc | apply pw_below_drewN | apply below_drew1 | refine below_set ?_ GE214.out | refine below_set ?_ GE224.out) | exact HB.out))); rintro e w52 ⟨rfl, hb⟩; have n0_ := Aside0.mk (blk_below (g := gb214) (o := .cells #[.int .i64 a0_0, .int .i64 a0_1, .int .i64 a0_2, .int .i64 a0_3, .int .i64 a0_4, .int .i64 a0_5, .int .i64 a0_6] 25 (0, 0)) (by (with_reducible repeat (first | refine blk_drewN ?_ _ | refine blk_drew ?_ | refine blk_alloc ?_ _)); exact BK214.out) hb); have n1_ := Aside0.mk (blk_below (g := gb224) (o := .cells #[.int .i64 t216, .int .i64 t217, .int .i64 t218, .int .i64 t219, .int .i64 t220, .int .i64 t221, .int .i64 t222] 25 (0, 0)) (by (with_reducible repeat (first | refine blk_drewN ?_ _ | refine blk_drew ?_ | refine blk_alloc ?_ _)); exact BK224.out) hb); have n2_ := Aside0.mk (below_step (by repeat (first | (with_reducible first | exact HB.out | apply below_alloc | apply pw_below_drewN | apply below_drew1 | refine below_set ?_ GE214.out | refine below_set ?_ GE224.out) | exact HB.out)) hb); clear BK214; clear BK224; clear HB; have BK214 := n0_; have BK224 := n1_; have HB := n2_; clear n0_ n1_ n2_; (try clear hb); (try clear hb2); (try clear hk); (try clear hi); have hcz53_0 : w52.cell? ⟨gb214, 0, none⟩ = some (.int .i64 a0_0) := (blk_cell BK214.out 0).trans rfl; have hcz53_1 : w52.cell? ⟨gb214, 1, none⟩ = some (.int .i64 a0_1) := (blk_cell BK214.out 1).trans rfl; have hcz53_2 : w52.cell? ⟨gb214, 2, none⟩ = some (.int .i64 a0_2) := (blk_cell BK214.out 2).trans rfl; have hcz53_3 : w52.cell? ⟨gb214, 3, none⟩ = some (.int .i64 a0_3) := (blk_cell BK214.out 3).trans rfl; have hcz53_4 : w52.cell? ⟨gb214, 4, none⟩ = some (.int .i64 a0_4) := (blk_cell BK214.out 4).trans rfl; have hcz53_5 : w52.cell? ⟨gb214, 5, none⟩ = some (.int .i64 a0_5) := (blk_cell BK214.out 5).trans rfl; have hcz53_6 : w52.cell? ⟨gb214, 6, none⟩ = some (.int .i64 a0_6) := (blk_cell BK214.out 6).trans rfl; have hfz53_0 := blk_frozen BK214.out 0; have hfz53_1 := blk_frozen BK214.out 1; have hfz53_2 := blk_frozen BK214.out 2; have hfz53_3 := blk_frozen BK214.out 3; have hfz53_4 := blk_frozen BK214.out 4; have hfz53_5 := blk_frozen BK214.out 5; have hfz53_6 := blk_frozen BK214.out 6; have hcz54_0 : w52.cell? ⟨gb224, 0, none⟩ = some (.int .i64 t216) := (blk_cell BK224.out 0).trans rfl; have hcz54_1 : w52.cell? ⟨gb224, 1, none⟩ = some (.int .i64 t217) := (blk_cell BK224.out 1).trans rfl; have hcz54_2 : w52.cell? ⟨gb224, 2, none⟩ = some (.int .i64 t218) := (blk_cell BK224.out 2).trans rfl; have hcz54_3 : w52.cell? ⟨gb224, 3, none⟩ = some (.int .i64 t219) := (blk_cell BK224.out 3).trans rfl; have hcz54_4 : w52.cell? ⟨gb224, 4, none⟩ = some (.int .i64 t220) := (blk_cell BK224.out 4).trans rfl; have hcz54_5 : w52.cell? ⟨gb224, 5, none⟩ = some (.int .i64 t221) := (blk_cell BK224.out 5).trans rfl; have hcz54_6 : w52.cell? ⟨gb224, 6, none⟩ = some (.int .i64 t222) := (blk_cell BK224.out 6).trans rfl; have hfz54_0 := blk_frozen BK224.out 0; have hfz54_1 := blk_frozen BK224.out 1; have hfz54_2 := blk_frozen BK224.out 2; have hfz54_3 := blk_frozen BK224.out 3; have hfz54_4 := blk_frozen BK224.out 4; have hfz54_5 := blk_frozen BK224.out 5; have hfz54_6 := blk_frozen BK224.out 6) | (go_at_call 17; (with_reducible refine (mem_Same.calls kj5 a0_0 a0_1 a0_2 a0_3 a0_4 a0_5 a0_6 t216 t217 t218 t219 t220 t221 t222 true _ A36.out ?gG).mono ?_); (case gG => exact G.below HG.out (by repeat (first | (with_reducible first | exact HB.out | apply below_alloc | apply pw_below_drewN | apply below_drew1 | refine below_set ?_ GE214.out | refine below_set ?_ GE224.out) | exact HB.out))); rintro e w55 ⟨rfl, hb⟩; have n0_ := Aside0.mk (blk_below (g := gb214) (o := .cells #[.int .i64 a0_0, .int .i64 a0_1, .int .i64 a0_2, .int .i64 a0_3, .int .i64 a0_4, .int .i64 a0_5, .int .i64 a0_6] 25 (0, 0)) (by (with_reducible repeat (first | refine blk_drewN ?_ _ | refine blk_drew ?_ | refine blk_alloc ?_ _)); exact BK214.out) hb); have n1_ := Aside0.mk (blk_below (g := gb224) (o := .cells #[.int .i64 t216, .int .i64 t217, .int .i64 t218, .int .i64 t219, .int .i64 t220, .int .i64 t221, .int .i64 t222] 25 (0, 0)) (by (with_reducible repeat (first | refine blk_drewN ?_ _ | refine blk_drew ?_ | refine blk_alloc ?_ _)); exact BK224.out) hb); have n2_ := Aside0.mk (below_step (by repeat (first | (with_reducible first | exact HB.out | apply below_alloc | apply pw_below_drewN | apply below_drew1 | refine below_set ?_ GE214.out | refine below_set ?_ GE224.out) | exact HB.out)) hb); clear BK214; clear BK224; clear HB; have BK214 := n0_; have BK224 := n1_; have HB := n2_; clear n0_ n1_ n2_; (try clear hb); (try clear hb2); (try clear hk); (try clear hi); have hcz56_0 : w55.cell? ⟨gb224, 0, none⟩ = some (.int .i64 t216) := (blk_cell BK224.out 0).trans rfl; have hcz56_1 : w55.cell? ⟨gb224, 1, none⟩ = some (.int .i64 t217) := (blk_cell BK224.out 1).trans rfl; have hcz56_2 : w55.cell? ⟨gb224, 2, none⟩ = some (.int .i64 t218) := (blk_cell BK224.out 2).trans rfl; have hcz56_3 : w55.cell? ⟨gb224, 3, none⟩ = some (.int .i64 t219) := (blk_cell BK224.out 3).trans rfl; have hcz56_4 : w55.cell? ⟨gb224, 4, none⟩ = some (.int .i64 t220) := (blk_cell BK224.out 4).trans rfl; have hcz56_5 : w55.cell? ⟨gb224, 5, none⟩ = some (.int .i64 t221) := (blk_cell BK224.out 5).trans rfl; have hcz56_6 : w55.cell? ⟨gb224, 6, none⟩ = some (.int .i64 t222) := (blk_cell BK224.out 6).trans rfl; have hfz56_0 := blk_frozen BK224.out 0; have hfz56_1 := blk_frozen BK224.out 1; have hfz56_2 := blk_frozen BK224.out 2; have hfz56_3 := blk_frozen BK224.out 3; have hfz56_4 := blk_frozen BK224.out 4; have hfz56_5 := blk_frozen BK224.out 5; have hfz56_6 := blk_frozen BK224.out 6; have hcz57_0 : w55.cell? ⟨gb214, 0, none⟩ = some (.int .i64 a0_0) := (blk_cell BK214.out 0).trans rfl; have hcz57_1 : w55.cell? ⟨gb214, 1, none⟩ = some (.int .i64 a0_1) := (blk_cell BK214.out 1).trans rfl; have hcz57_2 : w55.cell? ⟨gb214, 2, none⟩ = some (.int .i64 a0_2) := (blk_cell BK214.out 2).trans rfl; have hcz57_3 : w55.cell? ⟨gb214, 3, none⟩ = some (.int .i64 a0_3) := (blk_cell BK214.out 3).trans rfl; have hcz57_4 : w55.cell? ⟨gb214, 4, none⟩ = some (.int .i64 a0_4) := (blk_cell BK214.out 4).trans rfl; have hcz57_5 : w55.cell? ⟨gb214, 5, none⟩ = some (.int .i64 a0_5) := (blk_cell BK214.out 5).trans rfl; have hcz57_6 : w55.cell? ⟨gb214, 6, none⟩ = some (.int .i64 a0_6) := (blk_cell BK214.out 6).trans rfl; have hfz57_0 := blk_frozen BK214.out 0; have hfz57_1 := blk_frozen BK214.out 1; have hfz57_2 := blk_frozen BK214.out 2; have hfz57_3 := blk_frozen BK214.out 3; have hfz57_4 := blk_frozen BK214.out 4; have hfz57_5 := blk_frozen BK214.out 5; have hfz57_6 := blk_frozen BK214.out 6) | (go_at_call 17; (with_reducible refine (mem_Same.calls kj5 t216 t217 t218 t219 t220 t221 t222 a0_0 a0_1 a0_2 a0_3 a0_4 a0_5 a0_6 true _ A38.out ?gG).mono ?_); (case gG => exact G.below HG.out (by repeat (first | (with_reducible first | exact HB.out | apply below_alloc | apply pw_below_drewN | apply below_drew1 | refine below_set ?_ GE214.out | refine below_set ?_ GE224.out) | exact HB.out))); rintro e w58 ⟨rfl, hb⟩; have n0_ := Aside0.mk (blk_below (g := gb214) (o := .cells #[.int .i64 a0_0, .int .i64 a0_1, .int .i64 a0_2, .int .i64 a0_3, .int .i64 a0_4, .int .i64 a0_5, .int .i64 a0_6] 25 (0, 0)) (by (with_reducible repeat (first | refine blk_drewN ?_ _ | refine blk_drew ?_ | refine blk_alloc ?_ _)); exact BK214.out) hb); have n1_ := Aside0.mk (blk_below (g := gb224) (o := .cells #[.int .i64 t216, .int .i64 t217, .int .i64 t218, .int .i64 t219, .int .i64 t220, .int .i64 t221, .int .i64 t222] 25 (0, 0)) (by (with_reducible repeat (first | refine blk_drewN ?_ _ | refine blk_drew ?_ | refine blk_alloc ?_ _)); exact BK224.out) hb); have n2_ := Aside0.mk (below_step (by repeat (first | (with_reducible first | exact HB.out | apply below_alloc | apply pw_below_drewN | apply below_drew1 | refine below_set ?_ GE214.out | refine below_set ?_ GE224.out) | exact HB.out)) hb); clear BK214; clear BK224; clear HB; have BK214 := n0_; have BK224 := n1_; have HB := n2_; clear n0_ n1_ n2_; (try clear hb); (try clear hb2); (try clear hk); (try clear hi); have hcz59_0 : w58.cell? ⟨gb224, 0, none⟩ = some (.int .i64 t216) := (blk_cell BK224.out 0).trans rfl; have hcz59_1 : w58.cell? ⟨gb224, 1, none⟩ = some (.int .i64 t217) := (blk_cell BK224.out 1).trans rfl; have hcz59_2 : w58.cell? ⟨gb224, 2, none⟩ = some (.int .i64 t218) := (blk_cell BK224.out 2).trans rfl; have hcz59_3 : w58.cell? ⟨gb224, 3, none⟩ = some (.int .i64 t219) := (blk_cell BK224.out 3).trans rfl; have hcz59_4 : w58.cell? ⟨gb224, 4, none⟩ = some (.int .i64 t220) := (blk_cell BK224.out 4).trans rfl; have hcz59_5 : w58.cell? ⟨gb224, 5, none⟩ = some (.int .i64 t221) := (blk_cell BK224.out 5).trans rfl; have hcz59_6 : w58.cell? ⟨gb224, 6, none⟩ = some (.int .i64 t222) := (blk_cell BK224.out 6).trans rfl; have hfz59_0 := blk_frozen BK224.out 0; have hfz59_1 := blk_frozen BK224.out 1; have hfz59_2 := blk_frozen BK224.out 2; have hfz59_3 := blk_frozen BK224.out 3; have hfz59_4 := blk_frozen BK224.out 4; have hfz59_5 := blk_frozen BK224.out 5; have hfz59_6 := blk_frozen BK224.out 6; have hcz60_0 : w58.cell? ⟨gb214, 0, none⟩ = some (.int .i64 a0_0) := (blk_cell BK214.out 0).trans rfl; have hcz60_1 : w58.cell? ⟨gb214, 1, none⟩ = some (.int .i64 a0_1) := (blk_cell BK214.out 1).trans rfl; have hcz60_2 : w58.cell? ⟨gb214, 2, none⟩ = some (.int .i64 a0_2) := (blk_cell BK214.out 2).trans rfl; have hcz60_3 : w58.cell? ⟨gb214, 3, none⟩ = some (.int .i64 a0_3) := (blk_cell BK214.out 3).trans rfl; have hcz60_4 : w58.cell? ⟨gb214, 4, none⟩ = some (.int .i64 a0_4) := (blk_cell BK214.out 4).trans rfl; have hcz60_5 : w58.cell? ⟨gb214, 5, none⟩ = some (.int .i64 a0_5) := (blk_cell BK214.out 5).trans rfl; have hcz60_6 : w58.cell? ⟨gb214, 6, none⟩ = some (.int .i64 a0_6) := (blk_cell BK214.out 6).trans rfl; have hfz60_0 := blk_frozen BK214.out 0; have hfz60_1 := blk_frozen BK214.out 1; have hfz60_2 := blk_frozen BK214.out 2; have hfz60_3 := blk_frozen BK214.out 3; have hfz60_4 := blk_frozen BK214.out 4; have hfz60_5 := blk_frozen BK214.out 5; have hfz60_6 := blk_frozen BK214.out 6))
              go_ret
              exact ⟨by first | (exact congrArg (fun b_ => Ending.returned (.bool b_)) HQ0.out) | rfl | (simp [errW_none, errW_some] <;> rfl) | (simp [*, errW_none, errW_some] <;> rfl), by repeat (first | (with_reducible first | exact HB.out | apply below_alloc | apply pw_below_drewN | apply below_drew1 | refine below_set ?_ GE214.out | refine below_set ?_ GE224.out) | exact HB.out)⟩
             ·rw [if_neg c43] at H
              have c43b0 : (t222 == a0_6) = false := beq_eq_false_iff_ne.mpr c43
              have c43b1 : (t222 != a0_6) = true := bne_iff_ne.mpr c43
              exact absurd H (by simp)
            ·rw [if_neg c42] at H
             have c42b0 : ((t228 == 0) == ((l1.length : Int) == 16)) = false := by simpa using c42
             (try (have c42b1 : decide ((t228 == 0) = ((l1.length : Int) == 16)) = false := by simpa using c42))
             (try (have c42b2 : ((t228 == 0) == ((l1.length : Int) == 16)) = false := by simpa using c42))
             (try (have c42b3 : ¬ ((t228 == 0) = ((l1.length : Int) == 16)) := by simpa using c42))
             clear c42
             exact absurd H (by simp)
           ·rw [if_neg c41] at H
            have c41b0 : (t228 == t230) = false := beq_eq_false_iff_ne.mpr c41
            have c41b1 : (t228 != t230) = true := bne_iff_ne.mpr c41
            exact absurd H (by simp)
          ·rw [if_neg c40] at H
           have c40b0 : (t227 == t229) = false := beq_eq_false_iff_ne.mpr c40
           have c40b1 : (t227 != t229) = true := bne_iff_ne.mpr c40
           exact absurd H (by simp)
         ·replace c39 := Bool.eq_false_iff.mpr c39
          subst c39
          have H1 : (some false) = some true := by rw [if_neg (show ¬ (false = true) by decide)] at H; exact H
          clear H
          have H := H1
          clear H1
          exact absurd H (by simp)
        ·replace c37 := Bool.eq_false_iff.mpr c37
         subst c37
         have H1 : (some false) = some true := by rw [if_neg (show ¬ (false = true) by decide)] at H; exact H
         clear H
         have H := H1
         clear H1
         exact absurd H (by simp)
       ·replace c35 := Bool.eq_false_iff.mpr c35
        subst c35
        have H1 : (some false) = some true := by rw [if_neg (show ¬ (false = true) by decide)] at H; exact H
        clear H
        have H := H1
        clear H1
        exact absurd H (by simp)
      ·rw [if_neg c33] at H
       have c33b0 : (t231 == 0) = false := beq_eq_false_iff_ne.mpr c33
       have c33b1 : (t231 != 0) = true := bne_iff_ne.mpr c33
       exact absurd H (by simp)
     ·replace c31 := Bool.eq_false_iff.mpr c31
      subst c31
      have H1 : (some false) = some true := by rw [if_neg (show ¬ (false = true) by decide)] at H; exact H
      clear H
      have H := H1
      clear H1
      exact absurd H (by simp)
    ·rw [if_neg c28] at H
     have c28b0 : (t223 == 0) = false := beq_eq_false_iff_ne.mpr c28
     have c28b1 : (t223 != 0) = true := bne_iff_ne.mpr c28
     by_cases c61 : t215 = true
     ·subst c61
      have H1 : (some ((t216 == 0 && (t217 == 0)) && ((t218 == 0 && (t219 == 0)) && (t220 == 0 && (t221 == 0 && (t222 == 0)))))) = some true := by rw [if_pos rfl] at H; exact H
      clear H
      have H := H1
      clear H1
      have HQ0 := Aside0.mk (Option.some.inj H)
      clear H
      have hnb62 := NB224_214.out
      have hnc62 := NB214_224.out
      have hcz63_0 : wc.cell? ⟨gb224, 0, none⟩ = some (.int .i64 t216) := (blk_cell BK224.out 0).trans rfl
      have hcz63_1 : wc.cell? ⟨gb224, 1, none⟩ = some (.int .i64 t217) := (blk_cell BK224.out 1).trans rfl
      have hcz63_2 : wc.cell? ⟨gb224, 2, none⟩ = some (.int .i64 t218) := (blk_cell BK224.out 2).trans rfl
      have hcz63_3 : wc.cell? ⟨gb224, 3, none⟩ = some (.int .i64 t219) := (blk_cell BK224.out 3).trans rfl
      have hcz63_4 : wc.cell? ⟨gb224, 4, none⟩ = some (.int .i64 t220) := (blk_cell BK224.out 4).trans rfl
      have hcz63_5 : wc.cell? ⟨gb224, 5, none⟩ = some (.int .i64 t221) := (blk_cell BK224.out 5).trans rfl
      have hcz63_6 : wc.cell? ⟨gb224, 6, none⟩ = some (.int .i64 t222) := (blk_cell BK224.out 6).trans rfl
      have hfz63_0 := blk_frozen BK224.out 0
      have hfz63_1 := blk_frozen BK224.out 1
      have hfz63_2 := blk_frozen BK224.out 2
      have hfz63_3 := blk_frozen BK224.out 3
      have hfz63_4 := blk_frozen BK224.out 4
      have hfz63_5 := blk_frozen BK224.out 5
      have hfz63_6 := blk_frozen BK224.out 6
      go_wp2
      go_ret
      exact ⟨by first | (exact congrArg (fun b_ => Ending.returned (.bool b_)) HQ0.out) | rfl | (simp [errW_none, errW_some] <;> rfl) | (simp [*, errW_none, errW_some] <;> rfl), by repeat (first | (with_reducible first | exact HB.out | apply below_alloc | apply pw_below_drewN | apply below_drew1 | refine below_set ?_ GE214.out | refine below_set ?_ GE224.out) | exact HB.out)⟩
     ·replace c61 := Bool.eq_false_iff.mpr c61
      subst c61
      have H1 : (some false) = some true := by rw [if_neg (show ¬ (false = true) by decide)] at H; exact H
      clear H
      have H := H1
      clear H1
      exact absurd H (by simp)

end Go.Proofs.YtceofdchbolidaaDoor.XAll
