/- Laid by this seat's own program (wip/tools/printx.py) out of the translation: the functions that laws use (All), each with its contract. Condition: the library's table strings.asciiSpace holds what it was laid with. -/
import Derived.Test.YtceofdchbolidaaDoorXAllx0
import Derived.Test.YtceofdchbolidaaDoorXAllx5
import Derived.Test.YtceofdchbolidaaDoorXAllx6
import Derived.Test.YtceofdchbolidaaDoorXAllx8
import Derived.Test.YtceofdchbolidaaDoorXAllx9
namespace Go.Proofs.YtceofdchbolidaaDoor.XAll
open Go.RowKit Go.Proofs.YtceofdchbolidaaDoorW.PrintWords Go.Proofs.YtceofdchbolidaaDoorW.PrintLast Go.Proofs.YtceofdchbolidaaDoorW.PrintMore Go.Proofs.YtceofdchbolidaaDoor.Hand
attribute [local go_sem] max2_int min2_int max_two min_two max_three min_three max_four min_four   -- for this text's walks alone
set_option linter.unusedVariables false
set_option linter.unusedSimpArgs false

/-! ### linotypelaw05_MemKnown: function 5 -/
mutual
def linotypelaw05_MemKnown.j0 : Nat → Bool → Option (Bool)
 | 0, _ => none
 | k + 1, x1 => (linotypelaw05_r.f 0).bind fun bt174 => ((mem_Check.f k 0 0 bt174.1 bt174.2 3 0 0).bind fun t176 => (if t176 = 2 then ((mem_Check.f k 0 0 0 0 0 2147483648 0).bind fun t177 => (linotypelaw05_MemKnown.j1 k x1 (t177 == 5))) else (linotypelaw05_MemKnown.j1 k x1 false)))
def linotypelaw05_MemKnown.j1 : Nat → Bool → Bool → Option (Bool)
 | 0, _, _ => none
 | k + 1, x1, x2 => if 16 ≤ 35184372088832 then ((some (List.replicate 16 0 : List Int)).bind fun y178 => (if 3 < (y178.length : Int) then (if 1 < (y178.length : Int) then ((some ((y178.set (3 : Int).toNat 10).set (1 : Int).toNat 5 : List Int)).bind fun y182 => ((linotypelaw05_r.f 3).bind fun bt183 => ((linotypelaw05_r.f 1).bind fun bt185 => ((mem_Address.f k bt183.1 bt183.2 bt185.1 bt185.2 4 (-1) 0 y182 0).bind fun bt187 => ((linotypelaw05_rip.f).bind fun bt189 => ((mem_Address.f k bt189.1 bt189.2 0 0 0 3 0 y182 100).bind fun bt191 => ((linotypelaw05_awake.f).bind fun t193 => (if t193 = true then (if x1 = true then (if x2 = true then (if bt187.1 = 29 then (if bt187.2 = 0 then (if bt191.1 = 103 then (some (bt191.2 == 0)) else (some false)) else (some false)) else (some false)) else (some false)) else (some false)) else (some false))))))))) else (none)) else (none))) else (none)
end
def linotypelaw05_MemKnown.f (k : Nat)  : Option (Bool) := (linotypelaw05_r.f 3).bind fun bt155 => ((linotypelaw05_r.f 4).bind fun bt157 => ((linotypelaw05_r.f 4).bind fun bt159 => ((linotypelaw05_r.f 3).bind fun bt161 => ((linotypelaw05_canon.f k bt155.1 bt155.2 bt157.1 bt157.2 1 0 0 bt159.1 bt159.2 bt161.1 bt161.2 1 0 0).bind fun t163 => (if t163 = true then ((linotypelaw05_r.f 4).bind fun bt164 => ((linotypelaw05_r.f 4).bind fun bt166 => ((mem_Check.f k bt164.1 bt164.2 bt166.1 bt166.2 1 0 0).bind fun t168 => (if t168 = 2 then ((linotypelaw05_rip.f).bind fun bt169 => ((linotypelaw05_r.f 0).bind fun bt171 => ((mem_Check.f k bt169.1 bt169.2 bt171.1 bt171.2 1 0 0).bind fun t173 => (linotypelaw05_MemKnown.j0 k (t173 == 2))))) else (linotypelaw05_MemKnown.j0 k false))))) else (linotypelaw05_MemKnown.j0 k false))))))
theorem linotypelaw05_MemKnown.mono_l : ∀ k, (∀ y0, LeO (linotypelaw05_MemKnown.j0 k y0) (linotypelaw05_MemKnown.j0 (k + 1) y0)) ∧ (∀ y0 y1, LeO (linotypelaw05_MemKnown.j1 k y0 y1) (linotypelaw05_MemKnown.j1 (k + 1) y0 y1))
 | 0 => ⟨fun _ r h => by simp [linotypelaw05_MemKnown.j0] at h, fun _ _ r h => by simp [linotypelaw05_MemKnown.j1] at h⟩
 | k + 1 => by
  obtain ⟨ih0, ih1⟩ := linotypelaw05_MemKnown.mono_l k
  refine ⟨?_, ?_⟩
  ·intro y0
   unfold linotypelaw05_MemKnown.j0
   repeat' first
   | (with_reducible exact ih0 _)
   | (with_reducible exact ih1 _ _)
   | (with_reducible exact linotypelaw05_canon.mono _ _ _ _ _ _ _ _ _ _ _ _ _ _ _)
   | (with_reducible exact mem_Address.mono _ _ _ _ _ _ _ _ _ _)
   | (with_reducible exact mem_Check.mono _ _ _ _ _ _ _ _)
   | (with_reducible exact LeO.refl _)
   | (with_reducible exact LeO.none _)
   | (with_reducible refine LeO.ite ?_ ?_)
   | (with_reducible refine LeO.bind ?_ (fun _ => ?_))
   | exact ih0 _
   | exact ih1 _ _
   | exact linotypelaw05_canon.mono _ _ _ _ _ _ _ _ _ _ _ _ _ _ _
   | exact mem_Address.mono _ _ _ _ _ _ _ _ _ _
   | exact mem_Check.mono _ _ _ _ _ _ _ _
   | exact LeO.none _
   | refine LeO.ite ?_ ?_
   | refine LeO.bind ?_ (fun _ => ?_)
  ·intro y0 y1
   unfold linotypelaw05_MemKnown.j1
   repeat' first
   | (with_reducible exact ih0 _)
   | (with_reducible exact ih1 _ _)
   | (with_reducible exact linotypelaw05_canon.mono _ _ _ _ _ _ _ _ _ _ _ _ _ _ _)
   | (with_reducible exact mem_Address.mono _ _ _ _ _ _ _ _ _ _)
   | (with_reducible exact mem_Check.mono _ _ _ _ _ _ _ _)
   | (with_reducible exact LeO.refl _)
   | (with_reducible exact LeO.none _)
   | (with_reducible refine LeO.ite ?_ ?_)
   | (with_reducible refine LeO.bind ?_ (fun _ => ?_))
   | exact ih0 _
   | exact ih1 _ _
   | exact linotypelaw05_canon.mono _ _ _ _ _ _ _ _ _ _ _ _ _ _ _
   | exact mem_Address.mono _ _ _ _ _ _ _ _ _ _
   | exact mem_Check.mono _ _ _ _ _ _ _ _
   | exact LeO.none _
   | refine LeO.ite ?_ ?_
   | refine LeO.bind ?_ (fun _ => ?_)
theorem linotypelaw05_MemKnown.mono : ∀ k, LeO (linotypelaw05_MemKnown.f k ) (linotypelaw05_MemKnown.f (k + 1) ) := by
 intro  k
 obtain ⟨ih0, ih1⟩ := linotypelaw05_MemKnown.mono_l k
 unfold linotypelaw05_MemKnown.f
 repeat' first
   | (with_reducible exact ih0 _)
   | (with_reducible exact ih1 _ _)
   | (with_reducible exact linotypelaw05_canon.mono _ _ _ _ _ _ _ _ _ _ _ _ _ _ _)
   | (with_reducible exact mem_Address.mono _ _ _ _ _ _ _ _ _ _)
   | (with_reducible exact mem_Check.mono _ _ _ _ _ _ _ _)
   | (with_reducible exact LeO.refl _)
   | (with_reducible exact LeO.none _)
   | (with_reducible refine LeO.ite ?_ ?_)
   | (with_reducible refine LeO.bind ?_ (fun _ => ?_))
   | exact ih0 _
   | exact ih1 _ _
   | exact linotypelaw05_canon.mono _ _ _ _ _ _ _ _ _ _ _ _ _ _ _
   | exact mem_Address.mono _ _ _ _ _ _ _ _ _ _
   | exact mem_Check.mono _ _ _ _ _ _ _ _
   | exact LeO.none _
   | refine LeO.ite ?_ ?_
   | refine LeO.bind ?_ (fun _ => ?_)
set_option maxHeartbeats 8000000 in
set_option maxRecDepth 100000 in
theorem linotypelaw05_MemKnown.calls (k : Nat)  (w : World) (h : linotypelaw05_MemKnown.f k  = some true) (hG : G w) :
  Calls Tryd.prog 5 #[] w fun e w' => e = .returned (.bool true) ∧ Below w.heap.size w w' := by
 have HG := Lib.hid hG
 clear hG
 have hu25 := Tryd.underlying25
 have HB := Aside0.mk (Below.refl w.heap.size w)
 have H : ((linotypelaw05_r.f 3).bind fun bt155 => ((linotypelaw05_r.f 4).bind fun bt157 => ((linotypelaw05_r.f 4).bind fun bt159 => ((linotypelaw05_r.f 3).bind fun bt161 => ((linotypelaw05_canon.f k bt155.1 bt155.2 bt157.1 bt157.2 1 0 0 bt159.1 bt159.2 bt161.1 bt161.2 1 0 0).bind fun t163 => (if t163 = true then ((linotypelaw05_r.f 4).bind fun bt164 => ((linotypelaw05_r.f 4).bind fun bt166 => ((mem_Check.f k bt164.1 bt164.2 bt166.1 bt166.2 1 0 0).bind fun t168 => (if t168 = 2 then ((linotypelaw05_rip.f).bind fun bt169 => ((linotypelaw05_r.f 0).bind fun bt171 => ((mem_Check.f k bt169.1 bt169.2 bt171.1 bt171.2 1 0 0).bind fun t173 => (linotypelaw05_MemKnown.j0 k (t173 == 2))))) else (linotypelaw05_MemKnown.j0 k false))))) else (linotypelaw05_MemKnown.j0 k false))))))) = some true := h
 clear h
 have HC1 := Aside0.mk H
 clear H
 go_enter Tryd.func5, Tryd.ntmps5
 go_upto_region 1 with (fail)
 go_cut [1] (fun v1 wc => ∃ (kq : Nat) (x1_0 : Bool), v1 = .bool x1_0 ∧ Aside0 (linotypelaw05_MemKnown.j0 kq x1_0 = some true) ∧ Aside0 (kq ≤ k) ∧ Aside0 (Below w.heap.size w wc))
 case first =>
  have H := HC1.out
  clear HC1
  replace H := Option.bind_eq_some_iff.mp H
  obtain ⟨⟨t155, t156⟩, A20, H⟩ := H
  obtain ⟨rfl, rfl⟩ := Prod.mk.inj (Option.some.inj A20)
  replace H : ((linotypelaw05_r.f 4).bind fun bt157 => ((linotypelaw05_r.f 4).bind fun bt159 => ((linotypelaw05_r.f 3).bind fun bt161 => ((linotypelaw05_canon.f k 5 3 bt157.1 bt157.2 1 0 0 bt159.1 bt159.2 bt161.1 bt161.2 1 0 0).bind fun t163 => (if t163 = true then ((linotypelaw05_r.f 4).bind fun bt164 => ((linotypelaw05_r.f 4).bind fun bt166 => ((mem_Check.f k bt164.1 bt164.2 bt166.1 bt166.2 1 0 0).bind fun t168 => (if t168 = 2 then ((linotypelaw05_rip.f).bind fun bt169 => ((linotypelaw05_r.f 0).bind fun bt171 => ((mem_Check.f k bt169.1 bt169.2 bt171.1 bt171.2 1 0 0).bind fun t173 => (linotypelaw05_MemKnown.j0 k (t173 == 2))))) else (linotypelaw05_MemKnown.j0 k false))))) else (linotypelaw05_MemKnown.j0 k false)))))) = some true := H
  have A2 := Aside0.mk A20
  clear A20
  replace H := Option.bind_eq_some_iff.mp H
  obtain ⟨⟨t157, t158⟩, A30, H⟩ := H
  obtain ⟨rfl, rfl⟩ := Prod.mk.inj (Option.some.inj A30)
  replace H : ((linotypelaw05_r.f 4).bind fun bt159 => ((linotypelaw05_r.f 3).bind fun bt161 => ((linotypelaw05_canon.f k 5 3 5 4 1 0 0 bt159.1 bt159.2 bt161.1 bt161.2 1 0 0).bind fun t163 => (if t163 = true then ((linotypelaw05_r.f 4).bind fun bt164 => ((linotypelaw05_r.f 4).bind fun bt166 => ((mem_Check.f k bt164.1 bt164.2 bt166.1 bt166.2 1 0 0).bind fun t168 => (if t168 = 2 then ((linotypelaw05_rip.f).bind fun bt169 => ((linotypelaw05_r.f 0).bind fun bt171 => ((mem_Check.f k bt169.1 bt169.2 bt171.1 bt171.2 1 0 0).bind fun t173 => (linotypelaw05_MemKnown.j0 k (t173 == 2))))) else (linotypelaw05_MemKnown.j0 k false))))) else (linotypelaw05_MemKnown.j0 k false))))) = some true := H
  have A3 := Aside0.mk A30
  clear A30
  replace H := Option.bind_eq_some_iff.mp H
  obtain ⟨⟨t159, t160⟩, A40, H⟩ := H
  obtain ⟨rfl, rfl⟩ := Prod.mk.inj (Option.some.inj A40)
  replace H : ((linotypelaw05_r.f 3).bind fun bt161 => ((linotypelaw05_canon.f k 5 3 5 4 1 0 0 5 4 bt161.1 bt161.2 1 0 0).bind fun t163 => (if t163 = true then ((linotypelaw05_r.f 4).bind fun bt164 => ((linotypelaw05_r.f 4).bind fun bt166 => ((mem_Check.f k bt164.1 bt164.2 bt166.1 bt166.2 1 0 0).bind fun t168 => (if t168 = 2 then ((linotypelaw05_rip.f).bind fun bt169 => ((linotypelaw05_r.f 0).bind fun bt171 => ((mem_Check.f k bt169.1 bt169.2 bt171.1 bt171.2 1 0 0).bind fun t173 => (linotypelaw05_MemKnown.j0 k (t173 == 2))))) else (linotypelaw05_MemKnown.j0 k false))))) else (linotypelaw05_MemKnown.j0 k false)))) = some true := H
  have A4 := Aside0.mk A40
  clear A40
  replace H := Option.bind_eq_some_iff.mp H
  obtain ⟨⟨t161, t162⟩, A50, H⟩ := H
  obtain ⟨rfl, rfl⟩ := Prod.mk.inj (Option.some.inj A50)
  replace H : ((linotypelaw05_canon.f k 5 3 5 4 1 0 0 5 4 5 3 1 0 0).bind fun t163 => (if t163 = true then ((linotypelaw05_r.f 4).bind fun bt164 => ((linotypelaw05_r.f 4).bind fun bt166 => ((mem_Check.f k bt164.1 bt164.2 bt166.1 bt166.2 1 0 0).bind fun t168 => (if t168 = 2 then ((linotypelaw05_rip.f).bind fun bt169 => ((linotypelaw05_r.f 0).bind fun bt171 => ((mem_Check.f k bt169.1 bt169.2 bt171.1 bt171.2 1 0 0).bind fun t173 => (linotypelaw05_MemKnown.j0 k (t173 == 2))))) else (linotypelaw05_MemKnown.j0 k false))))) else (linotypelaw05_MemKnown.j0 k false))) = some true := H
  have A5 := Aside0.mk A50
  clear A50
  replace H := Option.bind_eq_some_iff.mp H
  obtain ⟨t163, A60, H⟩ := H
  replace H : (if t163 = true then ((linotypelaw05_r.f 4).bind fun bt164 => ((linotypelaw05_r.f 4).bind fun bt166 => ((mem_Check.f k bt164.1 bt164.2 bt166.1 bt166.2 1 0 0).bind fun t168 => (if t168 = 2 then ((linotypelaw05_rip.f).bind fun bt169 => ((linotypelaw05_r.f 0).bind fun bt171 => ((mem_Check.f k bt169.1 bt169.2 bt171.1 bt171.2 1 0 0).bind fun t173 => (linotypelaw05_MemKnown.j0 k (t173 == 2))))) else (linotypelaw05_MemKnown.j0 k false))))) else (linotypelaw05_MemKnown.j0 k false)) = some true := H
  have A6 := Aside0.mk A60
  clear A60
  by_cases c7 : t163 = true
  ·subst c7
   have H1 : ((linotypelaw05_r.f 4).bind fun bt164 => ((linotypelaw05_r.f 4).bind fun bt166 => ((mem_Check.f k bt164.1 bt164.2 bt166.1 bt166.2 1 0 0).bind fun t168 => (if t168 = 2 then ((linotypelaw05_rip.f).bind fun bt169 => ((linotypelaw05_r.f 0).bind fun bt171 => ((mem_Check.f k bt169.1 bt169.2 bt171.1 bt171.2 1 0 0).bind fun t173 => (linotypelaw05_MemKnown.j0 k (t173 == 2))))) else (linotypelaw05_MemKnown.j0 k false))))) = some true := by rw [if_pos rfl] at H; exact H
   clear H
   have H := H1
   clear H1
   replace H := Option.bind_eq_some_iff.mp H
   obtain ⟨⟨t164, t165⟩, A80, H⟩ := H
   obtain ⟨rfl, rfl⟩ := Prod.mk.inj (Option.some.inj A80)
   replace H : ((linotypelaw05_r.f 4).bind fun bt166 => ((mem_Check.f k 5 4 bt166.1 bt166.2 1 0 0).bind fun t168 => (if t168 = 2 then ((linotypelaw05_rip.f).bind fun bt169 => ((linotypelaw05_r.f 0).bind fun bt171 => ((mem_Check.f k bt169.1 bt169.2 bt171.1 bt171.2 1 0 0).bind fun t173 => (linotypelaw05_MemKnown.j0 k (t173 == 2))))) else (linotypelaw05_MemKnown.j0 k false)))) = some true := H
   have A8 := Aside0.mk A80
   clear A80
   replace H := Option.bind_eq_some_iff.mp H
   obtain ⟨⟨t166, t167⟩, A90, H⟩ := H
   obtain ⟨rfl, rfl⟩ := Prod.mk.inj (Option.some.inj A90)
   replace H : ((mem_Check.f k 5 4 5 4 1 0 0).bind fun t168 => (if t168 = 2 then ((linotypelaw05_rip.f).bind fun bt169 => ((linotypelaw05_r.f 0).bind fun bt171 => ((mem_Check.f k bt169.1 bt169.2 bt171.1 bt171.2 1 0 0).bind fun t173 => (linotypelaw05_MemKnown.j0 k (t173 == 2))))) else (linotypelaw05_MemKnown.j0 k false))) = some true := H
   have A9 := Aside0.mk A90
   clear A90
   replace H := Option.bind_eq_some_iff.mp H
   obtain ⟨t168, A100, H⟩ := H
   replace H : (if t168 = 2 then ((linotypelaw05_rip.f).bind fun bt169 => ((linotypelaw05_r.f 0).bind fun bt171 => ((mem_Check.f k bt169.1 bt169.2 bt171.1 bt171.2 1 0 0).bind fun t173 => (linotypelaw05_MemKnown.j0 k (t173 == 2))))) else (linotypelaw05_MemKnown.j0 k false)) = some true := H
   have A10 := Aside0.mk A100
   clear A100
   by_cases c11 : t168 = 2
   ·rw [if_pos c11] at H
    have c11b0 : (t168 == 2) = true := beq_iff_eq.mpr c11
    have c11b1 : (t168 != 2) = false := bne_eq_false_iff_eq.mpr c11
    clear c11
    (first | rw [c11b0] | (simp only [i64_w, i32_w]; rw [c11b0]) | skip)
    replace H := Option.bind_eq_some_iff.mp H
    obtain ⟨⟨t169, t170⟩, A120, H⟩ := H
    replace H : ((linotypelaw05_r.f 0).bind fun bt171 => ((mem_Check.f k t169 t170 bt171.1 bt171.2 1 0 0).bind fun t173 => (linotypelaw05_MemKnown.j0 k (t173 == 2)))) = some true := H
    have A12 := Aside0.mk A120
    clear A120
    replace H := Option.bind_eq_some_iff.mp H
    obtain ⟨⟨t171, t172⟩, A130, H⟩ := H
    obtain ⟨rfl, rfl⟩ := Prod.mk.inj (Option.some.inj A130)
    replace H : ((mem_Check.f k t169 t170 5 0 1 0 0).bind fun t173 => (linotypelaw05_MemKnown.j0 k (t173 == 2))) = some true := H
    have A13 := Aside0.mk A130
    clear A130
    replace H := Option.bind_eq_some_iff.mp H
    obtain ⟨t173, A140, H⟩ := H
    replace H : (linotypelaw05_MemKnown.j0 k (t173 == 2)) = some true := H
    have A14 := Aside0.mk A140
    clear A140
    have H' := Aside0.mk H
    clear H
    go_wp2_with (first | ((with_reducible refine gate_callee (f := 25) rfl ?_); refine goesL_ (some 8) rfl rfl Tryd.func25 (by kernel_rfl) rfl #[.int .i64 3] rfl (by (try simp only [List.map_toArray, List.map_cons, List.map_nil]); first | done | rfl | (simp only [List.length_drop, List.length_take]; rfl)) ?_; (with_reducible refine (linotypelaw05_r.calls 3 5 3 _ A2.out).mono ?_); rintro e w15 ⟨rfl, hb⟩; refine ⟨_, rfl, ?_⟩; have n0_ := Aside0.mk (below_step (by repeat (first | (with_reducible first | exact HB.out | apply below_alloc | apply pw_below_drewN | apply below_drew1) | exact HB.out)) hb); clear HB; have HB := n0_; clear n0_; (try clear hb); (try clear hb2); (try clear hk); (try clear hi)) | ((with_reducible refine gate_callee (f := 25) rfl ?_); refine goesL_ (some 9) rfl rfl Tryd.func25 (by kernel_rfl) rfl #[.int .i64 4] rfl (by (try simp only [List.map_toArray, List.map_cons, List.map_nil]); first | done | rfl | (simp only [List.length_drop, List.length_take]; rfl)) ?_; (with_reducible refine (linotypelaw05_r.calls 4 5 4 _ A3.out).mono ?_); rintro e w16 ⟨rfl, hb⟩; refine ⟨_, rfl, ?_⟩; have n0_ := Aside0.mk (below_step (by repeat (first | (with_reducible first | exact HB.out | apply below_alloc | apply pw_below_drewN | apply below_drew1) | exact HB.out)) hb); clear HB; have HB := n0_; clear n0_; (try clear hb); (try clear hb2); (try clear hk); (try clear hi)) | ((with_reducible refine gate_callee (f := 25) rfl ?_); refine goesL_ (some 11) rfl rfl Tryd.func25 (by kernel_rfl) rfl #[.int .i64 4] rfl (by (try simp only [List.map_toArray, List.map_cons, List.map_nil]); first | done | rfl | (simp only [List.length_drop, List.length_take]; rfl)) ?_; (with_reducible refine (linotypelaw05_r.calls 4 5 4 _ A4.out).mono ?_); rintro e w17 ⟨rfl, hb⟩; refine ⟨_, rfl, ?_⟩; have n0_ := Aside0.mk (below_step (by repeat (first | (with_reducible first | exact HB.out | apply below_alloc | apply pw_below_drewN | apply below_drew1) | exact HB.out)) hb); clear HB; have HB := n0_; clear n0_; (try clear hb); (try clear hb2); (try clear hk); (try clear hi)) | ((with_reducible refine gate_callee (f := 25) rfl ?_); refine goesL_ (some 12) rfl rfl Tryd.func25 (by kernel_rfl) rfl #[.int .i64 3] rfl (by (try simp only [List.map_toArray, List.map_cons, List.map_nil]); first | done | rfl | (simp only [List.length_drop, List.length_take]; rfl)) ?_; (with_reducible refine (linotypelaw05_r.calls 3 5 3 _ A5.out).mono ?_); rintro e w18 ⟨rfl, hb⟩; refine ⟨_, rfl, ?_⟩; have n0_ := Aside0.mk (below_step (by repeat (first | (with_reducible first | exact HB.out | apply below_alloc | apply pw_below_drewN | apply below_drew1) | exact HB.out)) hb); clear HB; have HB := n0_; clear n0_; (try clear hb); (try clear hb2); (try clear hk); (try clear hi)) | ((with_reducible refine gate_callee (f := 24) rfl ?_); refine goesL_ (some 14) rfl rfl Tryd.func24 (by kernel_rfl) rfl #[.agg #[.int .i64 5, .int .i64 3, .int .i64 5, .int .i64 4, .int .i64 1, .int .i64 0, .int .i64 0], .agg #[.int .i64 5, .int .i64 4, .int .i64 5, .int .i64 3, .int .i64 1, .int .i64 0, .int .i64 0]] rfl (by (try simp only [List.map_toArray, List.map_cons, List.map_nil]); first | done | rfl | (simp only [List.length_drop, List.length_take]; rfl)) ?_; (with_reducible refine (linotypelaw05_canon.calls k 5 3 5 4 1 0 0 5 4 5 3 1 0 0 true _ A6.out ?gG).mono ?_); (case gG => exact G.below HG.out (by repeat (first | (with_reducible first | exact HB.out | apply below_alloc | apply pw_below_drewN | apply below_drew1) | exact HB.out))); rintro e w19 ⟨rfl, hb⟩; refine ⟨_, rfl, ?_⟩; have n0_ := Aside0.mk (below_step (by repeat (first | (with_reducible first | exact HB.out | apply below_alloc | apply pw_below_drewN | apply below_drew1) | exact HB.out)) hb); clear HB; have HB := n0_; clear n0_; (try clear hb); (try clear hb2); (try clear hk); (try clear hi)) | (go_at_call 25; (with_reducible refine (linotypelaw05_r.calls 4 5 4 _ A8.out).mono ?_); rintro e w20 ⟨rfl, hb⟩; have n0_ := Aside0.mk (below_step (by repeat (first | (with_reducible first | exact HB.out | apply below_alloc | apply pw_below_drewN | apply below_drew1) | exact HB.out)) hb); clear HB; have HB := n0_; clear n0_; (try clear hb); (try clear hb2); (try clear hk); (try clear hi)) | (go_at_call 25; (with_reducible refine (linotypelaw05_r.calls 4 5 4 _ A9.out).mono ?_); rintro e w21 ⟨rfl, hb⟩; have n0_ := Aside0.mk (below_step (by repeat (first | (with_reducible first | exact HB.out | apply below_alloc | apply pw_below_drewN | apply below_drew1) | exact HB.out)) hb); clear HB; have HB := n0_; clear n0_; (try clear hb); (try clear hb2); (try clear hk); (try clear hi)) | (go_at_call 15; (with_reducible refine (mem_Check.calls k 5 4 5 4 1 0 0 t168 _ A10.out ?gG).mono ?_); (case gG => exact G.below HG.out (by repeat (first | (with_reducible first | exact HB.out | apply below_alloc | apply pw_below_drewN | apply below_drew1) | exact HB.out))); rintro e w22 ⟨rfl, hb⟩; have n0_ := Aside0.mk (below_step (by repeat (first | (with_reducible first | exact HB.out | apply below_alloc | apply pw_below_drewN | apply below_drew1) | exact HB.out)) hb); clear HB; have HB := n0_; clear n0_; (try clear hb); (try clear hb2); (try clear hk); (try clear hi)) | (go_at_call 26; (with_reducible refine (linotypelaw05_rip.calls  t169 t170 _ A12.out).mono ?_); rintro e w23 ⟨rfl, hb⟩; have n0_ := Aside0.mk (below_step (by repeat (first | (with_reducible first | exact HB.out | apply below_alloc | apply pw_below_drewN | apply below_drew1) | exact HB.out)) hb); clear HB; have HB := n0_; clear n0_; (try clear hb); (try clear hb2); (try clear hk); (try clear hi)) | (go_at_call 25; (with_reducible refine (linotypelaw05_r.calls 0 5 0 _ A13.out).mono ?_); rintro e w24 ⟨rfl, hb⟩; have n0_ := Aside0.mk (below_step (by repeat (first | (with_reducible first | exact HB.out | apply below_alloc | apply pw_below_drewN | apply below_drew1) | exact HB.out)) hb); clear HB; have HB := n0_; clear n0_; (try clear hb); (try clear hb2); (try clear hk); (try clear hi)) | (go_at_call 15; (with_reducible refine (mem_Check.calls k t169 t170 5 0 1 0 0 t173 _ A14.out ?gG).mono ?_); (case gG => exact G.below HG.out (by repeat (first | (with_reducible first | exact HB.out | apply below_alloc | apply pw_below_drewN | apply below_drew1) | exact HB.out))); rintro e w25 ⟨rfl, hb⟩; have n0_ := Aside0.mk (below_step (by repeat (first | (with_reducible first | exact HB.out | apply below_alloc | apply pw_below_drewN | apply below_drew1) | exact HB.out)) hb); clear HB; have HB := n0_; clear n0_; (try clear hb); (try clear hb2); (try clear hk); (try clear hi)))
    go_meet
    case rel => exact ⟨_, ((t173 == 2)), (by first | rfl | (simp; done) | (simp [*]; done)), H', ⟨by first | omega | exact Nat.le_refl _⟩, ⟨by repeat (first | (with_reducible first | exact HB.out | apply below_alloc | apply pw_below_drewN | apply below_drew1) | exact HB.out)⟩⟩
   ·rw [if_neg c11] at H
    have c11b0 : (t168 == 2) = false := beq_eq_false_iff_ne.mpr c11
    have c11b1 : (t168 != 2) = true := bne_iff_ne.mpr c11
    (first | rw [c11b0] | (simp only [i64_w, i32_w]; rw [c11b0]) | skip)
    have H' := Aside0.mk H
    clear H
    go_wp2_with (first | ((with_reducible refine gate_callee (f := 25) rfl ?_); refine goesL_ (some 8) rfl rfl Tryd.func25 (by kernel_rfl) rfl #[.int .i64 3] rfl (by (try simp only [List.map_toArray, List.map_cons, List.map_nil]); first | done | rfl | (simp only [List.length_drop, List.length_take]; rfl)) ?_; (with_reducible refine (linotypelaw05_r.calls 3 5 3 _ A2.out).mono ?_); rintro e w26 ⟨rfl, hb⟩; refine ⟨_, rfl, ?_⟩; have n0_ := Aside0.mk (below_step (by repeat (first | (with_reducible first | exact HB.out | apply below_alloc | apply pw_below_drewN | apply below_drew1) | exact HB.out)) hb); clear HB; have HB := n0_; clear n0_; (try clear hb); (try clear hb2); (try clear hk); (try clear hi)) | ((with_reducible refine gate_callee (f := 25) rfl ?_); refine goesL_ (some 9) rfl rfl Tryd.func25 (by kernel_rfl) rfl #[.int .i64 4] rfl (by (try simp only [List.map_toArray, List.map_cons, List.map_nil]); first | done | rfl | (simp only [List.length_drop, List.length_take]; rfl)) ?_; (with_reducible refine (linotypelaw05_r.calls 4 5 4 _ A3.out).mono ?_); rintro e w27 ⟨rfl, hb⟩; refine ⟨_, rfl, ?_⟩; have n0_ := Aside0.mk (below_step (by repeat (first | (with_reducible first | exact HB.out | apply below_alloc | apply pw_below_drewN | apply below_drew1) | exact HB.out)) hb); clear HB; have HB := n0_; clear n0_; (try clear hb); (try clear hb2); (try clear hk); (try clear hi)) | ((with_reducible refine gate_callee (f := 25) rfl ?_); refine goesL_ (some 11) rfl rfl Tryd.func25 (by kernel_rfl) rfl #[.int .i64 4] rfl (by (try simp only [List.map_toArray, List.map_cons, List.map_nil]); first | done | rfl | (simp only [List.length_drop, List.length_take]; rfl)) ?_; (with_reducible refine (linotypelaw05_r.calls 4 5 4 _ A4.out).mono ?_); rintro e w28 ⟨rfl, hb⟩; refine ⟨_, rfl, ?_⟩; have n0_ := Aside0.mk (below_step (by repeat (first | (with_reducible first | exact HB.out | apply below_alloc | apply pw_below_drewN | apply below_drew1) | exact HB.out)) hb); clear HB; have HB := n0_; clear n0_; (try clear hb); (try clear hb2); (try clear hk); (try clear hi)) | ((with_reducible refine gate_callee (f := 25) rfl ?_); refine goesL_ (some 12) rfl rfl Tryd.func25 (by kernel_rfl) rfl #[.int .i64 3] rfl (by (try simp only [List.map_toArray, List.map_cons, List.map_nil]); first | done | rfl | (simp only [List.length_drop, List.length_take]; rfl)) ?_; (with_reducible refine (linotypelaw05_r.calls 3 5 3 _ A5.out).mono ?_); rintro e w29 ⟨rfl, hb⟩; refine ⟨_, rfl, ?_⟩; have n0_ := Aside0.mk (below_step (by repeat (first | (with_reducible first | exact HB.out | apply below_alloc | apply pw_below_drewN | apply below_drew1) | exact HB.out)) hb); clear HB; have HB := n0_; clear n0_; (try clear hb); (try clear hb2); (try clear hk); (try clear hi)) | ((with_reducible refine gate_callee (f := 24) rfl ?_); refine goesL_ (some 14) rfl rfl Tryd.func24 (by kernel_rfl) rfl #[.agg #[.int .i64 5, .int .i64 3, .int .i64 5, .int .i64 4, .int .i64 1, .int .i64 0, .int .i64 0], .agg #[.int .i64 5, .int .i64 4, .int .i64 5, .int .i64 3, .int .i64 1, .int .i64 0, .int .i64 0]] rfl (by (try simp only [List.map_toArray, List.map_cons, List.map_nil]); first | done | rfl | (simp only [List.length_drop, List.length_take]; rfl)) ?_; (with_reducible refine (linotypelaw05_canon.calls k 5 3 5 4 1 0 0 5 4 5 3 1 0 0 true _ A6.out ?gG).mono ?_); (case gG => exact G.below HG.out (by repeat (first | (with_reducible first | exact HB.out | apply below_alloc | apply pw_below_drewN | apply below_drew1) | exact HB.out))); rintro e w30 ⟨rfl, hb⟩; refine ⟨_, rfl, ?_⟩; have n0_ := Aside0.mk (below_step (by repeat (first | (with_reducible first | exact HB.out | apply below_alloc | apply pw_below_drewN | apply below_drew1) | exact HB.out)) hb); clear HB; have HB := n0_; clear n0_; (try clear hb); (try clear hb2); (try clear hk); (try clear hi)) | (go_at_call 25; (with_reducible refine (linotypelaw05_r.calls 4 5 4 _ A8.out).mono ?_); rintro e w31 ⟨rfl, hb⟩; have n0_ := Aside0.mk (below_step (by repeat (first | (with_reducible first | exact HB.out | apply below_alloc | apply pw_below_drewN | apply below_drew1) | exact HB.out)) hb); clear HB; have HB := n0_; clear n0_; (try clear hb); (try clear hb2); (try clear hk); (try clear hi)) | (go_at_call 25; (with_reducible refine (linotypelaw05_r.calls 4 5 4 _ A9.out).mono ?_); rintro e w32 ⟨rfl, hb⟩; have n0_ := Aside0.mk (below_step (by repeat (first | (with_reducible first | exact HB.out | apply below_alloc | apply pw_below_drewN | apply below_drew1) | exact HB.out)) hb); clear HB; have HB := n0_; clear n0_; (try clear hb); (try clear hb2); (try clear hk); (try clear hi)) | (go_at_call 15; (with_reducible refine (mem_Check.calls k 5 4 5 4 1 0 0 t168 _ A10.out ?gG).mono ?_); (case gG => exact G.below HG.out (by repeat (first | (with_reducible first | exact HB.out | apply below_alloc | apply pw_below_drewN | apply below_drew1) | exact HB.out))); rintro e w33 ⟨rfl, hb⟩; have n0_ := Aside0.mk (below_step (by repeat (first | (with_reducible first | exact HB.out | apply below_alloc | apply pw_below_drewN | apply below_drew1) | exact HB.out)) hb); clear HB; have HB := n0_; clear n0_; (try clear hb); (try clear hb2); (try clear hk); (try clear hi)))
    go_meet
    case rel => exact ⟨_, (false), (by first | rfl | (simp; done) | (simp [*]; done)), H', ⟨by first | omega | exact Nat.le_refl _⟩, ⟨by repeat (first | (with_reducible first | exact HB.out | apply below_alloc | apply pw_below_drewN | apply below_drew1) | exact HB.out)⟩⟩
  ·replace c7 := Bool.eq_false_iff.mpr c7
   subst c7
   have H1 : (linotypelaw05_MemKnown.j0 k false) = some true := by rw [if_neg (show ¬ (false = true) by decide)] at H; exact H
   clear H
   have H := H1
   clear H1
   have H' := Aside0.mk H
   clear H
   go_wp2_with (first | ((with_reducible refine gate_callee (f := 25) rfl ?_); refine goesL_ (some 8) rfl rfl Tryd.func25 (by kernel_rfl) rfl #[.int .i64 3] rfl (by (try simp only [List.map_toArray, List.map_cons, List.map_nil]); first | done | rfl | (simp only [List.length_drop, List.length_take]; rfl)) ?_; (with_reducible refine (linotypelaw05_r.calls 3 5 3 _ A2.out).mono ?_); rintro e w34 ⟨rfl, hb⟩; refine ⟨_, rfl, ?_⟩; have n0_ := Aside0.mk (below_step (by repeat (first | (with_reducible first | exact HB.out | apply below_alloc | apply pw_below_drewN | apply below_drew1) | exact HB.out)) hb); clear HB; have HB := n0_; clear n0_; (try clear hb); (try clear hb2); (try clear hk); (try clear hi)) | ((with_reducible refine gate_callee (f := 25) rfl ?_); refine goesL_ (some 9) rfl rfl Tryd.func25 (by kernel_rfl) rfl #[.int .i64 4] rfl (by (try simp only [List.map_toArray, List.map_cons, List.map_nil]); first | done | rfl | (simp only [List.length_drop, List.length_take]; rfl)) ?_; (with_reducible refine (linotypelaw05_r.calls 4 5 4 _ A3.out).mono ?_); rintro e w35 ⟨rfl, hb⟩; refine ⟨_, rfl, ?_⟩; have n0_ := Aside0.mk (below_step (by repeat (first | (with_reducible first | exact HB.out | apply below_alloc | apply pw_below_drewN | apply below_drew1) | exact HB.out)) hb); clear HB; have HB := n0_; clear n0_; (try clear hb); (try clear hb2); (try clear hk); (try clear hi)) | ((with_reducible refine gate_callee (f := 25) rfl ?_); refine goesL_ (some 11) rfl rfl Tryd.func25 (by kernel_rfl) rfl #[.int .i64 4] rfl (by (try simp only [List.map_toArray, List.map_cons, List.map_nil]); first | done | rfl | (simp only [List.length_drop, List.length_take]; rfl)) ?_; (with_reducible refine (linotypelaw05_r.calls 4 5 4 _ A4.out).mono ?_); rintro e w36 ⟨rfl, hb⟩; refine ⟨_, rfl, ?_⟩; have n0_ := Aside0.mk (below_step (by repeat (first | (with_reducible first | exact HB.out | apply below_alloc | apply pw_below_drewN | apply below_drew1) | exact HB.out)) hb); clear HB; have HB := n0_; clear n0_; (try clear hb); (try clear hb2); (try clear hk); (try clear hi)) | ((with_reducible refine gate_callee (f := 25) rfl ?_); refine goesL_ (some 12) rfl rfl Tryd.func25 (by kernel_rfl) rfl #[.int .i64 3] rfl (by (try simp only [List.map_toArray, List.map_cons, List.map_nil]); first | done | rfl | (simp only [List.length_drop, List.length_take]; rfl)) ?_; (with_reducible refine (linotypelaw05_r.calls 3 5 3 _ A5.out).mono ?_); rintro e w37 ⟨rfl, hb⟩; refine ⟨_, rfl, ?_⟩; have n0_ := Aside0.mk (below_step (by repeat (first | (with_reducible first | exact HB.out | apply below_alloc | apply pw_below_drewN | apply below_drew1) | exact HB.out)) hb); clear HB; have HB := n0_; clear n0_; (try clear hb); (try clear hb2); (try clear hk); (try clear hi)) | ((with_reducible refine gate_callee (f := 24) rfl ?_); refine goesL_ (some 14) rfl rfl Tryd.func24 (by kernel_rfl) rfl #[.agg #[.int .i64 5, .int .i64 3, .int .i64 5, .int .i64 4, .int .i64 1, .int .i64 0, .int .i64 0], .agg #[.int .i64 5, .int .i64 4, .int .i64 5, .int .i64 3, .int .i64 1, .int .i64 0, .int .i64 0]] rfl (by (try simp only [List.map_toArray, List.map_cons, List.map_nil]); first | done | rfl | (simp only [List.length_drop, List.length_take]; rfl)) ?_; (with_reducible refine (linotypelaw05_canon.calls k 5 3 5 4 1 0 0 5 4 5 3 1 0 0 false _ A6.out ?gG).mono ?_); (case gG => exact G.below HG.out (by repeat (first | (with_reducible first | exact HB.out | apply below_alloc | apply pw_below_drewN | apply below_drew1) | exact HB.out))); rintro e w38 ⟨rfl, hb⟩; refine ⟨_, rfl, ?_⟩; have n0_ := Aside0.mk (below_step (by repeat (first | (with_reducible first | exact HB.out | apply below_alloc | apply pw_below_drewN | apply below_drew1) | exact HB.out)) hb); clear HB; have HB := n0_; clear n0_; (try clear hb); (try clear hb2); (try clear hk); (try clear hi)))
   go_meet
   case rel => exact ⟨_, (false), (by first | rfl | (simp; done) | (simp [*]; done)), H', ⟨by first | omega | exact Nat.le_refl _⟩, ⟨by repeat (first | (with_reducible first | exact HB.out | apply below_alloc | apply pw_below_drewN | apply below_drew1) | exact HB.out)⟩⟩
 case rest =>
  clear HC1
  try clear c1
  try clear c2
  try clear p2
  try clear c5
  try clear c7
  try clear c11
  try clear c11b0
  try clear c11b1
  try clear c24
  try clear c25
  obtain ⟨kq, x1_0, rfl, HA, HJ0, HB⟩ := hcut
  cases kq with
  | zero => exact absurd HA.out (by simp [linotypelaw05_MemKnown.j0])
  | succ kj0 =>
   have H := HA.out
   clear HA
   simp only [linotypelaw05_MemKnown.j0] at H
   have HC39 := Aside0.mk H
   clear H
   go_upto_region 2 with (fail)
   go_cut [2] (fun v2 wc => ∃ (kq : Nat) (x2_38 : Bool), v2 = .bool x2_38 ∧ Aside0 (linotypelaw05_MemKnown.j1 kq x1_0 x2_38 = some true) ∧ Aside0 (kq ≤ kj0) ∧ Aside0 (Below w.heap.size w wc))
   case first =>
    have H := HC39.out
    clear HC39
    replace H := Option.bind_eq_some_iff.mp H
    obtain ⟨⟨t174, t175⟩, A400, H⟩ := H
    obtain ⟨rfl, rfl⟩ := Prod.mk.inj (Option.some.inj A400)
    replace H : ((mem_Check.f kj0 0 0 5 0 3 0 0).bind fun t176 => (if t176 = 2 then ((mem_Check.f kj0 0 0 0 0 0 2147483648 0).bind fun t177 => (linotypelaw05_MemKnown.j1 kj0 x1_0 (t177 == 5))) else (linotypelaw05_MemKnown.j1 kj0 x1_0 false))) = some true := H
    have A40 := Aside0.mk A400
    clear A400
    replace H := Option.bind_eq_some_iff.mp H
    obtain ⟨t176, A410, H⟩ := H
    replace H : (if t176 = 2 then ((mem_Check.f kj0 0 0 0 0 0 2147483648 0).bind fun t177 => (linotypelaw05_MemKnown.j1 kj0 x1_0 (t177 == 5))) else (linotypelaw05_MemKnown.j1 kj0 x1_0 false)) = some true := H
    have A41 := Aside0.mk A410
    clear A410
    by_cases c42 : t176 = 2
    ·rw [if_pos c42] at H
     have c42b0 : (t176 == 2) = true := beq_iff_eq.mpr c42
     have c42b1 : (t176 != 2) = false := bne_eq_false_iff_eq.mpr c42
     clear c42
     (first | rw [c42b0] | (simp only [i64_w, i32_w]; rw [c42b0]) | skip)
     replace H := Option.bind_eq_some_iff.mp H
     obtain ⟨t177, A430, H⟩ := H
     replace H : (linotypelaw05_MemKnown.j1 kj0 x1_0 (t177 == 5)) = some true := H
     have A43 := Aside0.mk A430
     clear A430
     have H' := Aside0.mk H
     clear H
     go_wp2_with (first | ((with_reducible refine gate_callee (f := 25) rfl ?_); refine goesL_ (some 29) rfl rfl Tryd.func25 (by kernel_rfl) rfl #[.int .i64 0] rfl (by (try simp only [List.map_toArray, List.map_cons, List.map_nil]); first | done | rfl | (simp only [List.length_drop, List.length_take]; rfl)) ?_; (with_reducible refine (linotypelaw05_r.calls 0 5 0 _ A40.out).mono ?_); rintro e w44 ⟨rfl, hb⟩; refine ⟨_, rfl, ?_⟩; have n0_ := Aside0.mk (below_step (by repeat (first | (with_reducible first | exact HB.out | apply below_alloc | apply pw_below_drewN | apply below_drew1) | exact HB.out)) hb); clear HB; have HB := n0_; clear n0_; (try clear hb); (try clear hb2); (try clear hk); (try clear hi)) | ((with_reducible refine gate_callee (f := 15) rfl ?_); refine goesL_ (some 31) rfl rfl Tryd.func15 (by kernel_rfl) rfl #[.agg #[.int .i64 0, .int .i64 0, .int .i64 5, .int .i64 0, .int .i64 3, .int .i64 0, .int .i64 0]] rfl (by (try simp only [List.map_toArray, List.map_cons, List.map_nil]); first | done | rfl | (simp only [List.length_drop, List.length_take]; rfl)) ?_; (with_reducible refine (mem_Check.calls kj0 0 0 5 0 3 0 0 t176 _ A41.out ?gG).mono ?_); (case gG => exact G.below HG.out (by repeat (first | (with_reducible first | exact HB.out | apply below_alloc | apply pw_below_drewN | apply below_drew1) | exact HB.out))); rintro e w45 ⟨rfl, hb⟩; refine ⟨_, rfl, ?_⟩; have n0_ := Aside0.mk (below_step (by repeat (first | (with_reducible first | exact HB.out | apply below_alloc | apply pw_below_drewN | apply below_drew1) | exact HB.out)) hb); clear HB; have HB := n0_; clear n0_; (try clear hb); (try clear hb2); (try clear hk); (try clear hi)) | (go_at_call 15; (with_reducible refine (mem_Check.calls kj0 0 0 0 0 0 2147483648 0 t177 _ A43.out ?gG).mono ?_); (case gG => exact G.below HG.out (by repeat (first | (with_reducible first | exact HB.out | apply below_alloc | apply pw_below_drewN | apply below_drew1) | exact HB.out))); rintro e w46 ⟨rfl, hb⟩; have n0_ := Aside0.mk (below_step (by repeat (first | (with_reducible first | exact HB.out | apply below_alloc | apply pw_below_drewN | apply below_drew1) | exact HB.out)) hb); clear HB; have HB := n0_; clear n0_; (try clear hb); (try clear hb2); (try clear hk); (try clear hi)))
     go_meet
     case rel => exact ⟨_, ((t177 == 5)), (by first | rfl | (simp; done) | (simp [*]; done)), H', ⟨by have := HJ0.out; first | omega | exact Nat.le_refl _⟩, ⟨by repeat (first | (with_reducible first | exact HB.out | apply below_alloc | apply pw_below_drewN | apply below_drew1) | exact HB.out)⟩⟩
    ·rw [if_neg c42] at H
     have c42b0 : (t176 == 2) = false := beq_eq_false_iff_ne.mpr c42
     have c42b1 : (t176 != 2) = true := bne_iff_ne.mpr c42
     (first | rw [c42b0] | (simp only [i64_w, i32_w]; rw [c42b0]) | skip)
     have H' := Aside0.mk H
     clear H
     go_wp2_with (first | ((with_reducible refine gate_callee (f := 25) rfl ?_); refine goesL_ (some 29) rfl rfl Tryd.func25 (by kernel_rfl) rfl #[.int .i64 0] rfl (by (try simp only [List.map_toArray, List.map_cons, List.map_nil]); first | done | rfl | (simp only [List.length_drop, List.length_take]; rfl)) ?_; (with_reducible refine (linotypelaw05_r.calls 0 5 0 _ A40.out).mono ?_); rintro e w47 ⟨rfl, hb⟩; refine ⟨_, rfl, ?_⟩; have n0_ := Aside0.mk (below_step (by repeat (first | (with_reducible first | exact HB.out | apply below_alloc | apply pw_below_drewN | apply below_drew1) | exact HB.out)) hb); clear HB; have HB := n0_; clear n0_; (try clear hb); (try clear hb2); (try clear hk); (try clear hi)) | ((with_reducible refine gate_callee (f := 15) rfl ?_); refine goesL_ (some 31) rfl rfl Tryd.func15 (by kernel_rfl) rfl #[.agg #[.int .i64 0, .int .i64 0, .int .i64 5, .int .i64 0, .int .i64 3, .int .i64 0, .int .i64 0]] rfl (by (try simp only [List.map_toArray, List.map_cons, List.map_nil]); first | done | rfl | (simp only [List.length_drop, List.length_take]; rfl)) ?_; (with_reducible refine (mem_Check.calls kj0 0 0 5 0 3 0 0 t176 _ A41.out ?gG).mono ?_); (case gG => exact G.below HG.out (by repeat (first | (with_reducible first | exact HB.out | apply below_alloc | apply pw_below_drewN | apply below_drew1) | exact HB.out))); rintro e w48 ⟨rfl, hb⟩; refine ⟨_, rfl, ?_⟩; have n0_ := Aside0.mk (below_step (by repeat (first | (with_reducible first | exact HB.out | apply below_alloc | apply pw_below_drewN | apply below_drew1) | exact HB.out)) hb); clear HB; have HB := n0_; clear n0_; (try clear hb); (try clear hb2); (try clear hk); (try clear hi)))
     go_meet
     case rel => exact ⟨_, (false), (by first | rfl | (simp; done) | (simp [*]; done)), H', ⟨by have := HJ0.out; first | omega | exact Nat.le_refl _⟩, ⟨by repeat (first | (with_reducible first | exact HB.out | apply below_alloc | apply pw_below_drewN | apply below_drew1) | exact HB.out)⟩⟩
   case rest =>
    clear HC39
    try clear c1
    try clear c2
    try clear p2
    try clear c4
    try clear c5
    try clear c7
    try clear c11
    try clear c11b0
    try clear c11b1
    try clear c15
    try clear c24
    try clear c25
    try clear c42
    try clear c42b0
    try clear c42b1
    try clear p2
    obtain ⟨kq, x2_38, rfl, HA, HJ38, HB⟩ := hcut
    cases kq with
    | zero => exact absurd HA.out (by simp [linotypelaw05_MemKnown.j1])
    | succ kj38 =>
     have H := HA.out
     clear HA
     simp only [linotypelaw05_MemKnown.j1] at H
     by_cases c49 : 16 ≤ 35184372088832
     ·rw [if_pos c49] at H
      have c49b0 := eq_true c49
      have c49b1 : decide (16 ≤ 35184372088832) = true := decide_eq_true c49
      clear c49
      obtain ⟨y178, hy178⟩ : ∃ y_ : List Int, y_ = (List.replicate 16 0) := ⟨_, rfl⟩
      replace H : (if 3 < (y178.length : Int) then (if 1 < (y178.length : Int) then ((some ((y178.set (3 : Int).toNat 10).set (1 : Int).toNat 5 : List Int)).bind fun y182 => ((linotypelaw05_r.f 3).bind fun bt183 => ((linotypelaw05_r.f 1).bind fun bt185 => ((mem_Address.f kj38 bt183.1 bt183.2 bt185.1 bt185.2 4 (-1) 0 y182 0).bind fun bt187 => ((linotypelaw05_rip.f).bind fun bt189 => ((mem_Address.f kj38 bt189.1 bt189.2 0 0 0 3 0 y182 100).bind fun bt191 => ((linotypelaw05_awake.f).bind fun t193 => (if t193 = true then (if x1_0 = true then (if x2_38 = true then (if bt187.1 = 29 then (if bt187.2 = 0 then (if bt191.1 = 103 then (some (bt191.2 == 0)) else (some false)) else (some false)) else (some false)) else (some false)) else (some false)) else (some false))))))))) else (none)) else (none)) = some true := by first | (rw [hy178]; with_reducible exact H) | (have H2_ := (Option.bind_some _ _).symm.trans H; rw [hy178]; with_reducible exact H2_) | (have H2_ := (Option.bind_some _ _).symm.trans H; with_reducible exact H2_) | with_reducible exact H | (rw [hy178]; exact H) | exact H
      have Ny178 := Aside0.mk hy178
      clear hy178
      by_cases c50 : 3 < (y178.length : Int)
      ·rw [if_pos c50] at H
       have c50b0 : decide (3 < (y178.length : Int)) = true := decide_eq_true c50
       have c50b1 : decide (3 < y178.length) = true := decide_eq_true (by omega)
       clear c50
       obtain ⟨y181, hy181⟩ : ∃ y_ : List Int, y_ = (y178.set (3 : Int).toNat 10) := ⟨_, rfl⟩
       replace H : (if 1 < (y178.length : Int) then ((some (y181.set (1 : Int).toNat 5 : List Int)).bind fun y182 => ((linotypelaw05_r.f 3).bind fun bt183 => ((linotypelaw05_r.f 1).bind fun bt185 => ((mem_Address.f kj38 bt183.1 bt183.2 bt185.1 bt185.2 4 (-1) 0 y182 0).bind fun bt187 => ((linotypelaw05_rip.f).bind fun bt189 => ((mem_Address.f kj38 bt189.1 bt189.2 0 0 0 3 0 y182 100).bind fun bt191 => ((linotypelaw05_awake.f).bind fun t193 => (if t193 = true then (if x1_0 = true then (if x2_38 = true then (if bt187.1 = 29 then (if bt187.2 = 0 then (if bt191.1 = 103 then (some (bt191.2 == 0)) else (some false)) else (some false)) else (some false)) else (some false)) else (some false)) else (some false))))))))) else (none)) = some true := by first | (rw [hy181]; with_reducible exact H) | (have H2_ := (Option.bind_some _ _).symm.trans H; rw [hy181]; with_reducible exact H2_) | (have H2_ := (Option.bind_some _ _).symm.trans H; with_reducible exact H2_) | with_reducible exact H | (rw [hy181]; exact H) | exact H
       have Ny181 := Aside0.mk hy181
       clear hy181
       by_cases c52 : 1 < (y178.length : Int)
       ·rw [if_pos c52] at H
        have c52b0 : decide (1 < (y178.length : Int)) = true := decide_eq_true c52
        have c52b1 : decide (1 < y178.length) = true := decide_eq_true (by omega)
        clear c52
        obtain ⟨y182, hy182⟩ : ∃ y_ : List Int, y_ = (y181.set (1 : Int).toNat 5) := ⟨_, rfl⟩
        replace H : ((linotypelaw05_r.f 3).bind fun bt183 => ((linotypelaw05_r.f 1).bind fun bt185 => ((mem_Address.f kj38 bt183.1 bt183.2 bt185.1 bt185.2 4 (-1) 0 y182 0).bind fun bt187 => ((linotypelaw05_rip.f).bind fun bt189 => ((mem_Address.f kj38 bt189.1 bt189.2 0 0 0 3 0 y182 100).bind fun bt191 => ((linotypelaw05_awake.f).bind fun t193 => (if t193 = true then (if x1_0 = true then (if x2_38 = true then (if bt187.1 = 29 then (if bt187.2 = 0 then (if bt191.1 = 103 then (some (bt191.2 == 0)) else (some false)) else (some false)) else (some false)) else (some false)) else (some false)) else (some false)))))))) = some true := by first | (rw [hy182]; with_reducible exact H) | (have H2_ := (Option.bind_some _ _).symm.trans H; rw [hy182]; with_reducible exact H2_) | (have H2_ := (Option.bind_some _ _).symm.trans H; with_reducible exact H2_) | with_reducible exact H | (rw [hy182]; exact H) | exact H
        have Ny182 := Aside0.mk hy182
        clear hy182
        replace H := Option.bind_eq_some_iff.mp H
        obtain ⟨⟨t183, t184⟩, A540, H⟩ := H
        obtain ⟨rfl, rfl⟩ := Prod.mk.inj (Option.some.inj A540)
        replace H : ((linotypelaw05_r.f 1).bind fun bt185 => ((mem_Address.f kj38 5 3 bt185.1 bt185.2 4 (-1) 0 y182 0).bind fun bt187 => ((linotypelaw05_rip.f).bind fun bt189 => ((mem_Address.f kj38 bt189.1 bt189.2 0 0 0 3 0 y182 100).bind fun bt191 => ((linotypelaw05_awake.f).bind fun t193 => (if t193 = true then (if x1_0 = true then (if x2_38 = true then (if bt187.1 = 29 then (if bt187.2 = 0 then (if bt191.1 = 103 then (some (bt191.2 == 0)) else (some false)) else (some false)) else (some false)) else (some false)) else (some false)) else (some false))))))) = some true := H
        have A54 := Aside0.mk A540
        clear A540
        replace H := Option.bind_eq_some_iff.mp H
        obtain ⟨⟨t185, t186⟩, A550, H⟩ := H
        obtain ⟨rfl, rfl⟩ := Prod.mk.inj (Option.some.inj A550)
        replace H : ((mem_Address.f kj38 5 3 5 1 4 (-1) 0 y182 0).bind fun bt187 => ((linotypelaw05_rip.f).bind fun bt189 => ((mem_Address.f kj38 bt189.1 bt189.2 0 0 0 3 0 y182 100).bind fun bt191 => ((linotypelaw05_awake.f).bind fun t193 => (if t193 = true then (if x1_0 = true then (if x2_38 = true then (if bt187.1 = 29 then (if bt187.2 = 0 then (if bt191.1 = 103 then (some (bt191.2 == 0)) else (some false)) else (some false)) else (some false)) else (some false)) else (some false)) else (some false)))))) = some true := H
        have A55 := Aside0.mk A550
        clear A550
        replace H := Option.bind_eq_some_iff.mp H
        obtain ⟨⟨t187, t188⟩, A560, H⟩ := H
        replace H : ((linotypelaw05_rip.f).bind fun bt189 => ((mem_Address.f kj38 bt189.1 bt189.2 0 0 0 3 0 y182 100).bind fun bt191 => ((linotypelaw05_awake.f).bind fun t193 => (if t193 = true then (if x1_0 = true then (if x2_38 = true then (if t187 = 29 then (if t188 = 0 then (if bt191.1 = 103 then (some (bt191.2 == 0)) else (some false)) else (some false)) else (some false)) else (some false)) else (some false)) else (some false))))) = some true := H
        have A56 := Aside0.mk A560
        clear A560
        replace H := Option.bind_eq_some_iff.mp H
        obtain ⟨⟨t189, t190⟩, A570, H⟩ := H
        replace H : ((mem_Address.f kj38 t189 t190 0 0 0 3 0 y182 100).bind fun bt191 => ((linotypelaw05_awake.f).bind fun t193 => (if t193 = true then (if x1_0 = true then (if x2_38 = true then (if t187 = 29 then (if t188 = 0 then (if bt191.1 = 103 then (some (bt191.2 == 0)) else (some false)) else (some false)) else (some false)) else (some false)) else (some false)) else (some false)))) = some true := H
        have A57 := Aside0.mk A570
        clear A570
        replace H := Option.bind_eq_some_iff.mp H
        obtain ⟨⟨t191, t192⟩, A580, H⟩ := H
        replace H : ((linotypelaw05_awake.f).bind fun t193 => (if t193 = true then (if x1_0 = true then (if x2_38 = true then (if t187 = 29 then (if t188 = 0 then (if t191 = 103 then (some (t192 == 0)) else (some false)) else (some false)) else (some false)) else (some false)) else (some false)) else (some false))) = some true := H
        have A58 := Aside0.mk A580
        clear A580
        replace H := Option.bind_eq_some_iff.mp H
        obtain ⟨t193, A590, H⟩ := H
        replace H : (if t193 = true then (if x1_0 = true then (if x2_38 = true then (if t187 = 29 then (if t188 = 0 then (if t191 = 103 then (some (t192 == 0)) else (some false)) else (some false)) else (some false)) else (some false)) else (some false)) else (some false)) = some true := H
        have A59 := Aside0.mk A590
        clear A590
        by_cases c60 : t193 = true
        ·subst c60
         have H1 : (if x1_0 = true then (if x2_38 = true then (if t187 = 29 then (if t188 = 0 then (if t191 = 103 then (some (t192 == 0)) else (some false)) else (some false)) else (some false)) else (some false)) else (some false)) = some true := by rw [if_pos rfl] at H; exact H
         clear H
         have H := H1
         clear H1
         by_cases c61 : x1_0 = true
         ·subst c61
          have H1 : (if x2_38 = true then (if t187 = 29 then (if t188 = 0 then (if t191 = 103 then (some (t192 == 0)) else (some false)) else (some false)) else (some false)) else (some false)) = some true := by rw [if_pos rfl] at H; exact H
          clear H
          have H := H1
          clear H1
          by_cases c62 : x2_38 = true
          ·subst c62
           have H1 : (if t187 = 29 then (if t188 = 0 then (if t191 = 103 then (some (t192 == 0)) else (some false)) else (some false)) else (some false)) = some true := by rw [if_pos rfl] at H; exact H
           clear H
           have H := H1
           clear H1
           by_cases c63 : t187 = 29
           ·rw [if_pos c63] at H
            have c63b0 : (t187 == 29) = true := beq_iff_eq.mpr c63
            have c63b1 : (t187 != 29) = false := bne_eq_false_iff_eq.mpr c63
            clear c63
            by_cases c64 : t188 = 0
            ·rw [if_pos c64] at H
             have c64b0 : (t188 == 0) = true := beq_iff_eq.mpr c64
             have c64b1 : (t188 != 0) = false := bne_eq_false_iff_eq.mpr c64
             clear c64
             by_cases c65 : t191 = 103
             ·rw [if_pos c65] at H
              have c65b0 : (t191 == 103) = true := beq_iff_eq.mpr c65
              have c65b1 : (t191 != 103) = false := bne_eq_false_iff_eq.mpr c65
              clear c65
              have HQ0 := Aside0.mk (Option.some.inj H)
              clear H
              go_wp2_with (first | ((with_reducible refine gate_dst (N := 38) rfl ?_); refine Kd.R_make (Kd.int .i64) _ 3 rfl (N := 38) rfl 32 _ _ rfl 16 rfl rfl Tryd.underlying32 (.int .i64 0) 8 info3 rfl (by decide) (by omega) 0 (ok := fun _ => True) (okp := fun _ => True) rfl (fun _ hk => hk) trivial (by omega) (by omega) (Below.refl _ _) (Nat.le_refl _) ?_; intro v179 w66 ho67 hb hg_ hnew_; clear hg_ hnew_; (first | rw [← Ny178.out] at ho67 | (simp only [Int.reduceToNat] at ho67; rw [← Ny178.out] at ho67)); have n0_ := Aside0.mk (Kd.R_lower ho67 (below_size (by repeat (first | (with_reducible first | exact HB.out | apply below_alloc | apply pw_below_drewN | apply below_drew1) | exact HB.out)))); have n1_ := Aside0.mk (below_step (by repeat (first | (with_reducible first | exact HB.out | apply below_alloc | apply pw_below_drewN | apply below_drew1) | exact HB.out)) hb); clear HB; have HO180 := n0_; have HB := n1_; clear n0_ n1_; clear hb ho67; have p51 : 0 ≤ (3 : Int) := (by omega); have q51 : (3 : Int) < ((y178.length : Int) : Int) := of_decide_eq_true (by first | (with_reducible assumption) | assumption); have qi51 : (3 < y178.length) = True := eq_true (by omega); obtain ⟨go51, co51, eo51, gb51, gl51, cl51, HG51⟩ := Kd.R_form HO180.out (by omega); (first | cases eo51 | (injection eo51 with ea_ en_ ec_; (first | subst ea_ | (injection ea_ with ea_; subst ea_)); subst ec_; clear en_)); have GB51 := Aside0.mk gb51; have GG51 := Aside0.mk HG51; clear gb51 gl51 HG51; obtain ⟨hx51_0, hf51_0⟩ := Kd.R_celln 0 HO180.out (3 : Int) p51 q51; (try rw [show ((3 : Int)).toNat = 3 from rfl] at hx51_0); (try simp only [Nat.reduceMul, Nat.zero_mul, Nat.zero_add, Nat.reduceAdd] at hx51_0); (try rw [show ((3 : Int)).toNat = 3 from rfl] at hf51_0); (try simp only [Nat.reduceMul, Nat.zero_mul, Nat.zero_add, Nat.reduceAdd] at hf51_0); replace p51 := eq_true p51; replace q51 := eq_true q51; obtain ⟨hy68_, hz68_⟩ := Kd.R_celln 0 HO180.out (3 : Int) (by omega) (of_decide_eq_true (by first | (with_reducible assumption) | assumption)); (try simp only [Int.reduceToNat, Int.toNat_zero, Int.toNat_ofNat, Nat.reduceMul, Nat.zero_mul, Nat.zero_add] at hy68_ hz68_); (try rw [show ((3 : Int)).toNat = 3 from rfl] at hy68_); (try rw [show ((3 : Int)).toNat = 3 from rfl] at hz68_); have HP68 := Kd.R_putg HO180.out (3 : Int) 10) | ((with_reducible refine gate_store (t := 3) (p := 40) rfl ?_); refine store_event (t := 3) (p := 40) (v := ?vo_w69) (w1 := (w66.setCell ⟨go51, (3 : Int).toNat, none⟩ (.int .i64 10))) ?hg ?ho ?hn ?hr ?_; (case ho => rfl); (case hg => rfl); (case hn => rfl); (case hr => first | (go_simp; done) | (go_simp; rfl)); intro w69 hw; have hg : w66.grownBy w69 (some go51) := (by rw [hw]; exact HP68.2); have hp_ : Kd.R (Kd.int .i64) 3 w69 w.heap.size (fun _ => True) (.slice (some ⟨go51, 0, none⟩) y178.length co51) y181 := (by rw [hw, Ny181.out]; exact HP68.1); clear HP68; have n0_ := Aside0.mk (hp_); have n1_ := Aside0.mk ((by rw [hw]; exact below_set (HB.out) GB51.out : Below w.heap.size w w69)); clear HO180; clear HB; have HO180 := n0_; have HB := n1_; clear n0_ n1_; clear hg hw hp_; have p53 : 0 ≤ (1 : Int) := (by omega); have q53 : (1 : Int) < ((y178.length : Int) : Int) := of_decide_eq_true (by first | (with_reducible assumption) | assumption); have qi53 : (1 < y178.length) = True := eq_true (by omega); obtain ⟨hx53_0, hf53_0⟩ := Kd.R_celln 0 HO180.out (1 : Int) p53 q53; (try rw [show ((1 : Int)).toNat = 1 from rfl] at hx53_0); (try simp only [Nat.reduceMul, Nat.zero_mul, Nat.zero_add, Nat.reduceAdd] at hx53_0); (try rw [show ((1 : Int)).toNat = 1 from rfl] at hf53_0); (try simp only [Nat.reduceMul, Nat.zero_mul, Nat.zero_add, Nat.reduceAdd] at hf53_0); replace p53 := eq_true p53; replace q53 := eq_true q53; obtain ⟨hy70_, hz70_⟩ := Kd.R_celln 0 HO180.out (1 : Int) (by omega) (of_decide_eq_true (by first | (with_reducible assumption) | assumption)); (try simp only [Int.reduceToNat, Int.toNat_zero, Int.toNat_ofNat, Nat.reduceMul, Nat.zero_mul, Nat.zero_add] at hy70_ hz70_); (try rw [show ((1 : Int)).toNat = 1 from rfl] at hy70_); (try rw [show ((1 : Int)).toNat = 1 from rfl] at hz70_); have HP70 := Kd.R_putg HO180.out (1 : Int) 5) | ((with_reducible refine gate_store (t := 3) (p := 42) rfl ?_); refine store_event (t := 3) (p := 42) (v := ?vo_w71) (w1 := (w69.setCell ⟨go51, (1 : Int).toNat, none⟩ (.int .i64 5))) ?hg ?ho ?hn ?hr ?_; (case ho => rfl); (case hg => rfl); (case hn => rfl); (case hr => first | (go_simp; done) | (go_simp; rfl)); intro w71 hw; have hg : w69.grownBy w71 (some go51) := (by rw [hw]; exact HP70.2); have hp_ : Kd.R (Kd.int .i64) 3 w71 w.heap.size (fun _ => True) (.slice (some ⟨go51, 0, none⟩) y178.length co51) y182 := (by rw [hw, Ny182.out]; exact HP70.1); clear HP70; have n0_ := Aside0.mk (hp_); have n1_ := Aside0.mk ((by rw [hw]; exact below_set (HB.out) GB51.out : Below w.heap.size w w71)); clear HO180; clear HB; have HO180 := n0_; have HB := n1_; clear n0_ n1_; clear hg hw hp_) | ((with_reducible refine gate_callee (f := 25) rfl ?_); refine goesL_ (some 44) rfl rfl Tryd.func25 (by kernel_rfl) rfl #[.int .i64 3] rfl (by (try simp only [List.map_toArray, List.map_cons, List.map_nil]); first | done | rfl | (simp only [List.length_drop, List.length_take]; rfl)) ?_; (with_reducible refine (linotypelaw05_r.calls 3 5 3 _ A54.out).mono ?_); rintro e w72 ⟨rfl, hb⟩; refine ⟨_, rfl, ?_⟩; have n0_ := Aside0.mk (Kd.R_below (by (with_reducible repeat (first | apply Kd.R_alloc | apply Kd.R_drewN | apply Kd.R_drew)); exact HO180.out) hb); have n1_ := Aside0.mk (below_step (by repeat (first | (with_reducible first | exact HB.out | apply below_alloc | apply pw_below_drewN | apply below_drew1) | exact HB.out)) hb); clear HO180; clear HB; have HO180 := n0_; have HB := n1_; clear n0_ n1_; (try clear hb); (try clear hb2); (try clear hk); (try clear hi)) | ((with_reducible refine gate_callee (f := 25) rfl ?_); refine goesL_ (some 45) rfl rfl Tryd.func25 (by kernel_rfl) rfl #[.int .i64 1] rfl (by (try simp only [List.map_toArray, List.map_cons, List.map_nil]); first | done | rfl | (simp only [List.length_drop, List.length_take]; rfl)) ?_; (with_reducible refine (linotypelaw05_r.calls 1 5 1 _ A55.out).mono ?_); rintro e w73 ⟨rfl, hb⟩; refine ⟨_, rfl, ?_⟩; have n0_ := Aside0.mk (Kd.R_below (by (with_reducible repeat (first | apply Kd.R_alloc | apply Kd.R_drewN | apply Kd.R_drew)); exact HO180.out) hb); have n1_ := Aside0.mk (below_step (by repeat (first | (with_reducible first | exact HB.out | apply below_alloc | apply pw_below_drewN | apply below_drew1) | exact HB.out)) hb); clear HO180; clear HB; have HO180 := n0_; have HB := n1_; clear n0_ n1_; (try clear hb); (try clear hb2); (try clear hk); (try clear hi)) | ((with_reducible refine gate_callee (f := 21) rfl ?_); refine goesL_ (some 48) rfl rfl Tryd.func21 (by kernel_rfl) rfl #[.agg #[.int .i64 5, .int .i64 3, .int .i64 5, .int .i64 1, .int .i64 4, .int .i64 (-1), .int .i64 0], .slice (some ⟨go51, 0, none⟩) y182.length co51, .int .i64 0] rfl (by (try simp only [List.map_toArray, List.map_cons, List.map_nil]); first | done | (rw [show y182.length = y178.length from (Kd.R_reads' HO180.out).1.symm] <;> rfl) | rfl | (simp only [List.length_drop, List.length_take]; rfl)) ?_; (with_reducible refine (mem_Address.calls kj38 5 3 5 1 4 (-1) 0 _ _ y182 0 t187 t188 _ ?side1 ?side2 A56.out ?gG).mono ?_); (case gG => exact G.below HG.out (by repeat (first | (with_reducible first | exact HB.out | apply below_alloc | apply pw_below_drewN | apply below_drew1) | exact HB.out))); (case side1 => repeat (first | exact (Kd.R_reads' HO180.out).2.2 | (with_reducible refine Kd.C_alloc ?_ _) | (with_reducible refine Kd.C_drewN ?_ _) | (with_reducible refine Kd.C_drew ?_))); (case side2 => rw [show y182.length = y178.length from (Kd.R_reads' HO180.out).1.symm]; exact (Kd.R_reads' HO180.out).2.1); rintro e w74 ⟨rfl, hb⟩; refine ⟨_, rfl, ?_⟩; have n0_ := Aside0.mk (Kd.R_below (by (with_reducible repeat (first | apply Kd.R_alloc | apply Kd.R_drewN | apply Kd.R_drew)); exact HO180.out) hb); have n1_ := Aside0.mk (below_step (by repeat (first | (with_reducible first | exact HB.out | apply below_alloc | apply pw_below_drewN | apply below_drew1) | exact HB.out)) hb); clear HO180; clear HB; have HO180 := n0_; have HB := n1_; clear n0_ n1_; (try clear hb); (try clear hb2); (try clear hk); (try clear hi)) | ((with_reducible refine gate_callee (f := 26) rfl ?_); refine goesL_ (some 52) rfl rfl Tryd.func26 (by kernel_rfl) rfl #[] rfl (by (try simp only [List.map_toArray, List.map_cons, List.map_nil]); first | done | rfl | (simp only [List.length_drop, List.length_take]; rfl)) ?_; (with_reducible refine (linotypelaw05_rip.calls  t189 t190 _ A57.out).mono ?_); rintro e w75 ⟨rfl, hb⟩; refine ⟨_, rfl, ?_⟩; have n0_ := Aside0.mk (Kd.R_below (by (with_reducible repeat (first | apply Kd.R_alloc | apply Kd.R_drewN | apply Kd.R_drew)); exact HO180.out) hb); have n1_ := Aside0.mk (below_step (by repeat (first | (with_reducible first | exact HB.out | apply below_alloc | apply pw_below_drewN | apply below_drew1) | exact HB.out)) hb); clear HO180; clear HB; have HO180 := n0_; have HB := n1_; clear n0_ n1_; (try clear hb); (try clear hb2); (try clear hk); (try clear hi)) | ((with_reducible refine gate_callee (f := 21) rfl ?_); refine goesL_ (some 55) rfl rfl Tryd.func21 (by kernel_rfl) rfl #[.agg #[.int .i64 t189, .int .i64 t190, .int .i64 0, .int .i64 0, .int .i64 0, .int .i64 3, .int .i64 0], .slice (some ⟨go51, 0, none⟩) y182.length co51, .int .i64 100] rfl (by (try simp only [List.map_toArray, List.map_cons, List.map_nil]); first | done | (rw [show y182.length = y178.length from (Kd.R_reads' HO180.out).1.symm] <;> rfl) | rfl | (simp only [List.length_drop, List.length_take]; rfl)) ?_; (with_reducible refine (mem_Address.calls kj38 t189 t190 0 0 0 3 0 _ _ y182 100 t191 t192 _ ?side1 ?side2 A58.out ?gG).mono ?_); (case gG => exact G.below HG.out (by repeat (first | (with_reducible first | exact HB.out | apply below_alloc | apply pw_below_drewN | apply below_drew1) | exact HB.out))); (case side1 => repeat (first | exact (Kd.R_reads' HO180.out).2.2 | (with_reducible refine Kd.C_alloc ?_ _) | (with_reducible refine Kd.C_drewN ?_ _) | (with_reducible refine Kd.C_drew ?_))); (case side2 => rw [show y182.length = y178.length from (Kd.R_reads' HO180.out).1.symm]; exact (Kd.R_reads' HO180.out).2.1); rintro e w76 ⟨rfl, hb⟩; refine ⟨_, rfl, ?_⟩; have n0_ := Aside0.mk (Kd.R_below (by (with_reducible repeat (first | apply Kd.R_alloc | apply Kd.R_drewN | apply Kd.R_drew)); exact HO180.out) hb); have n1_ := Aside0.mk (below_step (by repeat (first | (with_reducible first | exact HB.out | apply below_alloc | apply pw_below_drewN | apply below_drew1) | exact HB.out)) hb); clear HO180; clear HB; have HO180 := n0_; have HB := n1_; clear n0_ n1_; (try clear hb); (try clear hb2); (try clear hk); (try clear hi)) | ((with_reducible refine gate_callee (f := 19) rfl ?_); refine goesL_ (some 58) rfl rfl Tryd.func19 (by kernel_rfl) rfl #[] rfl (by (try simp only [List.map_toArray, List.map_cons, List.map_nil]); first | done | rfl | (simp only [List.length_drop, List.length_take]; rfl)) ?_; (with_reducible refine (linotypelaw05_awake.calls  true _ A59.out ?gG).mono ?_); (case gG => exact G.below HG.out (by repeat (first | (with_reducible first | exact HB.out | apply below_alloc | apply pw_below_drewN | apply below_drew1) | exact HB.out))); rintro e w77 ⟨rfl, hb⟩; refine ⟨_, rfl, ?_⟩; have n0_ := Aside0.mk (Kd.R_below (by (with_reducible repeat (first | apply Kd.R_alloc | apply Kd.R_drewN | apply Kd.R_drew)); exact HO180.out) hb); have n1_ := Aside0.mk (below_step (by repeat (first | (with_reducible first | exact HB.out | apply below_alloc | apply pw_below_drewN | apply below_drew1) | exact HB.out)) hb); clear HO180; clear HB; have HO180 := n0_; have HB := n1_; clear n0_ n1_; (try clear hb); (try clear hb2); (try clear hk); (try clear hi)))
              go_ret
              exact ⟨by first | (exact congrArg (fun b_ => Ending.returned (.bool b_)) HQ0.out) | rfl | (simp [errW_none, errW_some] <;> rfl) | (simp [*, errW_none, errW_some] <;> rfl), by repeat (first | (with_reducible first | exact HB.out | apply below_alloc | apply pw_below_drewN | apply below_drew1) | exact HB.out)⟩
             ·rw [if_neg c65] at H
              have c65b0 : (t191 == 103) = false := beq_eq_false_iff_ne.mpr c65
              have c65b1 : (t191 != 103) = true := bne_iff_ne.mpr c65
              exact absurd H (by simp)
            ·rw [if_neg c64] at H
             have c64b0 : (t188 == 0) = false := beq_eq_false_iff_ne.mpr c64
             have c64b1 : (t188 != 0) = true := bne_iff_ne.mpr c64
             exact absurd H (by simp)
           ·rw [if_neg c63] at H
            have c63b0 : (t187 == 29) = false := beq_eq_false_iff_ne.mpr c63
            have c63b1 : (t187 != 29) = true := bne_iff_ne.mpr c63
            exact absurd H (by simp)
          ·replace c62 := Bool.eq_false_iff.mpr c62
           subst c62
           have H1 : (some false) = some true := by rw [if_neg (show ¬ (false = true) by decide)] at H; exact H
           clear H
           have H := H1
           clear H1
           exact absurd H (by simp)
         ·replace c61 := Bool.eq_false_iff.mpr c61
          subst c61
          have H1 : (some false) = some true := by rw [if_neg (show ¬ (false = true) by decide)] at H; exact H
          clear H
          have H := H1
          clear H1
          exact absurd H (by simp)
        ·replace c60 := Bool.eq_false_iff.mpr c60
         subst c60
         have H1 : (some false) = some true := by rw [if_neg (show ¬ (false = true) by decide)] at H; exact H
         clear H
         have H := H1
         clear H1
         exact absurd H (by simp)
       ·rw [if_neg c52] at H
        exact absurd H (by simp)
      ·rw [if_neg c50] at H
       exact absurd H (by simp)
     ·rw [if_neg c49] at H
      exact absurd H (by simp)

/-- THE ONE PURE STATEMENT of linotypelaw05_MemKnown: yours. -/
def linotypelaw05_MemKnown.Pure : Prop := ∃ k, linotypelaw05_MemKnown.f k  = some true
theorem linotypelaw05_MemKnown.walk (P : linotypelaw05_MemKnown.Pure)  (w : World)  (hG : G w) :
  Calls Tryd.prog 5 #[] w fun e w' => e = .returned (.bool true) ∧ Below w.heap.size w w' := by
 obtain ⟨k, h⟩ := P  
 refine (linotypelaw05_MemKnown.calls k  w h hG).mono ?_
 rintro e w' ⟨rfl, hd⟩
 exact ⟨rfl, hd⟩
theorem linotypelaw05_MemKnown.true_ (k : Nat) (r : Bool) (h : linotypelaw05_MemKnown.f k = some r) : r = true := by
 have h1 := at_rounds (linotypelaw05_MemKnown.mono) (Nat.le_max_left k 30) h
 have h2 := at_rounds (linotypelaw05_MemKnown.mono) (Nat.le_max_right k 30) (show linotypelaw05_MemKnown.f 30 = some true by decide +kernel)
 exact Option.some.inj (h1.symm.trans h2)
theorem linotypelaw05_MemKnown.callsR (k : Nat) (r : Bool) (w : World) (h : linotypelaw05_MemKnown.f k = some r) (hG : G w) :
  Calls Tryd.prog 5 #[] w fun e w' => e = .returned (.bool r) ∧ Below w.heap.size w w' := by
 obtain rfl := linotypelaw05_MemKnown.true_ k r h
 exact linotypelaw05_MemKnown.calls k w h hG


end Go.Proofs.YtceofdchbolidaaDoor.XAll
