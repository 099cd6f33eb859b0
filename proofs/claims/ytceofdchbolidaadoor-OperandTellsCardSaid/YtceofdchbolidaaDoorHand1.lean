/- Contracts of functions that no print takes: mem.size, mem.scale (a map literal each), reg.names (strings.Fields of a constant). Conditions: the number has 64 bits; of reg.names: the library's table strings.asciiSpace holds what it was laid with. -/
import Derived.Test.YtceofdchbolidaaDoorMapLit
import Derived.Test.YtceofdchbolidaaDoorShelf
import Derived.Test.YtceofdchbolidaaDoorWMore
import Derived.Lib.SmallJoins
namespace Go.Proofs.YtceofdchbolidaaDoor.Hand
open Go.RowKit Go.Maps Go.WideMaps Go.ChangeMaps Go.Proofs.YtceofdchbolidaaDoorW.PrintWords
set_option linter.unusedVariables false
theorem lawK : Keyed Tryd.prog 3 := int_keyed Tryd.underlying3
theorem key_ok (n : Int) (h : (Lit.int .i64 n).wf = true) : keyOf Tryd.prog 3 (.int .i64 n) = some (.int .i64 n) := keyOf_int_mk Tryd.underlying3 h
theorem zero60 (w : World) : (zeroValue 60).run Tryd.prog w = .ok (.agg #[]) w := by kernel_rfl
theorem key_lit (n : Int) (h : decide (-9223372036854775808 ≤ n) && decide (n ≤ 9223372036854775807)) : keyOf Tryd.prog 3 (.int .i64 n) = some (.int .i64 n) := key_ok n (WalkArith.wf_i64 (by simpa using h))
/-- Is it one of these? -/
def oneOf (l : List Int) (n : Int) : Bool := l.any fun x => x == n
theorem has_set (l : List Int) (n : Int) : has (setOf (DataW.agg [] : DataW Unit) (l.map fun x => Lit.int .i64 x)) (.int .i64 n) = oneOf l n := by
  rw [has_setOf _ _ _ (by intro x hx; simp only [List.mem_map] at hx; obtain ⟨y, _, rfl⟩ := hx; trivial)]
  unfold oneOf
  rw [List.any_map]
  congr 1
  funext x
  simp [Lit.sameKey]
  rfl
def in64 (n : Int) : Prop := -9223372036854775808 ≤ n ∧ n ≤ 9223372036854775807
instance (n : Int) : Decidable (in64 n) := by unfold in64; infer_instance
set_option maxHeartbeats 800000 in
theorem mem_size_any (a0 : Int) (ha : (Lit.int .i64 a0).wf = true) (w : World) :
    Calls Tryd.prog 43 #[.int .i64 a0] w fun e w' => e = .returned (.bool (oneOf [0, 1, 2, 4, 8, 16, 32] a0)) ∧ Below w.heap.size w w' := by
  have hmm := @run_makeMap Tryd.prog
  have HO := Lib.hid (World.ownsMap_made w Tryd.prog 3 (unitElem (H := Unit)))
  have HB := Lib.hid ((Below.refl w.heap.size w).alloc (Nat.le_refl _) (.map #[] 0))
  have HK := Lib.hid (key_ok a0 ha)
  clear ha
  go_enter Tryd.func43, Tryd.ntmps43
  go_wp2_with (first
     | (refine wpList_insert_unit _ rfl _ _ _ 62 rfl 3 60 lawK Tryd.underlying62 _ _ _ rfl HO.out (by omega) _ _ rfl rfl (key_lit _ rfl) ?_
        intro w1 hown1 hgrow1
        have n0 := Lib.hid hown1
        have n1 := Lib.hid (HB.out.grown hgrow1 HB.out.size (fun j hj => by cases hj; exact Nat.le_refl _))
        clear HO HB hown1 hgrow1
        have HO := n0
        have HB := n1
        clear n0 n1)
     | (at_lookup; refine wpList_lookup_own_unit _ rfl _ _ 62 rfl 3 60 lawK Tryd.underlying62 (zero60 _) _ _ _ rfl HO.out _ _ rfl HK.out ?_))
  go_ret
  exact ⟨by rw [← has_set]; rfl, HB.out.alloc HB.out.size _⟩
def mem_size.f (a0 : Int) : Option Bool := if in64 a0 then some (oneOf [0, 1, 2, 4, 8, 16, 32] a0) else none
theorem mem_size.calls (a0 : Int) (r : Bool) (w : World) (h : mem_size.f a0 = some r) :
    Calls Tryd.prog 43 #[.int .i64 a0] w fun e w' => e = .returned (.bool r) ∧ Below w.heap.size w w' := by
  unfold mem_size.f at h
  by_cases e : in64 a0
  · rw [if_pos e] at h
    obtain rfl := Option.some.inj h
    exact mem_size_any a0 (WalkArith.wf_i64 e) w
  · rw [if_neg e] at h
    cases h
set_option maxHeartbeats 800000 in
theorem mem_scale_any (a0 : Int) (a1 z s : Bool) (hz : (a0 == 0) = z) (hs : oneOf [1, 2, 4, 8] a0 = s) (ha : (Lit.int .i64 a0).wf = true) (w : World) :
    Calls Tryd.prog 44 #[.int .i64 a0, .bool a1] w fun e w' => e = .returned (.bool (s && a1 || !a1 && z)) ∧ Below w.heap.size w w' := by
  have hmm := @run_makeMap Tryd.prog
  have HO := Lib.hid (World.ownsMap_made w Tryd.prog 3 (unitElem (H := Unit)))
  have HB := Lib.hid ((Below.refl w.heap.size w).alloc (Nat.le_refl _) (.map #[] 0))
  have HK := Lib.hid (key_ok a0 ha)
  have HS : has (setOf (DataW.agg [] : DataW Unit) ([1, 2, 4, 8].map fun x => Lit.int .i64 x)) (.int .i64 a0) = s := (has_set _ _).trans hs
  have HS' := Lib.hid (show has (((((DataW.map [] : DataW Unit).put (.int .i64 1) (.agg [])).put (.int .i64 2) (.agg [])).put (.int .i64 4) (.agg [])).put (.int .i64 8) (.agg [])) (.int .i64 a0) = s from HS)
  clear ha HS hs
  cases a1 <;> cases z <;> cases s <;>
    (go_enter Tryd.func44, Tryd.ntmps44
     go_wp2_with (first
     | (refine wpList_insert_unit _ rfl _ _ _ 62 rfl 3 60 lawK Tryd.underlying62 _ _ _ rfl HO.out (by omega) _ _ rfl rfl (key_lit _ rfl) ?_
        intro w1 hown1 hgrow1
        have n0 := Lib.hid hown1
        have n1 := Lib.hid (HB.out.grown hgrow1 HB.out.size (fun j hj => by cases hj; exact Nat.le_refl _))
        clear HO HB hown1 hgrow1
        have HO := n0
        have HB := n1
        clear n0 n1)
     | (at_lookup; refine wpList_lookup_own_unit _ rfl _ _ 62 rfl 3 60 lawK Tryd.underlying62 (zero60 _) _ _ _ rfl HO.out _ _ rfl HK.out ?_; rw [HS'.out]))
     go_ret
     exact ⟨rfl, HB.out.alloc HB.out.size _⟩)
def mem_scale.f (a0 : Int) (a1 : Bool) : Option Bool := if in64 a0 then some (oneOf [1, 2, 4, 8] a0 && a1 || !a1 && (a0 == 0)) else none
theorem mem_scale.calls (a0 : Int) (a1 : Bool) (r : Bool) (w : World) (h : mem_scale.f a0 a1 = some r) :
    Calls Tryd.prog 44 #[.int .i64 a0, .bool a1] w fun e w' => e = .returned (.bool r) ∧ Below w.heap.size w w' := by
  unfold mem_scale.f at h
  by_cases e : in64 a0
  · rw [if_pos e] at h
    obtain rfl := Option.some.inj h
    exact mem_scale_any a0 a1 _ _ rfl rfl (WalkArith.wf_i64 e) w
  · rw [if_neg e] at h
    cases h

/-! The registers' names. -/
/-- The library's table of white space holds what it was laid with. -/
def G (w : World) : Prop := Lib.TabIs Tryd.prog w "strings.asciiSpace" .u8 Lib.asciiSpaceTab
theorem G.below {w w1 : World} (h : G w) (hb : Below w.heap.size w w1) : G w1 := Joins.tab_stays (g := 0) (by kernel_rfl) h hb (Nat.le_refl _)
def txt1 : ByteArray := ⟨#[97, 108, 32, 99, 108, 32, 100, 108, 32, 98, 108, 32, 115, 112, 108, 32, 98, 112, 108, 32, 115, 105, 108, 32, 100, 105, 108, 32, 114, 56, 98, 32, 114, 57, 98, 32, 114, 49, 48, 98, 32, 114, 49, 49, 98, 32, 114, 49, 50, 98, 32, 114, 49, 51, 98, 32, 114, 49, 52, 98, 32, 114, 49, 53, 98]⟩
def txt2 : ByteArray := ⟨#[97, 104, 32, 99, 104, 32, 100, 104, 32, 98, 104]⟩
def txt3 : ByteArray := ⟨#[97, 120, 32, 99, 120, 32, 100, 120, 32, 98, 120, 32, 115, 112, 32, 98, 112, 32, 115, 105, 32, 100, 105, 32, 114, 56, 119, 32, 114, 57, 119, 32, 114, 49, 48, 119, 32, 114, 49, 49, 119, 32, 114, 49, 50, 119, 32, 114, 49, 51, 119, 32, 114, 49, 52, 119, 32, 114, 49, 53, 119]⟩
def txt4 : ByteArray := ⟨#[101, 97, 120, 32, 101, 99, 120, 32, 101, 100, 120, 32, 101, 98, 120, 32, 101, 115, 112, 32, 101, 98, 112, 32, 101, 115, 105, 32, 101, 100, 105, 32, 114, 56, 100, 32, 114, 57, 100, 32, 114, 49, 48, 100, 32, 114, 49, 49, 100, 32, 114, 49, 50, 100, 32, 114, 49, 51, 100, 32, 114, 49, 52, 100, 32, 114, 49, 53, 100]⟩
def txt5 : ByteArray := ⟨#[114, 97, 120, 32, 114, 99, 120, 32, 114, 100, 120, 32, 114, 98, 120, 32, 114, 115, 112, 32, 114, 98, 112, 32, 114, 115, 105, 32, 114, 100, 105, 32, 114, 56, 32, 114, 57, 32, 114, 49, 48, 32, 114, 49, 49, 32, 114, 49, 50, 32, 114, 49, 51, 32, 114, 49, 52, 32, 114, 49, 53]⟩
def txt6 : ByteArray := ⟨#[120, 109, 109, 48, 32, 120, 109, 109, 49, 32, 120, 109, 109, 50, 32, 120, 109, 109, 51, 32, 120, 109, 109, 52, 32, 120, 109, 109, 53, 32, 120, 109, 109, 54, 32, 120, 109, 109, 55, 32, 120, 109, 109, 56, 32, 120, 109, 109, 57, 32, 120, 109, 109, 49, 48, 32, 120, 109, 109, 49, 49, 32, 120, 109, 109, 49, 50, 32, 120, 109, 109, 49, 51, 32, 120, 109, 109, 49, 52, 32, 120, 109, 109, 49, 53]⟩
def txt7 : ByteArray := ⟨#[121, 109, 109, 48, 32, 121, 109, 109, 49, 32, 121, 109, 109, 50, 32, 121, 109, 109, 51, 32, 121, 109, 109, 52, 32, 121, 109, 109, 53, 32, 121, 109, 109, 54, 32, 121, 109, 109, 55, 32, 121, 109, 109, 56, 32, 121, 109, 109, 57, 32, 121, 109, 109, 49, 48, 32, 121, 109, 109, 49, 49, 32, 121, 109, 109, 49, 50, 32, 121, 109, 109, 49, 51, 32, 121, 109, 109, 49, 52, 32, 121, 109, 109, 49, 53]⟩
def txt8 : ByteArray := ⟨#[114, 105, 112]⟩
def txt (c : Int) : ByteArray := if c = 2 then txt2 else if c = 1 then txt1 else if c = 3 then txt3 else if c = 4 then txt4 else if c = 5 then txt5 else if c = 6 then txt6 else if c = 7 then txt7 else if c = 8 then txt8 else ⟨#[]⟩
def words (s : ByteArray) : List ByteArray := (Lib.fields s.data.toList).map fun l => ⟨l.toArray⟩
def reg_names.f (a0 : Int) : Option (List ByteArray × Int) := some (words (txt a0), if a0 = 2 then 4 else 0)
theorem ascii_of (s : ByteArray) (h : (s.data.toList.all fun b => decide (b.toNat < 128)) = true) : ∀ (j : Nat) b, s.data.toList[j]? = some b → b.toNat < 128 := by
  intro j b hb
  have := List.all_eq_true.1 h b (List.mem_of_getElem? hb)
  simpa using this
theorem row_of (w : World) (s : ByteArray) (hl : (words s).length ≤ 9223372036854775807) : Kd.R Kd.string 9 (w.alloc (.cells ((Lib.fields s.data.toList).map fun l => Value.string ⟨l.toArray⟩).toArray 9)) w.heap.size (fun _ => True)
    (.slice (some ⟨w.heap.size, 0, none⟩) (Lib.fields s.data.toList).length (Lib.fields s.data.toList).length) (words s) := by
  have hlen : (words s).length = (Lib.fields s.data.toList).length := by simp [words]
  have e : (Lib.fields s.data.toList).map (fun l => Value.string ⟨l.toArray⟩) = encs Value.string (words s) := by simp [words, encs]
  rw [e, ← hlen]
  refine Kd.R_of_own ?_ (fun _ _ => trivial)
  have h := World.ownsRow_lit (base := w.heap.size) (e := 9) (size := 1) w (encs Value.string (words s)).toArray (words s).length (Nat.le_refl _) (by simpa [maxLen] using hl) (by simp [encs])
  simpa using h
theorem names_end (w : World) (s : ByteArray) (f : Int) (hl : (words s).length ≤ 9223372036854775807) :
    ∃ v0_ : Value, Ending.returned (.tuple #[.slice (some ⟨w.heap.size, 0, none⟩) (Lib.fields s.data.toList).length (Lib.fields s.data.toList).length, .int .i64 f]) = .returned (.tuple #[v0_, .int .i64 f]) ∧ Kd.R Kd.string 9 (w.alloc (.cells ((Lib.fields s.data.toList).map fun l => Value.string ⟨l.toArray⟩).toArray 9)) w.heap.size (fun _ => True) v0_ (words s) ∧ Below w.heap.size w (w.alloc (.cells ((Lib.fields s.data.toList).map fun l => Value.string ⟨l.toArray⟩).toArray 9)) :=
  ⟨_, rfl, row_of w s hl, (Below.refl _ _).alloc (Nat.le_refl _) _⟩
set_option maxHeartbeats 800000 in
theorem names1 (w : World) (hG : G w) :
    Calls Tryd.prog 55 #[.int .i64 1] w fun e w' => ∃ v0_ : Value, e = .returned (.tuple #[v0_, .int .i64 0]) ∧ Kd.R Kd.string 9 w' w.heap.size (fun _ => True) v0_ (words txt1) ∧ Below w.heap.size w w' := by
  have HG := Lib.hid hG
  clear hG
  go_enter Tryd.func55, Tryd.ntmps55
  go_wp2_with (go_at_call 56; refine (Tryd.strings_Fields txt1 _ (by decide) (ascii_of _ (by decide)) HG.out).mono ?_; rintro e w' ⟨rfl, rfl⟩)
  go_ret2
  exact names_end w txt1 0 (by decide +kernel)
set_option maxHeartbeats 800000 in
theorem names2 (w : World) (hG : G w) :
    Calls Tryd.prog 55 #[.int .i64 2] w fun e w' => ∃ v0_ : Value, e = .returned (.tuple #[v0_, .int .i64 4]) ∧ Kd.R Kd.string 9 w' w.heap.size (fun _ => True) v0_ (words txt2) ∧ Below w.heap.size w w' := by
  have HG := Lib.hid hG
  clear hG
  go_enter Tryd.func55, Tryd.ntmps55
  go_wp2_with (go_at_call 56; refine (Tryd.strings_Fields txt2 _ (by decide) (ascii_of _ (by decide)) HG.out).mono ?_; rintro e w' ⟨rfl, rfl⟩)
  go_ret2
  exact names_end w txt2 4 (by decide +kernel)
set_option maxHeartbeats 800000 in
theorem names3 (w : World) (hG : G w) :
    Calls Tryd.prog 55 #[.int .i64 3] w fun e w' => ∃ v0_ : Value, e = .returned (.tuple #[v0_, .int .i64 0]) ∧ Kd.R Kd.string 9 w' w.heap.size (fun _ => True) v0_ (words txt3) ∧ Below w.heap.size w w' := by
  have HG := Lib.hid hG
  clear hG
  go_enter Tryd.func55, Tryd.ntmps55
  go_wp2_with (go_at_call 56; refine (Tryd.strings_Fields txt3 _ (by decide) (ascii_of _ (by decide)) HG.out).mono ?_; rintro e w' ⟨rfl, rfl⟩)
  go_ret2
  exact names_end w txt3 0 (by decide +kernel)
set_option maxHeartbeats 800000 in
theorem names4 (w : World) (hG : G w) :
    Calls Tryd.prog 55 #[.int .i64 4] w fun e w' => ∃ v0_ : Value, e = .returned (.tuple #[v0_, .int .i64 0]) ∧ Kd.R Kd.string 9 w' w.heap.size (fun _ => True) v0_ (words txt4) ∧ Below w.heap.size w w' := by
  have HG := Lib.hid hG
  clear hG
  go_enter Tryd.func55, Tryd.ntmps55
  go_wp2_with (go_at_call 56; refine (Tryd.strings_Fields txt4 _ (by decide) (ascii_of _ (by decide)) HG.out).mono ?_; rintro e w' ⟨rfl, rfl⟩)
  go_ret2
  exact names_end w txt4 0 (by decide +kernel)
set_option maxHeartbeats 800000 in
theorem names5 (w : World) (hG : G w) :
    Calls Tryd.prog 55 #[.int .i64 5] w fun e w' => ∃ v0_ : Value, e = .returned (.tuple #[v0_, .int .i64 0]) ∧ Kd.R Kd.string 9 w' w.heap.size (fun _ => True) v0_ (words txt5) ∧ Below w.heap.size w w' := by
  have HG := Lib.hid hG
  clear hG
  go_enter Tryd.func55, Tryd.ntmps55
  go_wp2_with (go_at_call 56; refine (Tryd.strings_Fields txt5 _ (by decide) (ascii_of _ (by decide)) HG.out).mono ?_; rintro e w' ⟨rfl, rfl⟩)
  go_ret2
  exact names_end w txt5 0 (by decide +kernel)
set_option maxHeartbeats 800000 in
theorem names6 (w : World) (hG : G w) :
    Calls Tryd.prog 55 #[.int .i64 6] w fun e w' => ∃ v0_ : Value, e = .returned (.tuple #[v0_, .int .i64 0]) ∧ Kd.R Kd.string 9 w' w.heap.size (fun _ => True) v0_ (words txt6) ∧ Below w.heap.size w w' := by
  have HG := Lib.hid hG
  clear hG
  go_enter Tryd.func55, Tryd.ntmps55
  go_wp2_with (go_at_call 56; refine (Tryd.strings_Fields txt6 _ (by decide) (ascii_of _ (by decide)) HG.out).mono ?_; rintro e w' ⟨rfl, rfl⟩)
  go_ret2
  exact names_end w txt6 0 (by decide +kernel)
set_option maxHeartbeats 800000 in
theorem names7 (w : World) (hG : G w) :
    Calls Tryd.prog 55 #[.int .i64 7] w fun e w' => ∃ v0_ : Value, e = .returned (.tuple #[v0_, .int .i64 0]) ∧ Kd.R Kd.string 9 w' w.heap.size (fun _ => True) v0_ (words txt7) ∧ Below w.heap.size w w' := by
  have HG := Lib.hid hG
  clear hG
  go_enter Tryd.func55, Tryd.ntmps55
  go_wp2_with (go_at_call 56; refine (Tryd.strings_Fields txt7 _ (by decide) (ascii_of _ (by decide)) HG.out).mono ?_; rintro e w' ⟨rfl, rfl⟩)
  go_ret2
  exact names_end w txt7 0 (by decide +kernel)
set_option maxHeartbeats 800000 in
theorem names8 (w : World) (hG : G w) :
    Calls Tryd.prog 55 #[.int .i64 8] w fun e w' => ∃ v0_ : Value, e = .returned (.tuple #[v0_, .int .i64 0]) ∧ Kd.R Kd.string 9 w' w.heap.size (fun _ => True) v0_ (words txt8) ∧ Below w.heap.size w w' := by
  have HG := Lib.hid hG
  clear hG
  go_enter Tryd.func55, Tryd.ntmps55
  go_wp2_with (go_at_call 56; refine (Tryd.strings_Fields txt8 _ (by decide) (ascii_of _ (by decide)) HG.out).mono ?_; rintro e w' ⟨rfl, rfl⟩)
  go_ret2
  exact names_end w txt8 0 (by decide +kernel)
set_option maxHeartbeats 800000 in
theorem namesNo (w : World) (a0 : Int) (h2 : (a0 == 2) = false) (h1 : (a0 == 1) = false) (h3 : (a0 == 3) = false) (h4 : (a0 == 4) = false) (h5 : (a0 == 5) = false) (h6 : (a0 == 6) = false) (h7 : (a0 == 7) = false) (h8 : (a0 == 8) = false) (hG : G w) :
    Calls Tryd.prog 55 #[.int .i64 a0] w fun e w' => ∃ v0_ : Value, e = .returned (.tuple #[v0_, .int .i64 0]) ∧ Kd.R Kd.string 9 w' w.heap.size (fun _ => True) v0_ (words ⟨#[]⟩) ∧ Below w.heap.size w w' := by
  have HG := Lib.hid hG
  clear hG
  go_enter Tryd.func55, Tryd.ntmps55
  go_wp2_with (go_at_call 56; refine (Tryd.strings_Fields ⟨#[]⟩ _ (by decide) (ascii_of _ (by decide)) HG.out).mono ?_; rintro e w' ⟨rfl, rfl⟩)
  go_ret2
  exact names_end w ⟨#[]⟩ 0 (by decide +kernel)
theorem reg_names.calls (a0 : Int) (r1 : List ByteArray) (r2 : Int) (w : World) (h : reg_names.f a0 = some (r1, r2)) (hG : G w) :
    Calls Tryd.prog 55 #[.int .i64 a0] w fun e w' => ∃ v0_ : Value, e = .returned (.tuple #[v0_, .int .i64 r2]) ∧ Kd.R Kd.string 9 w' w.heap.size (fun _ => True) v0_ r1 ∧ Below w.heap.size w w' := by
  have h' := Option.some.inj h
  simp only [Prod.mk.injEq] at h'
  obtain ⟨rfl, rfl⟩ := h'
  by_cases h2 : a0 = 2
  · subst h2; exact names2 w hG
  · have g2 : (a0 == 2) = false := beq_eq_false_iff_ne.2 h2
    by_cases h1 : a0 = 1
    · subst h1; exact names1 w hG
    · have g1 : (a0 == 1) = false := beq_eq_false_iff_ne.2 h1
      by_cases h3 : a0 = 3
      · subst h3; exact names3 w hG
      · have g3 : (a0 == 3) = false := beq_eq_false_iff_ne.2 h3
        by_cases h4 : a0 = 4
        · subst h4; exact names4 w hG
        · have g4 : (a0 == 4) = false := beq_eq_false_iff_ne.2 h4
          by_cases h5 : a0 = 5
          · subst h5; exact names5 w hG
          · have g5 : (a0 == 5) = false := beq_eq_false_iff_ne.2 h5
            by_cases h6 : a0 = 6
            · subst h6; exact names6 w hG
            · have g6 : (a0 == 6) = false := beq_eq_false_iff_ne.2 h6
              by_cases h7 : a0 = 7
              · subst h7; exact names7 w hG
              · have g7 : (a0 == 7) = false := beq_eq_false_iff_ne.2 h7
                by_cases h8 : a0 = 8
                · subst h8; exact names8 w hG
                · have g8 : (a0 == 8) = false := beq_eq_false_iff_ne.2 h8
                  have et : txt a0 = ⟨#[]⟩ := by unfold txt; rw [if_neg h2, if_neg h1, if_neg h3, if_neg h4, if_neg h5, if_neg h6, if_neg h7, if_neg h8]
                  rw [et, if_neg h2]
                  exact namesNo w a0 g2 g1 g3 g4 g5 g6 g7 g8 hG
end Go.Proofs.YtceofdchbolidaaDoor.Hand
