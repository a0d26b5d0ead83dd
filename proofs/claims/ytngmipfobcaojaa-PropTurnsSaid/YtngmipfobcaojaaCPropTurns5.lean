/- The law PropTurns holds for every kind, list and rotation: its row, proved without a condition. -/
import Derived.Test.YtngmipfobcaojaaCPropTurns3
import Derived.Test.YtngmipfobcaojaaCPropTurns4
import Derived.Lib.SmallJoins
import Derived.Deep.Slices
import Derived.DataReads
import Derived.ChangeArms
import Derived.Test.YtngmipfobcaojaaRows
import Derived.WalkKit
import Derived.ProofKit
import Derived.OpenShut
import Derived.ShutString
import Derived.ChangeOld
import Derived.Below
import Derived.SizedLaws

-- YtngmipfobcaojaaHA47
section
-- Written by hp.py (a driver over the kit's print). Not trusted: Lean checks it.
namespace Go.Proofs.Ytngmipfobcaojaa.HA
open Go.RowKit Go.Proofs.YtngmipfobcaojaaW.PrintWords Go.Proofs.YtngmipfobcaojaaW.PrintLast Go.Proofs.YtngmipfobcaojaaW.PrintMore
attribute [local go_sem] max2_int min2_int max_two min_two max_three min_three max_four min_four   -- for this text's walks alone
set_option linter.unusedVariables false
set_option linter.unusedSimpArgs false

/-! ### polyglotlaw05_PropTurns: function 4 -/
mutual
def polyglotlaw05_PropTurns.j0 : Nat → Int → List (S27) → Int → Bool → Option (Bool)
  | 0, _, _, _, _ => none
  | k + 1, x0, x1, x2, x35 => if x35 = true then (some true) else ((polyglotkit_Pick.f x2 (x1.length : Int)).bind fun t172 => (if 0 ≤ t172 then (if t172 ≤ (x1.length : Int) then ((api_Prop_17.f (x1.drop (t172 : Int).toNat)).bind fun t177 => ((some (x1.take (t172 : Int).toNat : List (S27))).bind fun y180 => (if t177.length + y180.length < 2932031007402 then ((prop_Bytes.f x0 x1).bind fun bt187 => ((prop_Bytes.f x0 (t177 ++ y180)).bind fun bt189 => (if bt187.2 = 0 then (if bt189.2 = 0 then (if (bt187.1.size : Int) = (bt189.1.size : Int) then (if t172 < (x1.length : Int) then ((prop_Check.f k x0 ((rd_T27 x1 t172).f0) ((rd_T27 x1 t172).f1) ((rd_T27 x1 t172).f2) ((rd_T27 x1 t172).f3)).bind fun t192 => (polyglotlaw05_PropTurns.j1 k x0 x1 t172 bt187.1 (t192 != 0))) else (none)) else (polyglotlaw05_PropTurns.j1 k x0 x1 t172 bt187.1 true)) else (polyglotlaw05_PropTurns.j1 k x0 x1 t172 bt187.1 true)) else (polyglotlaw05_PropTurns.j1 k x0 x1 t172 bt187.1 true)))) else (none)))) else (none)) else (none)))
def polyglotlaw05_PropTurns.j1 : Nat → Int → List (S27) → Int → ByteArray → Bool → Option (Bool)
  | 0, _, _, _, _, _ => none
  | k + 1, x0, x1, x7, x9, x81 => if x81 = true then (some false) else (if 0 ≤ x7 then (if x7 ≤ (x1.length : Int) then ((api_Prop_17.f (x1.take (x7 : Int).toNat)).bind fun t197 => (if 0 ≤ (wrap64 (x7 + 1)) then (if (wrap64 (x7 + 1)) ≤ (x1.length : Int) then ((some (x1.drop ((wrap64 (x7 + 1)) : Int).toNat : List (S27))).bind fun y200 => (if t197.length + y200.length < 2932031007402 then (if x7 < (x1.length : Int) then (if ((rd_T27 x1 x7).f0) = 21 then (polyglotlaw05_PropTurns.j2 k x0 x1 x7 x9 false) else ((prop_Valid.f x0 (t197 ++ y200)).bind fun t208 => (polyglotlaw05_PropTurns.j2 k x0 x1 x7 x9 (t208 != 0)))) else (none)) else (none))) else (none)) else (none))) else (none)) else (none))
def polyglotlaw05_PropTurns.j2 : Nat → Int → List (S27) → Int → ByteArray → Bool → Option (Bool)
  | 0, _, _, _, _, _ => none
  | k + 1, x0, x1, x7, x9, x102 => if x102 = true then (some false) else ((api_Prop_17.f x1).bind fun t209 => (if 0 ≤ x7 then (if x7 < (x1.length : Int) then ((some (([(⟨(rd_T27 x1 x7).f0, (rd_T27 x1 x7).f1, (rd_T27 x1 x7).f2, (rd_T27 x1 x7).f3⟩ : S27)] : List (S27)) : List (S27))).bind fun y213 => (if t209.length + y213.length < 2932031007402 then ((prop_Valid.f x0 (t209 ++ y213)).bind fun t219 => ((prop_Many.f x0 ((rd_T27 x1 x7).f0)).bind fun t221 => (if ((t219 == 0) == t221) = true then (some true) else (some (decide ((x9.size : Int) > 100000)))))) else (none))) else (none)) else (none)))
end
def polyglotlaw05_PropTurns.f (k : Nat) (a0 : Int) (l1 : List (S27)) (a2 : Int) : Option (Bool) := (polyglotlaw05_lives.f).bind fun t169 => (if t169 = true then ((polyglotkit_LightProps.f k l1).bind fun t170 => (if t170 = true then ((prop_Valid.f a0 l1).bind fun t171 => (if t171 = 0 then (if (l1.length : Int) = 0 then (polyglotlaw05_PropTurns.j0 k a0 l1 a2 true) else (polyglotlaw05_PropTurns.j0 k a0 l1 a2 (decide ((l1.length : Int) > 900)))) else (polyglotlaw05_PropTurns.j0 k a0 l1 a2 true))) else (polyglotlaw05_PropTurns.j0 k a0 l1 a2 true))) else (some false))
theorem polyglotlaw05_PropTurns.mono_l : ∀ k, (∀ y0 y1 y2 y3, LeO (polyglotlaw05_PropTurns.j0 k y0 y1 y2 y3) (polyglotlaw05_PropTurns.j0 (k + 1) y0 y1 y2 y3)) ∧ (∀ y0 y1 y2 y3 y4, LeO (polyglotlaw05_PropTurns.j1 k y0 y1 y2 y3 y4) (polyglotlaw05_PropTurns.j1 (k + 1) y0 y1 y2 y3 y4)) ∧ (∀ y0 y1 y2 y3 y4, LeO (polyglotlaw05_PropTurns.j2 k y0 y1 y2 y3 y4) (polyglotlaw05_PropTurns.j2 (k + 1) y0 y1 y2 y3 y4))
  | 0 => ⟨fun _ _ _ _ r h => by simp [polyglotlaw05_PropTurns.j0] at h, fun _ _ _ _ _ r h => by simp [polyglotlaw05_PropTurns.j1] at h, fun _ _ _ _ _ r h => by simp [polyglotlaw05_PropTurns.j2] at h⟩
  | k + 1 => by
    obtain ⟨ih0, ih1, ih2⟩ := polyglotlaw05_PropTurns.mono_l k
    refine ⟨?_, ?_, ?_⟩
    · intro y0 y1 y2 y3
      unfold polyglotlaw05_PropTurns.j0
      repeat' first
      | (with_reducible exact ih0 _ _ _ _)
      | (with_reducible exact ih1 _ _ _ _ _)
      | (with_reducible exact ih2 _ _ _ _ _)
      | (with_reducible exact polyglotkit_LightProps.mono _ _)
      | (with_reducible exact prop_Check.mono _ _ _ _ _ _)
      | (with_reducible exact LeO.refl _)
      | (with_reducible exact LeO.none _)
      | (with_reducible refine LeO.ite ?_ ?_)
      | (with_reducible refine LeO.bind ?_ (fun _ => ?_))
      | exact ih0 _ _ _ _
      | exact ih1 _ _ _ _ _
      | exact ih2 _ _ _ _ _
      | exact polyglotkit_LightProps.mono _ _
      | exact prop_Check.mono _ _ _ _ _ _
      | exact LeO.none _
      | refine LeO.ite ?_ ?_
      | refine LeO.bind ?_ (fun _ => ?_)
    · intro y0 y1 y2 y3 y4
      unfold polyglotlaw05_PropTurns.j1
      repeat' first
      | (with_reducible exact ih0 _ _ _ _)
      | (with_reducible exact ih1 _ _ _ _ _)
      | (with_reducible exact ih2 _ _ _ _ _)
      | (with_reducible exact polyglotkit_LightProps.mono _ _)
      | (with_reducible exact prop_Check.mono _ _ _ _ _ _)
      | (with_reducible exact LeO.refl _)
      | (with_reducible exact LeO.none _)
      | (with_reducible refine LeO.ite ?_ ?_)
      | (with_reducible refine LeO.bind ?_ (fun _ => ?_))
      | exact ih0 _ _ _ _
      | exact ih1 _ _ _ _ _
      | exact ih2 _ _ _ _ _
      | exact polyglotkit_LightProps.mono _ _
      | exact prop_Check.mono _ _ _ _ _ _
      | exact LeO.none _
      | refine LeO.ite ?_ ?_
      | refine LeO.bind ?_ (fun _ => ?_)
    · intro y0 y1 y2 y3 y4
      unfold polyglotlaw05_PropTurns.j2
      repeat' first
      | (with_reducible exact ih0 _ _ _ _)
      | (with_reducible exact ih1 _ _ _ _ _)
      | (with_reducible exact ih2 _ _ _ _ _)
      | (with_reducible exact polyglotkit_LightProps.mono _ _)
      | (with_reducible exact prop_Check.mono _ _ _ _ _ _)
      | (with_reducible exact LeO.refl _)
      | (with_reducible exact LeO.none _)
      | (with_reducible refine LeO.ite ?_ ?_)
      | (with_reducible refine LeO.bind ?_ (fun _ => ?_))
      | exact ih0 _ _ _ _
      | exact ih1 _ _ _ _ _
      | exact ih2 _ _ _ _ _
      | exact polyglotkit_LightProps.mono _ _
      | exact prop_Check.mono _ _ _ _ _ _
      | exact LeO.none _
      | refine LeO.ite ?_ ?_
      | refine LeO.bind ?_ (fun _ => ?_)
theorem polyglotlaw05_PropTurns.mono : ∀ a0 a1 a2 k, LeO (polyglotlaw05_PropTurns.f k a0 a1 a2) (polyglotlaw05_PropTurns.f (k + 1) a0 a1 a2) := by
  intro a0 a1 a2 k
  obtain ⟨ih0, ih1, ih2⟩ := polyglotlaw05_PropTurns.mono_l k
  unfold polyglotlaw05_PropTurns.f
  repeat' first
      | (with_reducible exact ih0 _ _ _ _)
      | (with_reducible exact ih1 _ _ _ _ _)
      | (with_reducible exact ih2 _ _ _ _ _)
      | (with_reducible exact polyglotkit_LightProps.mono _ _)
      | (with_reducible exact prop_Check.mono _ _ _ _ _ _)
      | (with_reducible exact LeO.refl _)
      | (with_reducible exact LeO.none _)
      | (with_reducible refine LeO.ite ?_ ?_)
      | (with_reducible refine LeO.bind ?_ (fun _ => ?_))
      | exact ih0 _ _ _ _
      | exact ih1 _ _ _ _ _
      | exact ih2 _ _ _ _ _
      | exact polyglotkit_LightProps.mono _ _
      | exact prop_Check.mono _ _ _ _ _ _
      | exact LeO.none _
      | refine LeO.ite ?_ ?_
      | refine LeO.bind ?_ (fun _ => ?_)
def polyglotlaw05_PropTurns.T6 : Bool × List (List Nat × List Nat) := (true, [([], []), ([], []), ([0, 1], [0, 1]), ([2], [2]), ([], []), ([], []), ([4, 5], [4, 5]), ([3, 6, 3], [3, 6]), ([7, 7, 0, 1, 2, 3, 4, 5, 6, 7], [7])])
def polyglotlaw05_PropTurns.B6 : List Nat := [0, 0, 3, 7, 0, 0, 48, 127, 255]
theorem polyglotlaw05_PropTurns.tab6 : rtab .any (opsOf Try.f4 6) = polyglotlaw05_PropTurns.T6 := by kernel_rfl
theorem polyglotlaw05_PropTurns.bits6 : waitsOk polyglotlaw05_PropTurns.T6.2 polyglotlaw05_PropTurns.B6 = true := by kernel_rfl
def polyglotlaw05_PropTurns.T11 : Bool × List (List Nat × List Nat) := (true, [([], []), ([], []), ([0, 1], [0, 1]), ([2], [2]), ([], []), ([], []), ([5], [5]), ([4, 6], [4, 6]), ([3, 7, 3], [3, 7]), ([8, 8, 0, 1, 2, 3, 4, 5, 6, 7, 8], [8])])
def polyglotlaw05_PropTurns.B11 : List Nat := [0, 0, 3, 7, 0, 0, 32, 112, 255, 511]
theorem polyglotlaw05_PropTurns.tab11 : rtab .any (opsOf Try.f4 11) = polyglotlaw05_PropTurns.T11 := by kernel_rfl
theorem polyglotlaw05_PropTurns.bits11 : waitsOk polyglotlaw05_PropTurns.T11.2 polyglotlaw05_PropTurns.B11 = true := by kernel_rfl
def polyglotlaw05_PropTurns.T14 : Bool × List (List Nat × List Nat) := (true, [([], []), ([0], [0]), ([], []), ([], []), ([2, 3], [2, 3]), ([4], [4]), ([5], [5]), ([1, 6, 1], [1, 6]), ([7, 7, 0, 1, 2, 3, 4, 5, 6, 7], [7])])
def polyglotlaw05_PropTurns.B14 : List Nat := [0, 1, 0, 0, 12, 28, 60, 127, 255]
theorem polyglotlaw05_PropTurns.tab14 : rtab .any (opsOf Try.f4 14) = polyglotlaw05_PropTurns.T14 := by kernel_rfl
theorem polyglotlaw05_PropTurns.bits14 : waitsOk polyglotlaw05_PropTurns.T14.2 polyglotlaw05_PropTurns.B14 = true := by kernel_rfl
def polyglotlaw05_PropTurns.T15 : Bool × List (List Nat × List Nat) := (true, [([], []), ([], []), ([0, 1], [0, 1]), ([2], [2]), ([], []), ([], []), ([], []), ([5, 6], [5, 6]), ([7], [7]), ([8], [8]), ([4, 9, 2], [4, 9]), ([3, 10], [3, 10]), ([11, 10], [11]), ([12], [12]), ([13, 12], [12, 13]), ([14, 12], [12, 14]), ([12, 15], [12, 15]), ([16, 12, 0, 1, 2, 3, 4, 5, 6, 7, 8, 9, 10, 11, 12, 13, 14, 15, 16], [16])])
def polyglotlaw05_PropTurns.B15 : List Nat := [0, 0, 3, 7, 0, 0, 0, 96, 224, 480, 1015, 2047, 4095, 8191, 16383, 32767, 65535, 131071]
theorem polyglotlaw05_PropTurns.tab15 : rtab .any (opsOf Try.f4 15) = polyglotlaw05_PropTurns.T15 := by kernel_rfl
theorem polyglotlaw05_PropTurns.bits15 : waitsOk polyglotlaw05_PropTurns.T15.2 polyglotlaw05_PropTurns.B15 = true := by kernel_rfl
set_option maxHeartbeats 8000000 in
set_option maxRecDepth 100000 in
theorem polyglotlaw05_PropTurns.calls (k : Nat) (a0 : Int) (A1 : Option Addr) (c1 : Nat) (l1 : List (S27)) (a2 : Int) (r : Bool) (w : World) (hr1 : Kd.C k27 w A1 l1.length l1) (hc1 : l1.length ≤ c1) (h : polyglotlaw05_PropTurns.f k a0 l1 a2 = some r) :
    Calls Try.prog 4 #[.int .i64 a0, .slice A1 l1.length c1, .int .i64 a2] w fun e w' => e = .returned (.bool r) ∧ Below w.heap.size w w' := by
  have hu27 := Try.underlying27
  have HR1 := Aside0.mk hr1
  have HC1 := Aside0.mk hc1
  clear hr1 hc1
  have HB := Aside0.mk (Below.refl w.heap.size w)
  have H : ((polyglotlaw05_lives.f).bind fun t169 => (if t169 = true then ((polyglotkit_LightProps.f k l1).bind fun t170 => (if t170 = true then ((prop_Valid.f a0 l1).bind fun t171 => (if t171 = 0 then (if (l1.length : Int) = 0 then (polyglotlaw05_PropTurns.j0 k a0 l1 a2 true) else (polyglotlaw05_PropTurns.j0 k a0 l1 a2 (decide ((l1.length : Int) > 900)))) else (polyglotlaw05_PropTurns.j0 k a0 l1 a2 true))) else (polyglotlaw05_PropTurns.j0 k a0 l1 a2 true))) else (some false))) = some r := h
  clear h
  replace H := Option.bind_eq_some_iff.mp H
  obtain ⟨t169, A40, H⟩ := H
  replace H : (if t169 = true then ((polyglotkit_LightProps.f k l1).bind fun t170 => (if t170 = true then ((prop_Valid.f a0 l1).bind fun t171 => (if t171 = 0 then (if (l1.length : Int) = 0 then (polyglotlaw05_PropTurns.j0 k a0 l1 a2 true) else (polyglotlaw05_PropTurns.j0 k a0 l1 a2 (decide ((l1.length : Int) > 900)))) else (polyglotlaw05_PropTurns.j0 k a0 l1 a2 true))) else (polyglotlaw05_PropTurns.j0 k a0 l1 a2 true))) else (some false)) = some r := H
  have A4 := Aside0.mk A40
  clear A40
  by_cases c5 : t169 = true
  · subst c5
    have H1 : ((polyglotkit_LightProps.f k l1).bind fun t170 => (if t170 = true then ((prop_Valid.f a0 l1).bind fun t171 => (if t171 = 0 then (if (l1.length : Int) = 0 then (polyglotlaw05_PropTurns.j0 k a0 l1 a2 true) else (polyglotlaw05_PropTurns.j0 k a0 l1 a2 (decide ((l1.length : Int) > 900)))) else (polyglotlaw05_PropTurns.j0 k a0 l1 a2 true))) else (polyglotlaw05_PropTurns.j0 k a0 l1 a2 true))) = some r := by rw [if_pos rfl] at H; exact H
    clear H
    have H := H1
    clear H1
    have HC6 := Aside0.mk H
    clear H
    go_enter Try.func4, Try.ntmps4
    go_upto_region 3 with (first | ((with_reducible refine gate_callee (f := 11) rfl ?_); refine goesL_ (some 15) rfl rfl Try.func11 (by kernel_rfl) rfl #[] rfl (by (try simp only [List.map_toArray, List.map_cons, List.map_nil]); first | done | rfl | (simp only [List.length_drop, List.length_take]; rfl)) ?_; (with_reducible refine (polyglotlaw05_lives.calls  true _ A4.out).mono ?_); rintro e w7 ⟨rfl, hb⟩; refine ⟨_, rfl, ?_⟩; have n0_ := Aside0.mk (below_step (by repeat (first | (with_reducible first | exact HB.out | apply below_alloc | apply pw_below_drewN | apply below_drew1) | exact HB.out)) hb); clear HB; have HB := n0_; clear n0_; (try clear hb); (try clear hb2); (try clear hk); (try clear hi)))
    (try simp only [Act.put, List.setIfInBounds_toArray, List.set_cons_zero, List.set_cons_succ])
    go_cut [35] (fun v35 wc => ∃ (kq : Nat) (x35_5 : Bool), v35 = .bool x35_5 ∧ Aside0 (polyglotlaw05_PropTurns.j0 kq a0 l1 a2 x35_5 = some r) ∧ Aside0 (kq ≤ k) ∧ Aside0 (Below w.heap.size w wc))
    case first =>
      have H := HC6.out
      clear HC6
      replace H := Option.bind_eq_some_iff.mp H
      obtain ⟨t170, A80, H⟩ := H
      replace H : (if t170 = true then ((prop_Valid.f a0 l1).bind fun t171 => (if t171 = 0 then (if (l1.length : Int) = 0 then (polyglotlaw05_PropTurns.j0 k a0 l1 a2 true) else (polyglotlaw05_PropTurns.j0 k a0 l1 a2 (decide ((l1.length : Int) > 900)))) else (polyglotlaw05_PropTurns.j0 k a0 l1 a2 true))) else (polyglotlaw05_PropTurns.j0 k a0 l1 a2 true)) = some r := H
      have A8 := Aside0.mk A80
      clear A80
      by_cases c9 : t170 = true
      · subst c9
        have H1 : ((prop_Valid.f a0 l1).bind fun t171 => (if t171 = 0 then (if (l1.length : Int) = 0 then (polyglotlaw05_PropTurns.j0 k a0 l1 a2 true) else (polyglotlaw05_PropTurns.j0 k a0 l1 a2 (decide ((l1.length : Int) > 900)))) else (polyglotlaw05_PropTurns.j0 k a0 l1 a2 true))) = some r := by rw [if_pos rfl] at H; exact H
        clear H
        have H := H1
        clear H1
        replace H := Option.bind_eq_some_iff.mp H
        obtain ⟨t171, A100, H⟩ := H
        replace H : (if t171 = 0 then (if (l1.length : Int) = 0 then (polyglotlaw05_PropTurns.j0 k a0 l1 a2 true) else (polyglotlaw05_PropTurns.j0 k a0 l1 a2 (decide ((l1.length : Int) > 900)))) else (polyglotlaw05_PropTurns.j0 k a0 l1 a2 true)) = some r := H
        have A10 := Aside0.mk A100
        clear A100
        by_cases c11 : t171 = 0
        · rw [if_pos c11] at H
          have c11b0 : (t171 == 0) = true := beq_iff_eq.mpr c11
          have c11b1 : (t171 != 0) = false := bne_eq_false_iff_eq.mpr c11
          clear c11
          (first | rw [c11b0] | (simp only [i64_w, i32_w]; rw [c11b0]) | skip)
          by_cases c12 : (l1.length : Int) = 0
          · rw [if_pos c12] at H
            have c12b0 : ((l1.length : Int) == 0) = true := beq_iff_eq.mpr c12
            have c12b1 : ((l1.length : Int) != 0) = false := bne_eq_false_iff_eq.mpr c12
            clear c12
            have H' := Aside0.mk H
            clear H
            go_wp2_with (first | ((with_reducible refine gate_callee (f := 15) rfl ?_); refine goesL_ (some 18) rfl rfl Try.func15 (by kernel_rfl) rfl #[.slice A1 l1.length c1] rfl (by (try simp only [List.map_toArray, List.map_cons, List.map_nil]); first | done | rfl | (simp only [List.length_drop, List.length_take]; rfl)) ?_; (with_reducible refine (polyglotkit_LightProps.calls k _ _ l1 true _ ?side1 ?side2 A8.out).mono ?_); (case side1 => repeat (first | exact (Kd.C_below HR1.out HB.out) | (with_reducible refine Kd.C_alloc ?_ _) | (with_reducible refine Kd.C_drewN ?_ _) | (with_reducible refine Kd.C_drew ?_))); (case side2 => exact HC1.out); rintro e w' ⟨rfl, ⟨nd, rfl⟩⟩; refine ⟨_, rfl, ?_⟩) | (go_at_call 16; (with_reducible refine (prop_Valid.calls a0 _ _ l1 t171 _ ?side1 ?side2 A10.out).mono ?_); (case side1 => repeat (first | exact (Kd.C_below HR1.out (by repeat (first | (with_reducible first | exact HB.out | apply below_alloc | apply pw_below_drewN | apply below_drew1) | exact HB.out))) | (with_reducible refine Kd.C_alloc ?_ _) | (with_reducible refine Kd.C_drewN ?_ _) | (with_reducible refine Kd.C_drew ?_))); (case side2 => exact HC1.out); rintro e w13 ⟨rfl, hb⟩; have n0_ := Aside0.mk (below_step (by repeat (first | (with_reducible first | exact HB.out | apply below_alloc | apply pw_below_drewN | apply below_drew1) | exact HB.out)) hb); clear HB; have HB := n0_; clear n0_; (try clear hb); (try clear hb2); (try clear hk); (try clear hi)))
            go_meet
            case rel => exact ⟨_, (true), (by first | rfl | (simp; done) | (simp [*]; done) | (simp; exact bne_nil_isEmpty _) | exact bne_nil_isEmpty _ | (simp; exact (bne_nil_isEmpty _).symm) | (simp; exact bne_nil_isEmpty' _)), H', ⟨by first | omega | exact Nat.le_refl _⟩, ⟨by repeat (first | (with_reducible first | exact HB.out | apply below_alloc | apply pw_below_drewN | apply below_drew1) | exact HB.out)⟩⟩
          · rw [if_neg c12] at H
            have c12b0 : ((l1.length : Int) == 0) = false := beq_eq_false_iff_ne.mpr c12
            have c12b1 : ((l1.length : Int) != 0) = true := bne_iff_ne.mpr c12
            have c12b2 : ¬ (l1 = []) := fun h_ => c12 (by rw [h_]; rfl)
            have H' := Aside0.mk H
            clear H
            go_wp2_with (first | ((with_reducible refine gate_callee (f := 15) rfl ?_); refine goesL_ (some 18) rfl rfl Try.func15 (by kernel_rfl) rfl #[.slice A1 l1.length c1] rfl (by (try simp only [List.map_toArray, List.map_cons, List.map_nil]); first | done | rfl | (simp only [List.length_drop, List.length_take]; rfl)) ?_; (with_reducible refine (polyglotkit_LightProps.calls k _ _ l1 true _ ?side1 ?side2 A8.out).mono ?_); (case side1 => repeat (first | exact (Kd.C_below HR1.out HB.out) | (with_reducible refine Kd.C_alloc ?_ _) | (with_reducible refine Kd.C_drewN ?_ _) | (with_reducible refine Kd.C_drew ?_))); (case side2 => exact HC1.out); rintro e w' ⟨rfl, ⟨nd, rfl⟩⟩; refine ⟨_, rfl, ?_⟩) | (go_at_call 16; (with_reducible refine (prop_Valid.calls a0 _ _ l1 t171 _ ?side1 ?side2 A10.out).mono ?_); (case side1 => repeat (first | exact (Kd.C_below HR1.out (by repeat (first | (with_reducible first | exact HB.out | apply below_alloc | apply pw_below_drewN | apply below_drew1) | exact HB.out))) | (with_reducible refine Kd.C_alloc ?_ _) | (with_reducible refine Kd.C_drewN ?_ _) | (with_reducible refine Kd.C_drew ?_))); (case side2 => exact HC1.out); rintro e w14 ⟨rfl, hb⟩; have n0_ := Aside0.mk (below_step (by repeat (first | (with_reducible first | exact HB.out | apply below_alloc | apply pw_below_drewN | apply below_drew1) | exact HB.out)) hb); clear HB; have HB := n0_; clear n0_; (try clear hb); (try clear hb2); (try clear hk); (try clear hi)))
            go_meet
            case rel => exact ⟨_, (decide ((l1.length : Int) > 900)), (by first | rfl | (simp; done) | (simp [*]; done) | (simp; exact bne_nil_isEmpty _) | exact bne_nil_isEmpty _ | (simp; exact (bne_nil_isEmpty _).symm) | (simp; exact bne_nil_isEmpty' _)), H', ⟨by first | omega | exact Nat.le_refl _⟩, ⟨by repeat (first | (with_reducible first | exact HB.out | apply below_alloc | apply pw_below_drewN | apply below_drew1) | exact HB.out)⟩⟩
        · rw [if_neg c11] at H
          have c11b0 : (t171 == 0) = false := beq_eq_false_iff_ne.mpr c11
          have c11b1 : (t171 != 0) = true := bne_iff_ne.mpr c11
          (first | rw [c11b0] | (simp only [i64_w, i32_w]; rw [c11b0]) | skip)
          have H' := Aside0.mk H
          clear H
          go_wp2_with (first | ((with_reducible refine gate_callee (f := 15) rfl ?_); refine goesL_ (some 18) rfl rfl Try.func15 (by kernel_rfl) rfl #[.slice A1 l1.length c1] rfl (by (try simp only [List.map_toArray, List.map_cons, List.map_nil]); first | done | rfl | (simp only [List.length_drop, List.length_take]; rfl)) ?_; (with_reducible refine (polyglotkit_LightProps.calls k _ _ l1 true _ ?side1 ?side2 A8.out).mono ?_); (case side1 => repeat (first | exact (Kd.C_below HR1.out HB.out) | (with_reducible refine Kd.C_alloc ?_ _) | (with_reducible refine Kd.C_drewN ?_ _) | (with_reducible refine Kd.C_drew ?_))); (case side2 => exact HC1.out); rintro e w' ⟨rfl, ⟨nd, rfl⟩⟩; refine ⟨_, rfl, ?_⟩) | (go_at_call 16; (with_reducible refine (prop_Valid.calls a0 _ _ l1 t171 _ ?side1 ?side2 A10.out).mono ?_); (case side1 => repeat (first | exact (Kd.C_below HR1.out (by repeat (first | (with_reducible first | exact HB.out | apply below_alloc | apply pw_below_drewN | apply below_drew1) | exact HB.out))) | (with_reducible refine Kd.C_alloc ?_ _) | (with_reducible refine Kd.C_drewN ?_ _) | (with_reducible refine Kd.C_drew ?_))); (case side2 => exact HC1.out); rintro e w15 ⟨rfl, hb⟩; have n0_ := Aside0.mk (below_step (by repeat (first | (with_reducible first | exact HB.out | apply below_alloc | apply pw_below_drewN | apply below_drew1) | exact HB.out)) hb); clear HB; have HB := n0_; clear n0_; (try clear hb); (try clear hb2); (try clear hk); (try clear hi)))
          go_meet
          case rel => exact ⟨_, (true), (by first | rfl | (simp; done) | (simp [*]; done) | (simp; exact bne_nil_isEmpty _) | exact bne_nil_isEmpty _ | (simp; exact (bne_nil_isEmpty _).symm) | (simp; exact bne_nil_isEmpty' _)), H', ⟨by first | omega | exact Nat.le_refl _⟩, ⟨by repeat (first | (with_reducible first | exact HB.out | apply below_alloc | apply pw_below_drewN | apply below_drew1) | exact HB.out)⟩⟩
      · replace c9 := Bool.eq_false_iff.mpr c9
        subst c9
        have H1 : (polyglotlaw05_PropTurns.j0 k a0 l1 a2 true) = some r := by rw [if_neg (show ¬ (false = true) by decide)] at H; exact H
        clear H
        have H := H1
        clear H1
        have H' := Aside0.mk H
        clear H
        go_wp2_with (first | ((with_reducible refine gate_callee (f := 15) rfl ?_); refine goesL_ (some 18) rfl rfl Try.func15 (by kernel_rfl) rfl #[.slice A1 l1.length c1] rfl (by (try simp only [List.map_toArray, List.map_cons, List.map_nil]); first | done | rfl | (simp only [List.length_drop, List.length_take]; rfl)) ?_; (with_reducible refine (polyglotkit_LightProps.calls k _ _ l1 false _ ?side1 ?side2 A8.out).mono ?_); (case side1 => repeat (first | exact (Kd.C_below HR1.out HB.out) | (with_reducible refine Kd.C_alloc ?_ _) | (with_reducible refine Kd.C_drewN ?_ _) | (with_reducible refine Kd.C_drew ?_))); (case side2 => exact HC1.out); rintro e w' ⟨rfl, ⟨nd, rfl⟩⟩; refine ⟨_, rfl, ?_⟩))
        go_meet
        case rel => exact ⟨_, (true), (by first | rfl | (simp; done) | (simp [*]; done) | (simp; exact bne_nil_isEmpty _) | exact bne_nil_isEmpty _ | (simp; exact (bne_nil_isEmpty _).symm) | (simp; exact bne_nil_isEmpty' _)), H', ⟨by first | omega | exact Nat.le_refl _⟩, ⟨by repeat (first | (with_reducible first | exact HB.out | apply below_alloc | apply pw_below_drewN | apply below_drew1) | exact HB.out)⟩⟩
    case rest =>
      clear HC6
      try clear c1
      try clear p2
      try clear c4
      try clear c5
      try clear c9
      try clear c11
      try clear c11b0
      try clear c11b1
      try clear c12
      try clear c12b0
      try clear c12b1
      try clear c12b2
      try clear c15
      obtain ⟨kq, x35_5, rfl, HA, HJ5, HB⟩ := hcut
      cases kq with
      | zero => exact absurd HA.out (by simp [polyglotlaw05_PropTurns.j0])
      | succ kj5 =>
        have H := HA.out
        clear HA
        simp only [polyglotlaw05_PropTurns.j0] at H
        by_cases c16 : x35_5 = true
        · subst c16
          have H1 : (some true) = some r := by rw [if_pos rfl] at H; exact H
          clear H
          have H := H1
          clear H1
          obtain rfl := Option.some.inj H
          go_wp2
          go_ret
          exact ⟨by first | rfl | (simp [errW_none, errW_some] <;> rfl) | (simp [*, errW_none, errW_some] <;> rfl), by repeat (first | (with_reducible first | exact HB.out | apply below_alloc | apply pw_below_drewN | apply below_drew1) | exact HB.out)⟩
        · replace c16 := Bool.eq_false_iff.mpr c16
          subst c16
          have H1 : ((polyglotkit_Pick.f a2 (l1.length : Int)).bind fun t172 => (if 0 ≤ t172 then (if t172 ≤ (l1.length : Int) then ((api_Prop_17.f (l1.drop (t172 : Int).toNat)).bind fun t177 => ((some (l1.take (t172 : Int).toNat : List (S27))).bind fun y180 => (if t177.length + y180.length < 2932031007402 then ((prop_Bytes.f a0 l1).bind fun bt187 => ((prop_Bytes.f a0 (t177 ++ y180)).bind fun bt189 => (if bt187.2 = 0 then (if bt189.2 = 0 then (if (bt187.1.size : Int) = (bt189.1.size : Int) then (if t172 < (l1.length : Int) then ((prop_Check.f kj5 a0 ((rd_T27 l1 t172).f0) ((rd_T27 l1 t172).f1) ((rd_T27 l1 t172).f2) ((rd_T27 l1 t172).f3)).bind fun t192 => (polyglotlaw05_PropTurns.j1 kj5 a0 l1 t172 bt187.1 (t192 != 0))) else (none)) else (polyglotlaw05_PropTurns.j1 kj5 a0 l1 t172 bt187.1 true)) else (polyglotlaw05_PropTurns.j1 kj5 a0 l1 t172 bt187.1 true)) else (polyglotlaw05_PropTurns.j1 kj5 a0 l1 t172 bt187.1 true)))) else (none)))) else (none)) else (none))) = some r := by rw [if_neg (show ¬ (false = true) by decide)] at H; exact H
          clear H
          have H := H1
          clear H1
          replace H := Option.bind_eq_some_iff.mp H
          obtain ⟨t172, A170, H⟩ := H
          replace H : (if 0 ≤ t172 then (if t172 ≤ (l1.length : Int) then ((api_Prop_17.f (l1.drop (t172 : Int).toNat)).bind fun t177 => ((some (l1.take (t172 : Int).toNat : List (S27))).bind fun y180 => (if t177.length + y180.length < 2932031007402 then ((prop_Bytes.f a0 l1).bind fun bt187 => ((prop_Bytes.f a0 (t177 ++ y180)).bind fun bt189 => (if bt187.2 = 0 then (if bt189.2 = 0 then (if (bt187.1.size : Int) = (bt189.1.size : Int) then (if t172 < (l1.length : Int) then ((prop_Check.f kj5 a0 ((rd_T27 l1 t172).f0) ((rd_T27 l1 t172).f1) ((rd_T27 l1 t172).f2) ((rd_T27 l1 t172).f3)).bind fun t192 => (polyglotlaw05_PropTurns.j1 kj5 a0 l1 t172 bt187.1 (t192 != 0))) else (none)) else (polyglotlaw05_PropTurns.j1 kj5 a0 l1 t172 bt187.1 true)) else (polyglotlaw05_PropTurns.j1 kj5 a0 l1 t172 bt187.1 true)) else (polyglotlaw05_PropTurns.j1 kj5 a0 l1 t172 bt187.1 true)))) else (none)))) else (none)) else (none)) = some r := H
          have A17 := Aside0.mk A170
          clear A170
          by_cases c18 : 0 ≤ t172
          · rw [if_pos c18] at H
            have c18b0 := eq_true c18
            have c18b1 : decide (0 ≤ t172) = true := decide_eq_true c18
            clear c18
            by_cases c19 : t172 ≤ (l1.length : Int)
            · rw [if_pos c19] at H
              have c19b0 := eq_true c19
              have c19b1 : decide (t172 ≤ (l1.length : Int)) = true := decide_eq_true c19
              clear c19
              obtain ⟨y173, hy173⟩ : ∃ y_ : List (S27), y_ = (l1.drop (t172 : Int).toNat) := ⟨_, rfl⟩
              replace H : ((api_Prop_17.f y173).bind fun t177 => ((some (l1.take (t172 : Int).toNat : List (S27))).bind fun y180 => (if t177.length + y180.length < 2932031007402 then ((prop_Bytes.f a0 l1).bind fun bt187 => ((prop_Bytes.f a0 (t177 ++ y180)).bind fun bt189 => (if bt187.2 = 0 then (if bt189.2 = 0 then (if (bt187.1.size : Int) = (bt189.1.size : Int) then (if t172 < (l1.length : Int) then ((prop_Check.f kj5 a0 ((rd_T27 l1 t172).f0) ((rd_T27 l1 t172).f1) ((rd_T27 l1 t172).f2) ((rd_T27 l1 t172).f3)).bind fun t192 => (polyglotlaw05_PropTurns.j1 kj5 a0 l1 t172 bt187.1 (t192 != 0))) else (none)) else (polyglotlaw05_PropTurns.j1 kj5 a0 l1 t172 bt187.1 true)) else (polyglotlaw05_PropTurns.j1 kj5 a0 l1 t172 bt187.1 true)) else (polyglotlaw05_PropTurns.j1 kj5 a0 l1 t172 bt187.1 true)))) else (none)))) = some r := by first | (rw [hy173]; with_reducible exact H) | (have H2_ := (Option.bind_some _ _).symm.trans H; rw [hy173]; with_reducible exact H2_) | (have H2_ := (Option.bind_some _ _).symm.trans H; with_reducible exact H2_) | with_reducible exact H | (rw [hy173]; exact H) | exact H
              have Ny173 := Aside0.mk hy173
              clear hy173
              replace H := Option.bind_eq_some_iff.mp H
              obtain ⟨t177, A200, H⟩ := H
              replace H : ((some (l1.take (t172 : Int).toNat : List (S27))).bind fun y180 => (if t177.length + y180.length < 2932031007402 then ((prop_Bytes.f a0 l1).bind fun bt187 => ((prop_Bytes.f a0 (t177 ++ y180)).bind fun bt189 => (if bt187.2 = 0 then (if bt189.2 = 0 then (if (bt187.1.size : Int) = (bt189.1.size : Int) then (if t172 < (l1.length : Int) then ((prop_Check.f kj5 a0 ((rd_T27 l1 t172).f0) ((rd_T27 l1 t172).f1) ((rd_T27 l1 t172).f2) ((rd_T27 l1 t172).f3)).bind fun t192 => (polyglotlaw05_PropTurns.j1 kj5 a0 l1 t172 bt187.1 (t192 != 0))) else (none)) else (polyglotlaw05_PropTurns.j1 kj5 a0 l1 t172 bt187.1 true)) else (polyglotlaw05_PropTurns.j1 kj5 a0 l1 t172 bt187.1 true)) else (polyglotlaw05_PropTurns.j1 kj5 a0 l1 t172 bt187.1 true)))) else (none))) = some r := H
              have A20 := Aside0.mk A200
              clear A200
              have c21b0 := eq_true (of_decide_eq_true (by first | (with_reducible assumption) | assumption) : 0 ≤ t172)
              have c22b0 := eq_true (of_decide_eq_true (by first | (with_reducible assumption) | assumption) : t172 ≤ (l1.length : Int))
              obtain ⟨y180, hy180⟩ : ∃ y_ : List (S27), y_ = (l1.take (t172 : Int).toNat) := ⟨_, rfl⟩
              replace H : (if t177.length + y180.length < 2932031007402 then ((prop_Bytes.f a0 l1).bind fun bt187 => ((prop_Bytes.f a0 (t177 ++ y180)).bind fun bt189 => (if bt187.2 = 0 then (if bt189.2 = 0 then (if (bt187.1.size : Int) = (bt189.1.size : Int) then (if t172 < (l1.length : Int) then ((prop_Check.f kj5 a0 ((rd_T27 l1 t172).f0) ((rd_T27 l1 t172).f1) ((rd_T27 l1 t172).f2) ((rd_T27 l1 t172).f3)).bind fun t192 => (polyglotlaw05_PropTurns.j1 kj5 a0 l1 t172 bt187.1 (t192 != 0))) else (none)) else (polyglotlaw05_PropTurns.j1 kj5 a0 l1 t172 bt187.1 true)) else (polyglotlaw05_PropTurns.j1 kj5 a0 l1 t172 bt187.1 true)) else (polyglotlaw05_PropTurns.j1 kj5 a0 l1 t172 bt187.1 true)))) else (none)) = some r := by first | (rw [hy180]; with_reducible exact H) | (have H2_ := (Option.bind_some _ _).symm.trans H; rw [hy180]; with_reducible exact H2_) | (have H2_ := (Option.bind_some _ _).symm.trans H; with_reducible exact H2_) | with_reducible exact H | (rw [hy180]; exact H) | exact H
              have Ny180 := Aside0.mk hy180
              clear hy180
              by_cases c23 : t177.length + y180.length < 2932031007402
              · rw [if_pos c23] at H
                have LMc23 := Aside0.mk c23
                clear c23
                obtain ⟨y184, hy184⟩ : ∃ y_ : List (S27), y_ = (t177 ++ y180) := ⟨_, rfl⟩
                replace H : ((prop_Bytes.f a0 l1).bind fun bt187 => ((prop_Bytes.f a0 y184).bind fun bt189 => (if bt187.2 = 0 then (if bt189.2 = 0 then (if (bt187.1.size : Int) = (bt189.1.size : Int) then (if t172 < (l1.length : Int) then ((prop_Check.f kj5 a0 ((rd_T27 l1 t172).f0) ((rd_T27 l1 t172).f1) ((rd_T27 l1 t172).f2) ((rd_T27 l1 t172).f3)).bind fun t192 => (polyglotlaw05_PropTurns.j1 kj5 a0 l1 t172 bt187.1 (t192 != 0))) else (none)) else (polyglotlaw05_PropTurns.j1 kj5 a0 l1 t172 bt187.1 true)) else (polyglotlaw05_PropTurns.j1 kj5 a0 l1 t172 bt187.1 true)) else (polyglotlaw05_PropTurns.j1 kj5 a0 l1 t172 bt187.1 true)))) = some r := by first | (rw [hy184]; with_reducible exact H) | (have H2_ := (Option.bind_some _ _).symm.trans H; rw [hy184]; with_reducible exact H2_) | (have H2_ := (Option.bind_some _ _).symm.trans H; with_reducible exact H2_) | with_reducible exact H | (rw [hy184]; exact H) | exact H
                have Ny184 := Aside0.mk hy184
                clear hy184
                replace H := Option.bind_eq_some_iff.mp H
                obtain ⟨⟨t187, t188⟩, A240, H⟩ := H
                replace H : ((prop_Bytes.f a0 y184).bind fun bt189 => (if t188 = 0 then (if bt189.2 = 0 then (if (t187.size : Int) = (bt189.1.size : Int) then (if t172 < (l1.length : Int) then ((prop_Check.f kj5 a0 ((rd_T27 l1 t172).f0) ((rd_T27 l1 t172).f1) ((rd_T27 l1 t172).f2) ((rd_T27 l1 t172).f3)).bind fun t192 => (polyglotlaw05_PropTurns.j1 kj5 a0 l1 t172 t187 (t192 != 0))) else (none)) else (polyglotlaw05_PropTurns.j1 kj5 a0 l1 t172 t187 true)) else (polyglotlaw05_PropTurns.j1 kj5 a0 l1 t172 t187 true)) else (polyglotlaw05_PropTurns.j1 kj5 a0 l1 t172 t187 true))) = some r := H
                have A24 := Aside0.mk A240
                clear A240
                replace H := Option.bind_eq_some_iff.mp H
                obtain ⟨⟨t189, t190⟩, A250, H⟩ := H
                replace H : (if t188 = 0 then (if t190 = 0 then (if (t187.size : Int) = (t189.size : Int) then (if t172 < (l1.length : Int) then ((prop_Check.f kj5 a0 ((rd_T27 l1 t172).f0) ((rd_T27 l1 t172).f1) ((rd_T27 l1 t172).f2) ((rd_T27 l1 t172).f3)).bind fun t192 => (polyglotlaw05_PropTurns.j1 kj5 a0 l1 t172 t187 (t192 != 0))) else (none)) else (polyglotlaw05_PropTurns.j1 kj5 a0 l1 t172 t187 true)) else (polyglotlaw05_PropTurns.j1 kj5 a0 l1 t172 t187 true)) else (polyglotlaw05_PropTurns.j1 kj5 a0 l1 t172 t187 true)) = some r := H
                have A25 := Aside0.mk A250
                clear A250
                have HC26 := Aside0.mk H
                clear H
                try go_wp2_with (first | ((with_reducible refine gate_callee (f := 12) rfl ?_); refine goesL_ (some 39) rfl rfl Try.func12 (by kernel_rfl) rfl #[.int .i64 a2, .int .i64 (l1.length : Int)] rfl (by (try simp only [List.map_toArray, List.map_cons, List.map_nil]); first | done | rfl | (simp only [List.length_drop, List.length_take]; rfl)) ?_; (with_reducible refine (polyglotkit_Pick.calls a2 (l1.length : Int) t172 _ A17.out).mono ?_); rintro e w' ⟨rfl, ⟨nd, rfl⟩⟩; refine ⟨_, rfl, ?_⟩))
                (try (rw [drewN_self wc]; generalize hq_ : World.drewN wc _ = wc; have n0_ : Aside0 (Below w.heap.size w wc) := ⟨by rw [← hq_]; exact (by repeat (first | (with_reducible first | exact HB.out | apply below_alloc | apply pw_below_drewN | apply below_drew1) | exact HB.out))⟩; clear HB hq_; have HB := n0_; clear n0_))
                have n0_ := Aside0.mk (below_drew1 HB.out)
                clear HB
                have HB := n0_
                clear n0_
                have q28 : (t172 : Int) ≤ ((l1.length : Int) : Int) := of_decide_eq_true (by first | (with_reducible assumption) | assumption)
                obtain ⟨i028, hi028, _, hsz28, _⟩ := info_parts info27
                have hroom28 : l1.length ≤ c1 := HC1.out
                have hC28 : Kd.C k27 _ A1 l1.length l1 := HR1.out
                have q028 : (0 : Int) ≤ (t172 : Int) := of_decide_eq_true (by first | (with_reducible assumption) | assumption)
                have hcut28 := cut_from (P := Try.prog) 32 27 .i64 Try.underlying32 hi028 4 hsz28 A1 l1.length c1 t172 q028 q28
                have hr28 := Kd.C_drop (m := (t172 : Int).toNat) (c := c1) hC28 (by omega) hroom28
                obtain ⟨A28, hA28⟩ : ∃ X_, X_ = (if c1 = (t172 : Int).toNat then A1 else (A1 : Option Addr).map (·.add ((t172 : Int).toNat * 4))) := ⟨_, rfl⟩
                obtain ⟨c28, hc28⟩ : ∃ X_, X_ = c1 - (t172 : Int).toNat := ⟨_, rfl⟩
                have hy28 : y173.length = l1.length - (t172 : Int).toNat := (by rw [Ny173.out, List.length_drop] <;> omega)
                rw [show (l1).drop (t172 : Int).toNat = y173 from Ny173.out.symm] at hr28
                replace hr28 : Kd.C k27 _ A28 y173.length y173 := (by rw [hA28]; exact hr28)
                rw [← hy28, ← hA28, ← hc28] at hcut28
                have HR176 := Aside0.mk hr28
                have HC176 := Aside0.mk (show y173.length ≤ c28 from by rw [hy28, hc28]; exact Nat.sub_le_sub_right hroom28 _)
                clear hr28 hC28 hroom28 hi028 hsz28 hc28
                have KY28 := Aside0.mk hy28
                have KA28 := Aside0.mk hA28
                clear hy28 hA28
                replace q28 := eq_true q28
                have q29 : (t172 : Int) ≤ ((l1.length : Int) : Int) := of_decide_eq_true (by first | (with_reducible assumption) | assumption)
                obtain ⟨i029, hi029, _, hsz29, _⟩ := info_parts info27
                have hroom29 : l1.length ≤ c1 := HC1.out
                have hC29 : Kd.C k27 _ A1 l1.length l1 := HR1.out
                have hcut29 := cut_to (P := Try.prog) 32 27 .i64 Try.underlying32 hi029 A1 l1.length c1 t172 (of_decide_eq_true (by first | (with_reducible assumption) | assumption)) q29 hroom29
                have hr29 := Kd.C_take (m := (t172 : Int).toNat) hC29 (by omega)
                have hy29 : y180.length = (t172 : Int).toNat := (by rw [Ny180.out, List.length_take]; omega)
                rw [← Ny180.out] at hr29
                rw [← hy29] at hcut29
                have HR183 := Aside0.mk hr29
                have HC183 := Aside0.mk (show y180.length ≤ c1 from by omega)
                clear hr29 hC29 hroom29 hi029 hsz29
                have KY29 := Aside0.mk hy29
                clear hy29
                replace q29 := eq_true q29
                refine start_ (n := 9) (S := fun w' => True) (ds := []) #[false, false, false, false, false, false, false, false, false] (by kernel_rfl) rfl rfl trivial (fun hHeld => ?_); refine with_tabW polyglotlaw05_PropTurns.tab6 polyglotlaw05_PropTurns.bits6 (fun HT_ HW_ => ?_)
                generalize wc.drew = w27 at HB HR176 HR183 hHeld ⊢
                refine pure_ (i := 0) (N := some 40) (v := ?_) (a' := ?_) #[true, false, false, false, false, false, false, false, false] rfl rfl (any_of HT_.out (by kernel_rfl)) (fun _ _ _ h => h) (Or.inl ⟨by rfl, ?_⟩) ?_ ?_
                rotate_left
                · intro w'
                  go_simp
                  with_reducible rfl
                rotate_left
                · simp only [Act.put, List.setIfInBounds_toArray, List.set_cons_zero, List.set_cons_succ, i64_w, i32_w]
                  rfl
                refine pure_ (i := 1) (N := some 41) (v := ?_) (a' := ?_) #[true, true, false, false, false, false, false, false, false] rfl rfl (any_of HT_.out (by kernel_rfl)) (fun _ _ _ h => h) (Or.inl ⟨by rfl, ?_⟩) ?_ ?_
                rotate_left
                · intro w'
                  go_simp
                  with_reducible rfl
                rotate_left
                · simp only [Act.put, List.setIfInBounds_toArray, List.set_cons_zero, List.set_cons_succ, i64_w, i32_w]
                  rfl
                refine pure_ (i := 2) (N := some 42) (v := ?_) (a' := ?_) #[true, true, true, false, false, false, false, false, false] rfl rfl (any_of HT_.out (by kernel_rfl)) (fun _ _ _ h => h) (Or.inl ⟨by rfl, ?_⟩) ?_ ?_
                rotate_left
                · intro w'
                  go_simp
                  with_reducible rfl
                rotate_left
                · simp only [Act.put, List.setIfInBounds_toArray, List.set_cons_zero, List.set_cons_succ, i64_w, i32_w]
                  rfl
                refine pure_ (i := 4) (N := some 44) (v := ?_) (a' := ?_) #[true, true, true, false, true, false, false, false, false] rfl rfl (any_of HT_.out (by kernel_rfl)) (fun _ _ _ h => h) (Or.inl ⟨by rfl, ?_⟩) ?_ ?_
                rotate_left
                · intro w'
                  go_simp
                  with_reducible rfl
                rotate_left
                · simp only [Act.put, List.setIfInBounds_toArray, List.set_cons_zero, List.set_cons_succ, i64_w, i32_w]
                  rfl
                refine pure_ (i := 5) (N := some 45) (v := ?_) (a' := ?_) #[true, true, true, false, true, true, false, false, false] rfl rfl (any_of HT_.out (by kernel_rfl)) (fun _ _ _ h => h) (Or.inl ⟨by rfl, ?_⟩) ?_ ?_
                rotate_left
                · intro w'
                  go_simp
                  with_reducible rfl
                rotate_left
                · simp only [Act.put, List.setIfInBounds_toArray, List.set_cons_zero, List.set_cons_succ, i64_w, i32_w]
                  rfl
                refine pure_ (i := 6) (N := some 46) (v := ?_) (a' := ?_) #[true, true, true, false, true, true, true, false, false] rfl rfl (any_of HT_.out (by kernel_rfl)) (fun _ _ _ h => h) (Or.inl ⟨by rfl, ?_⟩) ?_ ?_
                rotate_left
                · intro w'
                  go_simp
                  with_reducible rfl
                rotate_left
                · simp only [Act.put, List.setIfInBounds_toArray, List.set_cons_zero, List.set_cons_succ, i64_w, i32_w]
                  rfl
                refine one_ (i := 3) (N := some 43) #[true, true, true, true, true, true, true, false, false] rfl rfl (one_of HT_.out (by kernel_rfl)) (by decide) (fun K hK => ?_)
                refine goes_ Try.func17 (by kernel_rfl) rfl #[.slice A28 y173.length c28] (by rfl) rfl rfl (by (try simp only [List.map_toArray, List.map_cons, List.map_nil]); first | done | rfl | (simp only [List.length_drop, List.length_take]; rfl)) ?_
                with_reducible refine (api_Prop_17.calls _ _ y173 t177 _ ?side1 ?side2 A20.out).mono ?_
                (case side1 => repeat (first | exact (Kd.C_below HR176.out HB.out) | (with_reducible refine Kd.C_alloc ?_ _) | (with_reducible refine Kd.C_drewN ?_ _) | (with_reducible refine Kd.C_drew ?_)))
                (case side2 => exact HC176.out)
                rintro e w30 ⟨v178, rfl, ho0, hb⟩
                refine ⟨_, rfl, ?_⟩
                have n0_ := Aside0.mk (Kd.R_lower ho0 (below_size (by repeat (first | (with_reducible first | exact HB.out | apply below_alloc | apply pw_below_drewN | apply below_drew1) | exact HB.out))))
                have n1_ := Aside0.mk (below_step (by repeat (first | (with_reducible first | exact HB.out | apply below_alloc | apply pw_below_drewN | apply below_drew1) | exact HB.out)) hb)
                clear HB
                have HO179 := n0_
                have HB := n1_
                clear n0_ n1_
                (try clear hb)
                (try clear hb2)
                (try clear hk)
                (try clear hi)
                (try clear ho0)
                refine hK.out _ _ trivial (fun hHeld => ?_)
                clear hK K
                refine norm_ (a' := ?_) ?_ ?_
                rotate_left
                · show Act.put _ (some 43) _ = _
                  simp only [Act.put, List.setIfInBounds_toArray, List.set_cons_zero, List.set_cons_succ, i64_w, i32_w]
                  rfl
                refine one_ (i := 7) (N := some 47) #[true, true, true, true, true, true, true, true, false] rfl rfl (one_of HT_.out (by kernel_rfl)) (by decide) (fun K hK => ?_)
                refine Kd.R_append_rows_step k27 (w0 := w) w.heap.size (by rfl) (.tmp 43) (.tmp 46) 32 27 (.agg #[(.int .i64 0), (.int .u32 0), (.string ⟨#[]⟩), (.string ⟨#[]⟩)]) 48 rfl Try.underlying32 info27 rfl (by decide) (by omega) v178 t177 y180 _ _ _ (fun _ => True) (fun _ => False) rfl rfl ?aO ?aR (fun _ _ h => h) (fun _ h => h.elim) ?aF ?aB ?aS ?aL ?_
                (case aR => repeat (first | exact (Kd.C_below HR183.out HB.out) | (with_reducible refine Kd.C_alloc ?_ _) | (with_reducible refine Kd.C_drewN ?_ _) | (with_reducible refine Kd.C_drew ?_)))
                (case aB => exact (by repeat (first | (with_reducible first | exact HB.out | apply below_alloc | apply pw_below_drewN | apply below_drew1) | exact HB.out)))
                (case aF => exact (fun _ _ => trivial))
                (case aO => exact (by (with_reducible repeat (first | apply Kd.R_alloc | apply Kd.R_drewN | apply Kd.R_drew)); exact HO179.out))
                (case aS => exact (below_size (by repeat (first | (with_reducible first | exact HB.out | apply below_alloc | apply pw_below_drewN | apply below_drew1) | exact HB.out))))
                (case aL => have := LMc23.out; omega)
                intro v185 w31 ho hb hg hat
                rw [← Ny184.out] at ho
                have n0_ := Aside0.mk (hb)
                have n1_ := Aside0.mk (ho)
                clear HB
                clear HO179
                have HB := n0_
                have HO186 := n1_
                clear n0_ n1_
                clear ho hb hg hat
                refine hK.out _ _ trivial (fun hHeld => ?_)
                clear hK K
                refine norm_ (a' := ?_) ?_ ?_
                rotate_left
                · show Act.put _ (some 47) _ = _
                  simp only [Act.put, List.setIfInBounds_toArray, List.set_cons_zero, List.set_cons_succ, i64_w, i32_w]
                  rfl
                refine pure_ (i := 8) (N := some 8) (v := ?_) (a' := ?_) #[true, true, true, true, true, true, true, true, true] rfl rfl (any_of HT_.out (by kernel_rfl)) (fun _ _ _ h => h) (Or.inl ⟨by rfl, ?_⟩) ?_ ?_
                rotate_left
                · intro w'
                  go_simp
                  with_reducible rfl
                rotate_left
                · simp only [Act.put, List.setIfInBounds_toArray, List.set_cons_zero, List.set_cons_succ, i64_w, i32_w]
                  rfl
                refine done_ (done_of HT_.out (by kernel_rfl)) ?_
                go_upto_region 9 with (first | ((with_reducible refine gate_callee (f := 18) rfl ?_); refine goesL_ (some 51) rfl rfl Try.func18 (by kernel_rfl) rfl #[.int .i64 a0, .slice A1 l1.length c1] rfl (by (try simp only [List.map_toArray, List.map_cons, List.map_nil]); first | done | rfl | (simp only [List.length_drop, List.length_take]; rfl)) ?_; (with_reducible refine (prop_Bytes.calls a0 _ _ l1 t187 t188 _ ?side1 ?side2 A24.out).mono ?_); (case side1 => repeat (first | exact (Kd.C_below HR1.out HB.out) | (with_reducible refine Kd.C_alloc ?_ _) | (with_reducible refine Kd.C_drewN ?_ _) | (with_reducible refine Kd.C_drew ?_))); (case side2 => exact HC1.out); rintro e w32 ⟨rfl, hb⟩; refine ⟨_, rfl, ?_⟩; have n0_ := Aside0.mk (Kd.R_below (by (with_reducible repeat (first | apply Kd.R_alloc | apply Kd.R_drewN | apply Kd.R_drew)); exact HO186.out) hb); have n1_ := Aside0.mk (below_step (by repeat (first | (with_reducible first | exact HB.out | apply below_alloc | apply pw_below_drewN | apply below_drew1) | exact HB.out)) hb); clear HO186; clear HB; have HO186 := n0_; have HB := n1_; clear n0_ n1_; (try clear hb); (try clear hb2); (try clear hk); (try clear hi); obtain ⟨Ao33, co33, eo33⟩ := Kd.R_slice HO186.out; subst eo33) | ((with_reducible refine gate_callee (f := 18) rfl ?_); refine goesL_ (some 57) rfl rfl Try.func18 (by kernel_rfl) rfl #[.int .i64 a0, .slice Ao33 y184.length co33] rfl (by (try simp only [List.map_toArray, List.map_cons, List.map_nil]); first | done | rfl | (simp only [List.length_drop, List.length_take]; rfl)) ?_; (with_reducible refine (prop_Bytes.calls a0 _ _ y184 t189 t190 _ ?side1 ?side2 A25.out).mono ?_); (case side1 => repeat (first | exact (Kd.R_reads' HO186.out).2.2 | (with_reducible refine Kd.C_alloc ?_ _) | (with_reducible refine Kd.C_drewN ?_ _) | (with_reducible refine Kd.C_drew ?_))); (case side2 => exact (Kd.R_reads' HO186.out).2.1); rintro e w34 ⟨rfl, hb⟩; refine ⟨_, rfl, ?_⟩; have n0_ := Aside0.mk (Kd.R_below (by (with_reducible repeat (first | apply Kd.R_alloc | apply Kd.R_drewN | apply Kd.R_drew)); exact HO186.out) hb); have n1_ := Aside0.mk (below_step (by repeat (first | (with_reducible first | exact HB.out | apply below_alloc | apply pw_below_drewN | apply below_drew1) | exact HB.out)) hb); clear HO186; clear HB; have HO186 := n0_; have HB := n1_; clear n0_ n1_; (try clear hb); (try clear hb2); (try clear hk); (try clear hi)))
                (try simp only [Act.put, List.setIfInBounds_toArray, List.set_cons_zero, List.set_cons_succ])
                go_cut [81] (fun v81 wc => ∃ (kq : Nat) (x81_25 : Bool), v81 = .bool x81_25 ∧ Aside0 (polyglotlaw05_PropTurns.j1 kq a0 l1 t172 t187 x81_25 = some r) ∧ Aside0 (kq ≤ kj5) ∧ Aside0 (Below w.heap.size w wc))
                case first =>
                  have H := HC26.out
                  clear HC26
                  by_cases c35 : t188 = 0
                  · rw [if_pos c35] at H
                    have c35b0 : (t188 == 0) = true := beq_iff_eq.mpr c35
                    have c35b1 : (t188 != 0) = false := bne_eq_false_iff_eq.mpr c35
                    clear c35
                    (first | rw [c35b0] | (simp only [i64_w, i32_w]; rw [c35b0]) | skip)
                    by_cases c36 : t190 = 0
                    · rw [if_pos c36] at H
                      have c36b0 : (t190 == 0) = true := beq_iff_eq.mpr c36
                      have c36b1 : (t190 != 0) = false := bne_eq_false_iff_eq.mpr c36
                      clear c36
                      by_cases c37 : (t187.size : Int) = (t189.size : Int)
                      · rw [if_pos c37] at H
                        have c37b0 : ((t187.size : Int) == (t189.size : Int)) = true := beq_iff_eq.mpr c37
                        have c37b1 : ((t187.size : Int) != (t189.size : Int)) = false := bne_eq_false_iff_eq.mpr c37
                        have c37b2 : (t187.size == t189.size) = true := by first | simpa using c37 | (simp at c37 ⊢; omega)
                        clear c37
                        by_cases c38 : t172 < (l1.length : Int)
                        · rw [if_pos c38] at H
                          have c38b0 : decide (t172 < (l1.length : Int)) = true := decide_eq_true c38
                          clear c38
                          replace H := Option.bind_eq_some_iff.mp H
                          obtain ⟨t192, A390, H⟩ := H
                          replace H : (polyglotlaw05_PropTurns.j1 kj5 a0 l1 t172 t187 (t192 != 0)) = some r := H
                          have A39 := Aside0.mk A390
                          clear A390
                          have H' := Aside0.mk H
                          clear H
                          have p191 : 0 ≤ (t172 : Int) := of_decide_eq_true (by first | (with_reducible assumption) | assumption)
                          have q191 : t172 < (l1.length : Int) := of_decide_eq_true (by first | (with_reducible assumption) | assumption)
                          obtain ⟨ad191, e191, hx191_0, hx191_1, hx191_2, hx191_3⟩ := at_T27 HR1.out t172 p191 q191
                          cases e191
                          replace hx191_0 := (HB.out.cell (World.block_lt_of_cell? w _ hx191_0)).trans hx191_0
                          replace hx191_1 := (HB.out.cell (World.block_lt_of_cell? w _ hx191_1)).trans hx191_1
                          replace hx191_2 := (HB.out.cell (World.block_lt_of_cell? w _ hx191_2)).trans hx191_2
                          replace hx191_3 := (HB.out.cell (World.block_lt_of_cell? w _ hx191_3)).trans hx191_3
                          replace p191 := eq_true p191
                          replace q191 := eq_true q191
                          go_wp2_with (first | (go_at_call 13; (with_reducible refine (prop_Check.calls kj5 a0 ((rd_T27 l1 t172).f0) ((rd_T27 l1 t172).f1) ((rd_T27 l1 t172).f2) ((rd_T27 l1 t172).f3) t192 _ A39.out).mono ?_); rintro e w40 ⟨rfl, hb⟩; have n0_ := Aside0.mk (Kd.R_below (by (with_reducible repeat (first | apply Kd.R_alloc | apply Kd.R_drewN | apply Kd.R_drew)); exact HO186.out) hb); have n1_ := Aside0.mk (below_step (by repeat (first | (with_reducible first | exact HB.out | apply below_alloc | apply pw_below_drewN | apply below_drew1) | exact HB.out)) hb); clear HO186; clear HB; have HO186 := n0_; have HB := n1_; clear n0_ n1_; (try clear hb); (try clear hb2); (try clear hk); (try clear hi)))
                          go_meet
                          case rel => exact ⟨_, ((t192 != 0)), (by first | rfl | (simp; done) | (simp [*]; done) | (simp; exact bne_nil_isEmpty _) | exact bne_nil_isEmpty _ | (simp; exact (bne_nil_isEmpty _).symm) | (simp; exact bne_nil_isEmpty' _)), H', ⟨by have := HJ5.out; first | omega | exact Nat.le_refl _⟩, ⟨by repeat (first | (with_reducible first | exact HB.out | apply below_alloc | apply pw_below_drewN | apply below_drew1) | exact HB.out)⟩⟩
                        · rw [if_neg c38] at H
                          exact absurd H (by simp)
                      · rw [if_neg c37] at H
                        have c37b0 : ((t187.size : Int) == (t189.size : Int)) = false := beq_eq_false_iff_ne.mpr c37
                        have c37b1 : ((t187.size : Int) != (t189.size : Int)) = true := bne_iff_ne.mpr c37
                        have c37b2 : (t187.size == t189.size) = false := by first | simpa using c37 | (simp at c37 ⊢; omega)
                        have H' := Aside0.mk H
                        clear H
                        go_wp2
                        go_meet
                        case rel => exact ⟨_, (true), (by first | rfl | (simp; done) | (simp [*]; done) | (simp; exact bne_nil_isEmpty _) | exact bne_nil_isEmpty _ | (simp; exact (bne_nil_isEmpty _).symm) | (simp; exact bne_nil_isEmpty' _)), H', ⟨by have := HJ5.out; first | omega | exact Nat.le_refl _⟩, ⟨by repeat (first | (with_reducible first | exact HB.out | apply below_alloc | apply pw_below_drewN | apply below_drew1) | exact HB.out)⟩⟩
                    · rw [if_neg c36] at H
                      have c36b0 : (t190 == 0) = false := beq_eq_false_iff_ne.mpr c36
                      have c36b1 : (t190 != 0) = true := bne_iff_ne.mpr c36
                      have H' := Aside0.mk H
                      clear H
                      go_wp2
                      go_meet
                      case rel => exact ⟨_, (true), (by first | rfl | (simp; done) | (simp [*]; done) | (simp; exact bne_nil_isEmpty _) | exact bne_nil_isEmpty _ | (simp; exact (bne_nil_isEmpty _).symm) | (simp; exact bne_nil_isEmpty' _)), H', ⟨by have := HJ5.out; first | omega | exact Nat.le_refl _⟩, ⟨by repeat (first | (with_reducible first | exact HB.out | apply below_alloc | apply pw_below_drewN | apply below_drew1) | exact HB.out)⟩⟩
                  · rw [if_neg c35] at H
                    have c35b0 : (t188 == 0) = false := beq_eq_false_iff_ne.mpr c35
                    have c35b1 : (t188 != 0) = true := bne_iff_ne.mpr c35
                    (first | rw [c35b0] | (simp only [i64_w, i32_w]; rw [c35b0]) | skip)
                    have H' := Aside0.mk H
                    clear H
                    go_wp2
                    go_meet
                    case rel => exact ⟨_, (true), (by first | rfl | (simp; done) | (simp [*]; done) | (simp; exact bne_nil_isEmpty _) | exact bne_nil_isEmpty _ | (simp; exact (bne_nil_isEmpty _).symm) | (simp; exact bne_nil_isEmpty' _)), H', ⟨by have := HJ5.out; first | omega | exact Nat.le_refl _⟩, ⟨by repeat (first | (with_reducible first | exact HB.out | apply below_alloc | apply pw_below_drewN | apply below_drew1) | exact HB.out)⟩⟩
                case rest =>
                  clear HC26
                  try clear c1
                  try clear p1
                  try clear q1
                  try clear hx1
                  try clear c2
                  try clear p2
                  try clear q2
                  try clear c3
                  try clear c4
                  try clear c5
                  try clear c9
                  try clear c11
                  try clear c11b0
                  try clear c11b1
                  try clear c12
                  try clear c12b0
                  try clear c12b1
                  try clear c12b2
                  try clear c15
                  try clear c16
                  try clear c17
                  try clear c18
                  try clear c18b0
                  try clear c18b1
                  try clear c19
                  try clear c19b0
                  try clear c19b1
                  try clear p19
                  try clear q19
                  try clear hx19
                  try clear c21
                  try clear c21b0
                  try clear c22
                  try clear c22b0
                  try clear c23
                  try clear c28
                  try clear q28
                  try clear q29
                  try clear c35
                  try clear c35b0
                  try clear c35b1
                  try clear c36
                  try clear c36b0
                  try clear c36b1
                  try clear c37
                  try clear c37b0
                  try clear c37b1
                  try clear c37b2
                  try clear c38
                  try clear c38b0
                  try clear hx191_0
                  try clear hx191_1
                  try clear hx191_2
                  try clear hx191_3
                  try clear p191
                  try clear p2
                  try clear q028
                  try clear q191
                  try clear q28
                  try clear q29
                  obtain ⟨kq, x81_25, rfl, HA, HJ25, HB⟩ := hcut
                  cases kq with
                  | zero => exact absurd HA.out (by simp [polyglotlaw05_PropTurns.j1])
                  | succ kj25 =>
                    have H := HA.out
                    clear HA
                    simp only [polyglotlaw05_PropTurns.j1] at H
                    by_cases c41 : x81_25 = true
                    · subst c41
                      have H1 : (some false) = some r := by rw [if_pos rfl] at H; exact H
                      clear H
                      have H := H1
                      clear H1
                      obtain rfl := Option.some.inj H
                      go_wp2
                      go_ret
                      exact ⟨by first | rfl | (simp [errW_none, errW_some] <;> rfl) | (simp [*, errW_none, errW_some] <;> rfl), by repeat (first | (with_reducible first | exact HB.out | apply below_alloc | apply pw_below_drewN | apply below_drew1) | exact HB.out)⟩
                    · replace c41 := Bool.eq_false_iff.mpr c41
                      subst c41
                      have H1 : (if 0 ≤ t172 then (if t172 ≤ (l1.length : Int) then ((api_Prop_17.f (l1.take (t172 : Int).toNat)).bind fun t197 => (if 0 ≤ (wrap64 (t172 + 1)) then (if (wrap64 (t172 + 1)) ≤ (l1.length : Int) then ((some (l1.drop ((wrap64 (t172 + 1)) : Int).toNat : List (S27))).bind fun y200 => (if t197.length + y200.length < 2932031007402 then (if t172 < (l1.length : Int) then (if ((rd_T27 l1 t172).f0) = 21 then (polyglotlaw05_PropTurns.j2 kj25 a0 l1 t172 t187 false) else ((prop_Valid.f a0 (t197 ++ y200)).bind fun t208 => (polyglotlaw05_PropTurns.j2 kj25 a0 l1 t172 t187 (t208 != 0)))) else (none)) else (none))) else (none)) else (none))) else (none)) else (none)) = some r := by rw [if_neg (show ¬ (false = true) by decide)] at H; exact H
                      clear H
                      have H := H1
                      clear H1
                      by_cases c42 : 0 ≤ t172
                      · rw [if_pos c42] at H
                        have c42b0 := eq_true c42
                        have c42b1 : decide (0 ≤ t172) = true := decide_eq_true c42
                        clear c42
                        by_cases c43 : t172 ≤ (l1.length : Int)
                        · rw [if_pos c43] at H
                          have c43b0 := eq_true c43
                          have c43b1 : decide (t172 ≤ (l1.length : Int)) = true := decide_eq_true c43
                          clear c43
                          obtain ⟨y193, hy193⟩ : ∃ y_ : List (S27), y_ = (l1.take (t172 : Int).toNat) := ⟨_, rfl⟩
                          replace H : ((api_Prop_17.f y193).bind fun t197 => (if 0 ≤ (wrap64 (t172 + 1)) then (if (wrap64 (t172 + 1)) ≤ (l1.length : Int) then ((some (l1.drop ((wrap64 (t172 + 1)) : Int).toNat : List (S27))).bind fun y200 => (if t197.length + y200.length < 2932031007402 then (if t172 < (l1.length : Int) then (if ((rd_T27 l1 t172).f0) = 21 then (polyglotlaw05_PropTurns.j2 kj25 a0 l1 t172 t187 false) else ((prop_Valid.f a0 (t197 ++ y200)).bind fun t208 => (polyglotlaw05_PropTurns.j2 kj25 a0 l1 t172 t187 (t208 != 0)))) else (none)) else (none))) else (none)) else (none))) = some r := by first | (rw [hy193]; with_reducible exact H) | (have H2_ := (Option.bind_some _ _).symm.trans H; rw [hy193]; with_reducible exact H2_) | (have H2_ := (Option.bind_some _ _).symm.trans H; with_reducible exact H2_) | with_reducible exact H | (rw [hy193]; exact H) | exact H
                          have Ny193 := Aside0.mk hy193
                          clear hy193
                          replace H := Option.bind_eq_some_iff.mp H
                          obtain ⟨t197, A440, H⟩ := H
                          replace H : (if 0 ≤ (wrap64 (t172 + 1)) then (if (wrap64 (t172 + 1)) ≤ (l1.length : Int) then ((some (l1.drop ((wrap64 (t172 + 1)) : Int).toNat : List (S27))).bind fun y200 => (if t197.length + y200.length < 2932031007402 then (if t172 < (l1.length : Int) then (if ((rd_T27 l1 t172).f0) = 21 then (polyglotlaw05_PropTurns.j2 kj25 a0 l1 t172 t187 false) else ((prop_Valid.f a0 (t197 ++ y200)).bind fun t208 => (polyglotlaw05_PropTurns.j2 kj25 a0 l1 t172 t187 (t208 != 0)))) else (none)) else (none))) else (none)) else (none)) = some r := H
                          have A44 := Aside0.mk A440
                          clear A440
                          obtain ⟨ji45, hji45⟩ : ∃ j_ : Int, (wrap64 (t172 + 1)) = j_ := ⟨_, rfl⟩
                          replace H : (if 0 ≤ (ji45) then (if (ji45) ≤ (l1.length : Int) then ((some (l1.drop ((ji45) : Int).toNat : List (S27))).bind fun y200 => (if t197.length + y200.length < 2932031007402 then (if t172 < (l1.length : Int) then (if ((rd_T27 l1 t172).f0) = 21 then (polyglotlaw05_PropTurns.j2 kj25 a0 l1 t172 t187 false) else ((prop_Valid.f a0 (t197 ++ y200)).bind fun t208 => (polyglotlaw05_PropTurns.j2 kj25 a0 l1 t172 t187 (t208 != 0)))) else (none)) else (none))) else (none)) else (none)) = some r := by first | (rw [hji45] at H; exact H) | (simp only [hji45] at H ⊢; exact H)
                          (try rw [hji45] at A44)
                          have hji45w : (IntKind.i64.wrap (t172 + 1)) = ji45 := (i64_w _).trans hji45
                          by_cases c46 : 0 ≤ (ji45)
                          · rw [if_pos c46] at H
                            have c46b0 := eq_true c46
                            have c46b1 : decide (0 ≤ (ji45)) = true := decide_eq_true c46
                            clear c46
                            by_cases c47 : (ji45) ≤ (l1.length : Int)
                            · rw [if_pos c47] at H
                              have c47b0 := eq_true c47
                              have c47b1 : decide ((ji45) ≤ (l1.length : Int)) = true := decide_eq_true c47
                              clear c47
                              obtain ⟨y200, hy200⟩ : ∃ y_ : List (S27), y_ = (l1.drop ((ji45) : Int).toNat) := ⟨_, rfl⟩
                              replace H : (if t197.length + y200.length < 2932031007402 then (if t172 < (l1.length : Int) then (if ((rd_T27 l1 t172).f0) = 21 then (polyglotlaw05_PropTurns.j2 kj25 a0 l1 t172 t187 false) else ((prop_Valid.f a0 (t197 ++ y200)).bind fun t208 => (polyglotlaw05_PropTurns.j2 kj25 a0 l1 t172 t187 (t208 != 0)))) else (none)) else (none)) = some r := by first | (rw [hy200]; with_reducible exact H) | (have H2_ := (Option.bind_some _ _).symm.trans H; rw [hy200]; with_reducible exact H2_) | (have H2_ := (Option.bind_some _ _).symm.trans H; with_reducible exact H2_) | with_reducible exact H | (rw [hy200]; exact H) | exact H
                              have Ny200 := Aside0.mk hy200
                              clear hy200
                              by_cases c48 : t197.length + y200.length < 2932031007402
                              · rw [if_pos c48] at H
                                have LMc48 := Aside0.mk c48
                                clear c48
                                obtain ⟨y204, hy204⟩ : ∃ y_ : List (S27), y_ = (t197 ++ y200) := ⟨_, rfl⟩
                                replace H : (if t172 < (l1.length : Int) then (if ((rd_T27 l1 t172).f0) = 21 then (polyglotlaw05_PropTurns.j2 kj25 a0 l1 t172 t187 false) else ((prop_Valid.f a0 y204).bind fun t208 => (polyglotlaw05_PropTurns.j2 kj25 a0 l1 t172 t187 (t208 != 0)))) else (none)) = some r := by first | (rw [hy204]; with_reducible exact H) | (have H2_ := (Option.bind_some _ _).symm.trans H; rw [hy204]; with_reducible exact H2_) | (have H2_ := (Option.bind_some _ _).symm.trans H; with_reducible exact H2_) | with_reducible exact H | (rw [hy204]; exact H) | exact H
                                have Ny204 := Aside0.mk hy204
                                clear hy204
                                have HC49 := Aside0.mk H
                                clear H
                                try go_wp2
                                have n0_ := Aside0.mk (below_drew1 HB.out)
                                clear HB
                                have HB := n0_
                                clear n0_
                                have q51 : (t172 : Int) ≤ ((l1.length : Int) : Int) := of_decide_eq_true (by first | (with_reducible assumption) | assumption)
                                obtain ⟨i051, hi051, _, hsz51, _⟩ := info_parts info27
                                have hroom51 : l1.length ≤ c1 := HC1.out
                                have hC51 : Kd.C k27 _ A1 l1.length l1 := HR1.out
                                have hcut51 := cut_to (P := Try.prog) 32 27 .i64 Try.underlying32 hi051 A1 l1.length c1 t172 (of_decide_eq_true (by first | (with_reducible assumption) | assumption)) q51 hroom51
                                have hr51 := Kd.C_take (m := (t172 : Int).toNat) hC51 (by omega)
                                have hy51 : y193.length = (t172 : Int).toNat := (by rw [Ny193.out, List.length_take]; omega)
                                rw [← Ny193.out] at hr51
                                rw [← hy51] at hcut51
                                have HR196 := Aside0.mk hr51
                                have HC196 := Aside0.mk (show y193.length ≤ c1 from by omega)
                                clear hr51 hC51 hroom51 hi051 hsz51
                                have KY51 := Aside0.mk hy51
                                clear hy51
                                replace q51 := eq_true q51
                                have q52 : ((ji45) : Int) ≤ ((l1.length : Int) : Int) := of_decide_eq_true (by first | (with_reducible assumption) | assumption)
                                obtain ⟨i052, hi052, _, hsz52, _⟩ := info_parts info27
                                have hroom52 : l1.length ≤ c1 := HC1.out
                                have hC52 : Kd.C k27 _ A1 l1.length l1 := HR1.out
                                have q052 : (0 : Int) ≤ ((ji45) : Int) := of_decide_eq_true (by first | (with_reducible assumption) | assumption)
                                have hcut52 := cut_from (P := Try.prog) 32 27 .i64 Try.underlying32 hi052 4 hsz52 A1 l1.length c1 (ji45) q052 q52
                                have hr52 := Kd.C_drop (m := ((ji45) : Int).toNat) (c := c1) hC52 (by omega) hroom52
                                obtain ⟨A52, hA52⟩ : ∃ X_, X_ = (if c1 = ((ji45) : Int).toNat then A1 else (A1 : Option Addr).map (·.add (((ji45) : Int).toNat * 4))) := ⟨_, rfl⟩
                                obtain ⟨c52, hc52⟩ : ∃ X_, X_ = c1 - ((ji45) : Int).toNat := ⟨_, rfl⟩
                                have hy52 : y200.length = l1.length - ((ji45) : Int).toNat := (by rw [Ny200.out, List.length_drop] <;> omega)
                                rw [show (l1).drop ((ji45) : Int).toNat = y200 from Ny200.out.symm] at hr52
                                replace hr52 : Kd.C k27 _ A52 y200.length y200 := (by rw [hA52]; exact hr52)
                                rw [← hy52, ← hA52, ← hc52] at hcut52
                                have HR203 := Aside0.mk hr52
                                have HC203 := Aside0.mk (show y200.length ≤ c52 from by rw [hy52, hc52]; exact Nat.sub_le_sub_right hroom52 _)
                                clear hr52 hC52 hroom52 hi052 hsz52 hc52
                                have KY52 := Aside0.mk hy52
                                have KA52 := Aside0.mk hA52
                                clear hy52 hA52
                                replace q52 := eq_true q52
                                refine start_ (n := 10) (S := fun w' => True) (ds := []) #[false, false, false, false, false, false, false, false, false, false] (by kernel_rfl) rfl rfl trivial (fun hHeld => ?_); refine with_tabW polyglotlaw05_PropTurns.tab11 polyglotlaw05_PropTurns.bits11 (fun HT_ HW_ => ?_)
                                generalize wc.drew = w50 at HB HR196 HR203 hHeld ⊢
                                refine pure_ (i := 0) (N := some 82) (v := ?_) (a' := ?_) #[true, false, false, false, false, false, false, false, false, false] rfl rfl (any_of HT_.out (by kernel_rfl)) (fun _ _ _ h => h) (Or.inl ⟨by rfl, ?_⟩) ?_ ?_
                                rotate_left
                                · intro w'
                                  go_simp
                                  with_reducible rfl
                                rotate_left
                                · simp only [Act.put, List.setIfInBounds_toArray, List.set_cons_zero, List.set_cons_succ, i64_w, i32_w]
                                  rfl
                                refine pure_ (i := 1) (N := some 83) (v := ?_) (a' := ?_) #[true, true, false, false, false, false, false, false, false, false] rfl rfl (any_of HT_.out (by kernel_rfl)) (fun _ _ _ h => h) (Or.inl ⟨by rfl, ?_⟩) ?_ ?_
                                rotate_left
                                · intro w'
                                  go_simp
                                  with_reducible rfl
                                rotate_left
                                · simp only [Act.put, List.setIfInBounds_toArray, List.set_cons_zero, List.set_cons_succ, i64_w, i32_w]
                                  rfl
                                refine pure_ (i := 2) (N := some 84) (v := ?_) (a' := ?_) #[true, true, true, false, false, false, false, false, false, false] rfl rfl (any_of HT_.out (by kernel_rfl)) (fun _ _ _ h => h) (Or.inl ⟨by rfl, ?_⟩) ?_ ?_
                                rotate_left
                                · intro w'
                                  go_simp
                                  with_reducible rfl
                                rotate_left
                                · simp only [Act.put, List.setIfInBounds_toArray, List.set_cons_zero, List.set_cons_succ, i64_w, i32_w]
                                  rfl
                                refine pure_ (i := 4) (N := some 86) (v := ?_) (a' := ?_) #[true, true, true, false, true, false, false, false, false, false] rfl rfl (any_of HT_.out (by kernel_rfl)) (fun _ _ _ h => h) (Or.inl ⟨by rfl, ?_⟩) ?_ ?_
                                rotate_left
                                · intro w'
                                  go_simp
                                  with_reducible rfl
                                rotate_left
                                · simp only [Act.put, List.setIfInBounds_toArray, List.set_cons_zero, List.set_cons_succ, i64_w, i32_w]
                                  rfl
                                refine pure_ (i := 5) (N := some 87) (v := ?_) (a' := ?_) #[true, true, true, false, true, true, false, false, false, false] rfl rfl (any_of HT_.out (by kernel_rfl)) (fun _ _ _ h => h) (Or.inl ⟨by rfl, ?_⟩) ?_ ?_
                                rotate_left
                                · intro w'
                                  go_simp
                                  with_reducible rfl
                                rotate_left
                                · simp only [Act.put, List.setIfInBounds_toArray, List.set_cons_zero, List.set_cons_succ, i64_w, i32_w]
                                  rfl
                                refine pure_ (i := 6) (N := some 88) (v := ?_) (a' := ?_) #[true, true, true, false, true, true, true, false, false, false] rfl rfl (any_of HT_.out (by kernel_rfl)) (fun _ _ _ h => h) (Or.inl ⟨by rfl, ?_⟩) ?_ ?_
                                rotate_left
                                · intro w'
                                  go_simp
                                  with_reducible rfl
                                rotate_left
                                · simp only [Act.put, List.setIfInBounds_toArray, List.set_cons_zero, List.set_cons_succ, i64_w, i32_w]
                                  rfl
                                refine pure_ (i := 7) (N := some 89) (v := ?_) (a' := ?_) #[true, true, true, false, true, true, true, true, false, false] rfl rfl (any_of HT_.out (by kernel_rfl)) (fun _ _ _ h => h) (Or.inl ⟨by rfl, ?_⟩) ?_ ?_
                                rotate_left
                                · intro w'
                                  go_simp
                                  with_reducible rfl
                                rotate_left
                                · simp only [Act.put, List.setIfInBounds_toArray, List.set_cons_zero, List.set_cons_succ, i64_w, i32_w]
                                  rfl
                                refine one_ (i := 3) (N := some 85) #[true, true, true, true, true, true, true, true, false, false] rfl rfl (one_of HT_.out (by kernel_rfl)) (by decide) (fun K hK => ?_)
                                refine goes_ Try.func17 (by kernel_rfl) rfl #[.slice A1 y193.length c1] (by rfl) rfl rfl (by (try simp only [List.map_toArray, List.map_cons, List.map_nil]); first | done | rfl | (go_simp; simp only [Ny180.out, Ny193.out]) | (simp only [List.length_drop, List.length_take]; rfl)) ?_
                                with_reducible refine (api_Prop_17.calls _ _ y193 t197 _ ?side1 ?side2 A44.out).mono ?_
                                (case side1 => repeat (first | exact (Kd.C_below HR196.out HB.out) | (with_reducible refine Kd.C_alloc ?_ _) | (with_reducible refine Kd.C_drewN ?_ _) | (with_reducible refine Kd.C_drew ?_)))
                                (case side2 => exact HC196.out)
                                rintro e w53 ⟨v198, rfl, ho0, hb⟩
                                refine ⟨_, rfl, ?_⟩
                                have n0_ := Aside0.mk (Kd.R_lower ho0 (below_size (by repeat (first | (with_reducible first | exact HB.out | apply below_alloc | apply pw_below_drewN | apply below_drew1) | exact HB.out))))
                                have n1_ := Aside0.mk (below_step (by repeat (first | (with_reducible first | exact HB.out | apply below_alloc | apply pw_below_drewN | apply below_drew1) | exact HB.out)) hb)
                                clear HB
                                have HO199 := n0_
                                have HB := n1_
                                clear n0_ n1_
                                (try clear hb)
                                (try clear hb2)
                                (try clear hk)
                                (try clear hi)
                                (try clear ho0)
                                refine hK.out _ _ trivial (fun hHeld => ?_)
                                clear hK K
                                refine norm_ (a' := ?_) ?_ ?_
                                rotate_left
                                · show Act.put _ (some 85) _ = _
                                  simp only [Act.put, List.setIfInBounds_toArray, List.set_cons_zero, List.set_cons_succ, i64_w, i32_w]
                                  rfl
                                refine one_ (i := 8) (N := some 90) #[true, true, true, true, true, true, true, true, true, false] rfl rfl (one_of HT_.out (by kernel_rfl)) (by decide) (fun K hK => ?_)
                                refine Kd.R_append_rows_step k27 (w0 := w) w.heap.size (by rfl) (.tmp 85) (.tmp 89) 32 27 (.agg #[(.int .i64 0), (.int .u32 0), (.string ⟨#[]⟩), (.string ⟨#[]⟩)]) 48 rfl Try.underlying32 info27 rfl (by decide) (by omega) v198 t197 y200 _ _ _ (fun _ => True) (fun _ => False) rfl rfl ?aO ?aR (fun _ _ h => h) (fun _ h => h.elim) ?aF ?aB ?aS ?aL ?_
                                (case aR => repeat (first | exact (Kd.C_below HR203.out HB.out) | (with_reducible refine Kd.C_alloc ?_ _) | (with_reducible refine Kd.C_drewN ?_ _) | (with_reducible refine Kd.C_drew ?_)))
                                (case aB => exact (by repeat (first | (with_reducible first | exact HB.out | apply below_alloc | apply pw_below_drewN | apply below_drew1) | exact HB.out)))
                                (case aF => exact (fun _ _ => trivial))
                                (case aO => exact (by (with_reducible repeat (first | apply Kd.R_alloc | apply Kd.R_drewN | apply Kd.R_drew)); exact HO199.out))
                                (case aS => exact (below_size (by repeat (first | (with_reducible first | exact HB.out | apply below_alloc | apply pw_below_drewN | apply below_drew1) | exact HB.out))))
                                (case aL => have := LMc48.out; omega)
                                intro v205 w54 ho hb hg hat
                                rw [← Ny204.out] at ho
                                have n0_ := Aside0.mk (hb)
                                have n1_ := Aside0.mk (ho)
                                clear HB
                                clear HO199
                                have HB := n0_
                                have HO206 := n1_
                                clear n0_ n1_
                                clear ho hb hg hat
                                refine hK.out _ _ trivial (fun hHeld => ?_)
                                clear hK K
                                refine norm_ (a' := ?_) ?_ ?_
                                rotate_left
                                · show Act.put _ (some 90) _ = _
                                  simp only [Act.put, List.setIfInBounds_toArray, List.set_cons_zero, List.set_cons_succ, i64_w, i32_w]
                                  rfl
                                refine pure_ (i := 9) (N := some 13) (v := ?_) (a' := ?_) #[true, true, true, true, true, true, true, true, true, true] rfl rfl (any_of HT_.out (by kernel_rfl)) (fun _ _ _ h => h) (Or.inl ⟨by rfl, ?_⟩) ?_ ?_
                                rotate_left
                                · intro w'
                                  go_simp
                                  with_reducible rfl
                                rotate_left
                                · simp only [Act.put, List.setIfInBounds_toArray, List.set_cons_zero, List.set_cons_succ, i64_w, i32_w]
                                  rfl
                                refine done_ (done_of HT_.out (by kernel_rfl)) ?_
                                go_upto_region 12 with (fail)
                                go_cut [102] (fun v102 wc => ∃ (kq : Nat) (x102_48 : Bool), v102 = .bool x102_48 ∧ Aside0 (polyglotlaw05_PropTurns.j2 kq a0 l1 t172 t187 x102_48 = some r) ∧ Aside0 (kq ≤ kj25) ∧ Aside0 (Below w.heap.size w wc))
                                case first =>
                                  have H := HC49.out
                                  clear HC49
                                  by_cases c55 : t172 < (l1.length : Int)
                                  · rw [if_pos c55] at H
                                    have c55b0 : decide (t172 < (l1.length : Int)) = true := decide_eq_true c55
                                    clear c55
                                    (first | rw [c55b0] | (simp only [i64_w, i32_w]; rw [c55b0]) | skip)
                                    by_cases c56 : ((rd_T27 l1 t172).f0) = 21
                                    · rw [if_pos c56] at H
                                      have c56b0 : (((rd_T27 l1 t172).f0) == 21) = true := beq_iff_eq.mpr c56
                                      have c56b1 : (((rd_T27 l1 t172).f0) != 21) = false := bne_eq_false_iff_eq.mpr c56
                                      clear c56
                                      have H' := Aside0.mk H
                                      clear H
                                      have p207 : 0 ≤ (t172 : Int) := of_decide_eq_true (by first | (with_reducible assumption) | assumption)
                                      have q207 : t172 < (l1.length : Int) := of_decide_eq_true (by first | (with_reducible assumption) | assumption)
                                      obtain ⟨ad207, e207, hx207_0, hx207_1, hx207_2, hx207_3⟩ := at_T27 HR1.out t172 p207 q207
                                      cases e207
                                      replace hx207_0 := (HB.out.cell (World.block_lt_of_cell? w _ hx207_0)).trans hx207_0
                                      replace hx207_1 := (HB.out.cell (World.block_lt_of_cell? w _ hx207_1)).trans hx207_1
                                      replace hx207_2 := (HB.out.cell (World.block_lt_of_cell? w _ hx207_2)).trans hx207_2
                                      replace hx207_3 := (HB.out.cell (World.block_lt_of_cell? w _ hx207_3)).trans hx207_3
                                      replace p207 := eq_true p207
                                      replace q207 := eq_true q207
                                      go_wp2
                                      go_meet
                                      case rel => exact ⟨_, (false), (by first | rfl | (simp; done) | (simp [*]; done) | (simp; exact bne_nil_isEmpty _) | exact bne_nil_isEmpty _ | (simp; exact (bne_nil_isEmpty _).symm) | (simp; exact bne_nil_isEmpty' _)), H', ⟨by have := HJ5.out; have := HJ25.out; first | omega | exact Nat.le_refl _⟩, ⟨by repeat (first | (with_reducible first | exact HB.out | apply below_alloc | apply pw_below_drewN | apply below_drew1) | exact HB.out)⟩⟩
                                    · rw [if_neg c56] at H
                                      have c56b0 : (((rd_T27 l1 t172).f0) == 21) = false := beq_eq_false_iff_ne.mpr c56
                                      have c56b1 : (((rd_T27 l1 t172).f0) != 21) = true := bne_iff_ne.mpr c56
                                      replace H := Option.bind_eq_some_iff.mp H
                                      obtain ⟨t208, A570, H⟩ := H
                                      replace H : (polyglotlaw05_PropTurns.j2 kj25 a0 l1 t172 t187 (t208 != 0)) = some r := H
                                      have A57 := Aside0.mk A570
                                      clear A570
                                      have H' := Aside0.mk H
                                      clear H
                                      have p207 : 0 ≤ (t172 : Int) := of_decide_eq_true (by first | (with_reducible assumption) | assumption)
                                      have q207 : t172 < (l1.length : Int) := of_decide_eq_true (by first | (with_reducible assumption) | assumption)
                                      obtain ⟨ad207, e207, hx207_0, hx207_1, hx207_2, hx207_3⟩ := at_T27 HR1.out t172 p207 q207
                                      cases e207
                                      replace hx207_0 := (HB.out.cell (World.block_lt_of_cell? w _ hx207_0)).trans hx207_0
                                      replace hx207_1 := (HB.out.cell (World.block_lt_of_cell? w _ hx207_1)).trans hx207_1
                                      replace hx207_2 := (HB.out.cell (World.block_lt_of_cell? w _ hx207_2)).trans hx207_2
                                      replace hx207_3 := (HB.out.cell (World.block_lt_of_cell? w _ hx207_3)).trans hx207_3
                                      replace p207 := eq_true p207
                                      replace q207 := eq_true q207
                                      obtain ⟨Ao58, co58, eo58⟩ := Kd.R_slice HO206.out
                                      subst eo58
                                      go_wp2_with (first | (go_at_call 16; (with_reducible refine (prop_Valid.calls a0 _ _ y204 t208 _ ?side1 ?side2 A57.out).mono ?_); (case side1 => repeat (first | exact (Kd.R_reads' HO206.out).2.2 | (with_reducible refine Kd.C_alloc ?_ _) | (with_reducible refine Kd.C_drewN ?_ _) | (with_reducible refine Kd.C_drew ?_))); (case side2 => exact (Kd.R_reads' HO206.out).2.1); rintro e w59 ⟨rfl, hb⟩; have n0_ := Aside0.mk (Kd.R_below (by (with_reducible repeat (first | apply Kd.R_alloc | apply Kd.R_drewN | apply Kd.R_drew)); exact HO206.out) hb); have n1_ := Aside0.mk (below_step (by repeat (first | (with_reducible first | exact HB.out | apply below_alloc | apply pw_below_drewN | apply below_drew1) | exact HB.out)) hb); clear HO206; clear HB; have HO206 := n0_; have HB := n1_; clear n0_ n1_; (try clear hb); (try clear hb2); (try clear hk); (try clear hi)))
                                      go_meet
                                      case rel => exact ⟨_, ((t208 != 0)), (by first | rfl | (simp; done) | (simp [*]; done) | (simp; exact bne_nil_isEmpty _) | exact bne_nil_isEmpty _ | (simp; exact (bne_nil_isEmpty _).symm) | (simp; exact bne_nil_isEmpty' _)), H', ⟨by have := HJ5.out; have := HJ25.out; first | omega | exact Nat.le_refl _⟩, ⟨by repeat (first | (with_reducible first | exact HB.out | apply below_alloc | apply pw_below_drewN | apply below_drew1) | exact HB.out)⟩⟩
                                  · rw [if_neg c55] at H
                                    exact absurd H (by simp)
                                case rest =>
                                  clear HC49
                                  try clear c1
                                  try clear p1
                                  try clear q1
                                  try clear hx1
                                  try clear c2
                                  try clear p2
                                  try clear q2
                                  try clear hx2
                                  try clear c3
                                  try clear c4
                                  try clear c5
                                  try clear q5
                                  try clear p6
                                  try clear c9
                                  try clear c11
                                  try clear c11b0
                                  try clear c11b1
                                  try clear c12
                                  try clear c12b0
                                  try clear c12b1
                                  try clear c12b2
                                  try clear c15
                                  try clear c16
                                  try clear c17
                                  try clear c18
                                  try clear c18b0
                                  try clear c18b1
                                  try clear c19
                                  try clear c19b0
                                  try clear c19b1
                                  try clear p19
                                  try clear q19
                                  try clear hx19
                                  try clear p20
                                  try clear q20
                                  try clear hx20
                                  try clear c21
                                  try clear c21b0
                                  try clear c22
                                  try clear c22b0
                                  try clear c23
                                  try clear c28
                                  try clear q28
                                  try clear q29
                                  try clear c35
                                  try clear c35b0
                                  try clear c35b1
                                  try clear c36
                                  try clear c36b0
                                  try clear c36b1
                                  try clear c37
                                  try clear c37b0
                                  try clear c37b1
                                  try clear c37b2
                                  try clear c38
                                  try clear c38b0
                                  try clear c41
                                  try clear c42
                                  try clear c42b0
                                  try clear c42b1
                                  try clear c43
                                  try clear c43b0
                                  try clear c43b1
                                  try clear c46
                                  try clear c46b0
                                  try clear c46b1
                                  try clear c47
                                  try clear c47b0
                                  try clear c47b1
                                  try clear c48
                                  try clear q51
                                  try clear c52
                                  try clear q52
                                  try clear c55
                                  try clear c55b0
                                  try clear c56
                                  try clear c56b0
                                  try clear c56b1
                                  try clear hx191_0
                                  try clear hx191_1
                                  try clear hx191_2
                                  try clear hx191_3
                                  try clear hx207_0
                                  try clear hx207_1
                                  try clear hx207_2
                                  try clear hx207_3
                                  try clear p1
                                  try clear p19
                                  try clear p191
                                  try clear p2
                                  try clear p207
                                  try clear q028
                                  try clear q052
                                  try clear q1
                                  try clear q19
                                  try clear q191
                                  try clear q2
                                  try clear q207
                                  try clear q28
                                  try clear q29
                                  try clear q51
                                  try clear q52
                                  obtain ⟨kq, x102_48, rfl, HA, HJ48, HB⟩ := hcut
                                  cases kq with
                                  | zero => exact absurd HA.out (by simp [polyglotlaw05_PropTurns.j2])
                                  | succ kj48 =>
                                    have H := HA.out
                                    clear HA
                                    simp only [polyglotlaw05_PropTurns.j2] at H
                                    by_cases c60 : x102_48 = true
                                    · subst c60
                                      have H1 : (some false) = some r := by rw [if_pos rfl] at H; exact H
                                      clear H
                                      have H := H1
                                      clear H1
                                      obtain rfl := Option.some.inj H
                                      go_wp2
                                      go_ret
                                      exact ⟨by first | rfl | (simp [errW_none, errW_some] <;> rfl) | (simp only [← hji45]; first | rfl | (simp [errW_none, errW_some] <;> rfl)) | (simp [*, errW_none, errW_some] <;> rfl), by repeat (first | (with_reducible first | exact HB.out | apply below_alloc | apply pw_below_drewN | apply below_drew1) | exact HB.out)⟩
                                    · replace c60 := Bool.eq_false_iff.mpr c60
                                      subst c60
                                      have H1 : ((api_Prop_17.f l1).bind fun t209 => (if 0 ≤ t172 then (if t172 < (l1.length : Int) then ((some (([(⟨(rd_T27 l1 t172).f0, (rd_T27 l1 t172).f1, (rd_T27 l1 t172).f2, (rd_T27 l1 t172).f3⟩ : S27)] : List (S27)) : List (S27))).bind fun y213 => (if t209.length + y213.length < 2932031007402 then ((prop_Valid.f a0 (t209 ++ y213)).bind fun t219 => ((prop_Many.f a0 ((rd_T27 l1 t172).f0)).bind fun t221 => (if ((t219 == 0) == t221) = true then (some true) else (some (decide ((t187.size : Int) > 100000)))))) else (none))) else (none)) else (none))) = some r := by rw [if_neg (show ¬ (false = true) by decide)] at H; exact H
                                      clear H
                                      have H := H1
                                      clear H1
                                      replace H := Option.bind_eq_some_iff.mp H
                                      obtain ⟨t209, A610, H⟩ := H
                                      replace H : (if 0 ≤ t172 then (if t172 < (l1.length : Int) then ((some (([(⟨(rd_T27 l1 t172).f0, (rd_T27 l1 t172).f1, (rd_T27 l1 t172).f2, (rd_T27 l1 t172).f3⟩ : S27)] : List (S27)) : List (S27))).bind fun y213 => (if t209.length + y213.length < 2932031007402 then ((prop_Valid.f a0 (t209 ++ y213)).bind fun t219 => ((prop_Many.f a0 ((rd_T27 l1 t172).f0)).bind fun t221 => (if ((t219 == 0) == t221) = true then (some true) else (some (decide ((t187.size : Int) > 100000)))))) else (none))) else (none)) else (none)) = some r := H
                                      have A61 := Aside0.mk A610
                                      clear A610
                                      by_cases c62 : 0 ≤ t172
                                      · rw [if_pos c62] at H
                                        have c62b0 : decide (0 ≤ t172) = true := decide_eq_true c62
                                        clear c62
                                        by_cases c63 : t172 < (l1.length : Int)
                                        · rw [if_pos c63] at H
                                          have c63b0 : decide (t172 < (l1.length : Int)) = true := decide_eq_true c63
                                          clear c63
                                          obtain ⟨y213, hy213⟩ : ∃ y_ : List (S27), y_ = (([(⟨(rd_T27 l1 t172).f0, (rd_T27 l1 t172).f1, (rd_T27 l1 t172).f2, (rd_T27 l1 t172).f3⟩ : S27)] : List (S27))) := ⟨_, rfl⟩
                                          replace H : (if t209.length + y213.length < 2932031007402 then ((prop_Valid.f a0 (t209 ++ y213)).bind fun t219 => ((prop_Many.f a0 ((rd_T27 l1 t172).f0)).bind fun t221 => (if ((t219 == 0) == t221) = true then (some true) else (some (decide ((t187.size : Int) > 100000)))))) else (none)) = some r := by first | (rw [hy213]; with_reducible exact H) | (have H2_ := (Option.bind_some _ _).symm.trans H; rw [hy213]; with_reducible exact H2_) | (have H2_ := (Option.bind_some _ _).symm.trans H; with_reducible exact H2_) | with_reducible exact H | (rw [hy213]; exact H) | exact H
                                          have Ny213 := Aside0.mk hy213
                                          clear hy213
                                          by_cases c64 : t209.length + y213.length < 2932031007402
                                          · rw [if_pos c64] at H
                                            have LMc64 := Aside0.mk c64
                                            clear c64
                                            obtain ⟨y216, hy216⟩ : ∃ y_ : List (S27), y_ = (t209 ++ y213) := ⟨_, rfl⟩
                                            replace H : ((prop_Valid.f a0 y216).bind fun t219 => ((prop_Many.f a0 ((rd_T27 l1 t172).f0)).bind fun t221 => (if ((t219 == 0) == t221) = true then (some true) else (some (decide ((t187.size : Int) > 100000)))))) = some r := by first | (rw [hy216]; with_reducible exact H) | (have H2_ := (Option.bind_some _ _).symm.trans H; rw [hy216]; with_reducible exact H2_) | (have H2_ := (Option.bind_some _ _).symm.trans H; with_reducible exact H2_) | with_reducible exact H | (rw [hy216]; exact H) | exact H
                                            have Ny216 := Aside0.mk hy216
                                            clear hy216
                                            replace H := Option.bind_eq_some_iff.mp H
                                            obtain ⟨t219, A650, H⟩ := H
                                            replace H : ((prop_Many.f a0 ((rd_T27 l1 t172).f0)).bind fun t221 => (if ((t219 == 0) == t221) = true then (some true) else (some (decide ((t187.size : Int) > 100000))))) = some r := H
                                            have A65 := Aside0.mk A650
                                            clear A650
                                            replace H := Option.bind_eq_some_iff.mp H
                                            obtain ⟨t221, A660, H⟩ := H
                                            replace H : (if ((t219 == 0) == t221) = true then (some true) else (some (decide ((t187.size : Int) > 100000)))) = some r := H
                                            have A66 := Aside0.mk A660
                                            clear A660
                                            by_cases c67 : ((t219 == 0) == t221) = true
                                            · rw [if_pos c67] at H
                                              have c67b0 : ((t219 == 0) == t221) = true := c67
                                              (try (have c67b1 : decide ((t219 == 0) = t221) = true := by simpa using c67))
                                              (try (have c67b2 : ((t219 == 0) == t221) = true := by simpa using c67))
                                              clear c67
                                              obtain rfl := Option.some.inj H
                                              try go_wp2
                                              have n0_ := Aside0.mk (below_drew1 HB.out)
                                              clear HB
                                              have HB := n0_
                                              clear n0_
                                              have p212 : 0 ≤ (t172 : Int) := of_decide_eq_true (by first | (with_reducible assumption) | assumption)
                                              have q212 : t172 < (l1.length : Int) := of_decide_eq_true (by first | (with_reducible assumption) | assumption)
                                              obtain ⟨ad212, e212, hx212_0, hx212_1, hx212_2, hx212_3⟩ := at_T27 HR1.out t172 p212 q212
                                              have hw212_3 := hx212_3
                                              have hw212_2 := hx212_2
                                              have hw212_1 := hx212_1
                                              have hw212_0 := hx212_0
                                              cases e212
                                              replace hx212_0 := (HB.out.cell (World.block_lt_of_cell? w _ hx212_0)).trans hx212_0
                                              replace hx212_1 := (HB.out.cell (World.block_lt_of_cell? w _ hx212_1)).trans hx212_1
                                              replace hx212_2 := (HB.out.cell (World.block_lt_of_cell? w _ hx212_2)).trans hx212_2
                                              replace hx212_3 := (HB.out.cell (World.block_lt_of_cell? w _ hx212_3)).trans hx212_3
                                              replace p212 := eq_true p212
                                              replace q212 := eq_true q212
                                              refine start_ (n := 9) (S := fun w' => w'.cell? (ad212.add ((t172).toNat * 4)) = some (.int .i64 ((rd_T27 l1 t172).f0)) ∧ w'.cell? ⟨(ad212.add ((t172).toNat * 4)).block, (ad212.add ((t172).toNat * 4)).off + 1, none⟩ = some (.int .u32 ((rd_T27 l1 t172).f1)) ∧ w'.cell? ⟨(ad212.add ((t172).toNat * 4)).block, (ad212.add ((t172).toNat * 4)).off + 2, none⟩ = some (.string ((rd_T27 l1 t172).f2)) ∧ w'.cell? ⟨(ad212.add ((t172).toNat * 4)).block, (ad212.add ((t172).toNat * 4)).off + 3, none⟩ = some (.string ((rd_T27 l1 t172).f3))) (ds := []) #[false, false, false, false, false, false, false, false, false] (by kernel_rfl) rfl rfl ⟨((HB.out.cell (World.block_lt_of_cell? w _ hw212_0)).trans hw212_0), ((HB.out.cell (World.block_lt_of_cell? w _ hw212_1)).trans hw212_1), ((HB.out.cell (World.block_lt_of_cell? w _ hw212_2)).trans hw212_2), ((HB.out.cell (World.block_lt_of_cell? w _ hw212_3)).trans hw212_3)⟩ (fun hHeld => ?_); refine with_tabW polyglotlaw05_PropTurns.tab14 polyglotlaw05_PropTurns.bits14 (fun HT_ HW_ => ?_)
                                              generalize wc.drew = w68 at HB hx212_0 hx212_1 hx212_2 hx212_3 hHeld ⊢
                                              refine pure_ (i := 0) (N := some 103) (v := ?_) (a' := ?_) #[true, false, false, false, false, false, false, false, false] rfl rfl (any_of HT_.out (by kernel_rfl)) (fun _ _ _ h => h) (Or.inl ⟨by rfl, ?_⟩) ?_ ?_
                                              rotate_left
                                              · intro w'
                                                go_simp
                                                with_reducible rfl
                                              rotate_left
                                              · simp only [Act.put, List.setIfInBounds_toArray, List.set_cons_zero, List.set_cons_succ, i64_w, i32_w]
                                                rfl
                                              refine pure_ (i := 2) (N := some 105) (v := ?_) (a' := ?_) #[true, false, true, false, false, false, false, false, false] rfl rfl (any_of HT_.out (by kernel_rfl)) (fun _ _ _ h => h) (Or.inl ⟨by rfl, ?_⟩) ?_ ?_
                                              rotate_left
                                              · intro w'
                                                go_simp
                                                with_reducible rfl
                                              rotate_left
                                              · simp only [Act.put, List.setIfInBounds_toArray, List.set_cons_zero, List.set_cons_succ, i64_w, i32_w]
                                                rfl
                                              refine pure_ (i := 3) (N := some 106) (v := ?_) (a' := ?_) #[true, false, true, true, false, false, false, false, false] rfl rfl (any_of HT_.out (by kernel_rfl)) (fun _ _ _ h => h) (Or.inl ⟨by rfl, ?_⟩) ?_ ?_
                                              rotate_left
                                              · intro w'
                                                go_simp
                                                with_reducible rfl
                                              rotate_left
                                              · simp only [Act.put, List.setIfInBounds_toArray, List.set_cons_zero, List.set_cons_succ, i64_w, i32_w]
                                                rfl
                                              refine pure_ (i := 4) (N := some 107) (v := ?_) (a' := ?_) #[true, false, true, true, true, false, false, false, false] rfl rfl (any_of HT_.out (by kernel_rfl)) (fun _ _ _ h => h) (Or.inl ⟨by rfl, ?_⟩) ?_ ?_
                                              rotate_left
                                              · intro w'
                                                go_simp
                                                with_reducible rfl
                                              rotate_left
                                              · simp only [Act.put, List.setIfInBounds_toArray, List.set_cons_zero, List.set_cons_succ, i64_w, i32_w]
                                                rfl
                                              refine take_ (i := 5) (N := some 108) (v := ?_) (a' := ?_) #[true, false, true, true, true, true, false, false, false] rfl rfl (take_ofW HT_.out HW_.out (by kernel_rfl)) (fun _ _ _ h => h) (Or.inl ⟨by rfl, ?_⟩) hHeld ?_ ?_
                                              rotate_left
                                              · rintro w' ⟨s0, s1, s2, s3⟩
                                                go_simp
                                                with_reducible rfl
                                              rotate_left
                                              · simp only [Act.put, List.setIfInBounds_toArray, List.set_cons_zero, List.set_cons_succ, i64_w, i32_w]
                                                rfl
                                              refine join_ (σ := Value × Value) 2 #[true, true, true, true, true, true, true, false, false] (fun s_ => [(104, s_.1), (109, s_.2)]) (fun s_ w' => (w'.cell? (ad212.add ((t172).toNat * 4)) = some (.int .i64 ((rd_T27 l1 t172).f0)) ∧ w'.cell? ⟨(ad212.add ((t172).toNat * 4)).block, (ad212.add ((t172).toNat * 4)).off + 1, none⟩ = some (.int .u32 ((rd_T27 l1 t172).f1)) ∧ w'.cell? ⟨(ad212.add ((t172).toNat * 4)).block, (ad212.add ((t172).toNat * 4)).off + 2, none⟩ = some (.string ((rd_T27 l1 t172).f2)) ∧ w'.cell? ⟨(ad212.add ((t172).toNat * 4)).block, (ad212.add ((t172).toNat * 4)).off + 3, none⟩ = some (.string ((rd_T27 l1 t172).f3))) ∧ (Kd.R k27 27 w' w.heap.size (fun k_ => some k_ ≠ (s_.2 : Value).ownBlock) s_.1 t209) ∧ (Kd.R k27 27 w' w.heap.size (fun k_ => some k_ ≠ (s_.1 : Value).ownBlock) s_.2 y213) ∧ (Below w.heap.size w w')) ?_ ?_
                                              rotate_left
                                              · intro hCont
                                                refine two_ (i := 1) (j := 6) (Ni := some 104) (Nj := some 109) #[true, true, true, true, true, true, false, false, false] #[true, false, true, true, true, true, true, false, false] rfl rfl rfl rfl (two_of HT_.out (by kernel_rfl)) (by decide) (by decide) (fun K hK => ?_) (fun K hK => ?_)
                                                · skip
                                                  refine goes_ Try.func17 (by kernel_rfl) rfl #[.slice (some ad212) l1.length c1] (by rfl) rfl rfl (by (try simp only [List.map_toArray, List.map_cons, List.map_nil]); first | done | rfl | (simp only [List.length_drop, List.length_take]; rfl)) ?_
                                                  with_reducible refine (api_Prop_17.calls _ _ l1 t209 _ ?side1 ?side2 A61.out).mono ?_
                                                  (case side1 => repeat (first | exact (Kd.C_below HR1.out HB.out) | (with_reducible refine Kd.C_alloc ?_ _) | (with_reducible refine Kd.C_drewN ?_ _) | (with_reducible refine Kd.C_drew ?_)))
                                                  (case side2 => exact HC1.out)
                                                  rintro e w69 ⟨v210, rfl, ho0, hb⟩
                                                  refine ⟨_, rfl, ?_⟩
                                                  have n0_ := Aside0.mk (Kd.R_lower ho0 (below_size (by repeat (first | (with_reducible first | exact HB.out | apply below_alloc | apply pw_below_drewN | apply below_drew1) | exact HB.out))))
                                                  have n1_ := Aside0.mk (below_step (by repeat (first | (with_reducible first | exact HB.out | apply below_alloc | apply pw_below_drewN | apply below_drew1) | exact HB.out)) hb)
                                                  clear HB
                                                  have HO211 := n0_
                                                  have HB := n1_
                                                  clear n0_ n1_
                                                  (try clear hb)
                                                  (try clear hb2)
                                                  (try clear hk)
                                                  (try clear hi)
                                                  (try clear ho0)
                                                  refine hK.out _ _ ⟨((HB.out.cell (World.block_lt_of_cell? w _ hw212_0)).trans hw212_0), ((HB.out.cell (World.block_lt_of_cell? w _ hw212_1)).trans hw212_1), ((HB.out.cell (World.block_lt_of_cell? w _ hw212_2)).trans hw212_2), ((HB.out.cell (World.block_lt_of_cell? w _ hw212_3)).trans hw212_3)⟩ (fun hHeld => ?_)
                                                  clear hK K
                                                  refine norm_ (a' := ?_) ?_ ?_
                                                  rotate_left
                                                  · show Act.put _ (some 104) _ = _
                                                    simp only [Act.put, List.setIfInBounds_toArray, List.set_cons_zero, List.set_cons_succ, i64_w, i32_w]
                                                    rfl
                                                  refine one_ (i := 6) (N := some 109) #[true, true, true, true, true, true, true, false, false] rfl rfl (one_of HT_.out (by kernel_rfl)) (by decide) (fun K hK => ?_)
                                                  refine Kd.R_lit_step k27 _ 27 ?hg (N := 109) ?hd (xs := ([(⟨(rd_T27 l1 t172).f0, (rd_T27 l1 t172).f1, (rd_T27 l1 t172).f2, (rd_T27 l1 t172).f3⟩ : S27)] : List (S27))) (inner := [.int .i64 ((rd_T27 l1 t172).f0), .int .u32 ((rd_T27 l1 t172).f1), .string ((rd_T27 l1 t172).f2), .string ((rd_T27 l1 t172).f3)]) (ok := fun _ => True) (okp := fun _ => True) ?hr ?hp (fun _ hk => hk) trivial (Below.refl _ _) (Nat.le_refl _) (by simp) ?_; (case hd => rfl); (case hg => rfl); (case hr => first | (go_simp; done) | (go_simp; rfl)); (case hp => exact (Reps.c4 (show Kd.M k27 _ _ _ (⟨(rd_T27 l1 t172).f0, (rd_T27 l1 t172).f1, (rd_T27 l1 t172).f2, (rd_T27 l1 t172).f3⟩ : S27) [.int .i64 ((rd_T27 l1 t172).f0), .int .u32 ((rd_T27 l1 t172).f1), .string ((rd_T27 l1 t172).f2), .string ((rd_T27 l1 t172).f3)] from (k27_mkM _ _ _ (⟨(rd_T27 l1 t172).f0, (rd_T27 l1 t172).f1, (rd_T27 l1 t172).f2, (rd_T27 l1 t172).f3⟩ : S27) )) (Reps.none _ _)))
                                                  intro v214 w70 ho71 hb hg_ hnew_
                                                  clear hg_ hnew_
                                                  (first | rw [← Ny213.out] at ho71 | (simp only [Int.reduceToNat] at ho71; rw [← Ny213.out] at ho71))
                                                  have n0_ := Aside0.mk (Kd.R_elder' (by (with_reducible repeat (first | apply Kd.R_alloc | apply Kd.R_drewN | apply Kd.R_drew)); exact HO211.out) (Kd.R_base ho71) hb)
                                                  have n1_ := Aside0.mk (Kd.R_lower (Kd.R_new' ho71 (Kd.R_lt (by (with_reducible repeat (first | apply Kd.R_alloc | apply Kd.R_drewN | apply Kd.R_drew)); exact HO211.out))) (below_size (by repeat (first | (with_reducible first | exact HB.out | apply below_alloc | apply pw_below_drewN | apply below_drew1) | exact HB.out))))
                                                  have n2_ := Aside0.mk (below_step (by repeat (first | (with_reducible first | exact HB.out | apply below_alloc | apply pw_below_drewN | apply below_drew1) | exact HB.out)) hb)
                                                  clear HO211
                                                  clear HB
                                                  have HO211 := n0_
                                                  have HO215 := n1_
                                                  have HB := n2_
                                                  clear n0_ n1_ n2_
                                                  clear hb ho71
                                                  refine hK.out _ _ ⟨((HB.out.cell (World.block_lt_of_cell? w _ hw212_0)).trans hw212_0), ((HB.out.cell (World.block_lt_of_cell? w _ hw212_1)).trans hw212_1), ((HB.out.cell (World.block_lt_of_cell? w _ hw212_2)).trans hw212_2), ((HB.out.cell (World.block_lt_of_cell? w _ hw212_3)).trans hw212_3)⟩ (fun hHeld => ?_)
                                                  clear hK K
                                                  refine norm_ (a' := ?_) ?_ ?_
                                                  rotate_left
                                                  · show Act.put _ (some 109) _ = _
                                                    simp only [Act.put, List.setIfInBounds_toArray, List.set_cons_zero, List.set_cons_succ, i64_w, i32_w]
                                                    rfl
                                                  exact norm_ (by simp only [putAll, Act.put, List.setIfInBounds_toArray, List.set_cons_zero, List.set_cons_succ]) (hCont (v210, v214) _ ⟨hHeld, (by (with_reducible repeat (first | apply Kd.R_alloc | apply Kd.R_drewN | apply Kd.R_drew)); exact Kd.R_mono HO211.out (fun _ hk => hk.2)), (by (with_reducible repeat (first | apply Kd.R_alloc | apply Kd.R_drewN | apply Kd.R_drew)); exact Kd.R_mono HO215.out (fun _ hk => hk.2)), (by repeat (first | (with_reducible first | exact HB.out | apply below_alloc | apply pw_below_drewN | apply below_drew1) | exact HB.out))⟩)
                                                · skip
                                                  refine Kd.R_lit_step k27 _ 27 ?hg (N := 109) ?hd (xs := ([(⟨(rd_T27 l1 t172).f0, (rd_T27 l1 t172).f1, (rd_T27 l1 t172).f2, (rd_T27 l1 t172).f3⟩ : S27)] : List (S27))) (inner := [.int .i64 ((rd_T27 l1 t172).f0), .int .u32 ((rd_T27 l1 t172).f1), .string ((rd_T27 l1 t172).f2), .string ((rd_T27 l1 t172).f3)]) (ok := fun _ => True) (okp := fun _ => True) ?hr ?hp (fun _ hk => hk) trivial (Below.refl _ _) (Nat.le_refl _) (by simp) ?_; (case hd => rfl); (case hg => rfl); (case hr => first | (go_simp; done) | (go_simp; rfl)); (case hp => exact (Reps.c4 (show Kd.M k27 _ _ _ (⟨(rd_T27 l1 t172).f0, (rd_T27 l1 t172).f1, (rd_T27 l1 t172).f2, (rd_T27 l1 t172).f3⟩ : S27) [.int .i64 ((rd_T27 l1 t172).f0), .int .u32 ((rd_T27 l1 t172).f1), .string ((rd_T27 l1 t172).f2), .string ((rd_T27 l1 t172).f3)] from (k27_mkM _ _ _ (⟨(rd_T27 l1 t172).f0, (rd_T27 l1 t172).f1, (rd_T27 l1 t172).f2, (rd_T27 l1 t172).f3⟩ : S27) )) (Reps.none _ _)))
                                                  intro v214 w69 ho70 hb hg_ hnew_
                                                  clear hg_ hnew_
                                                  (first | rw [← Ny213.out] at ho70 | (simp only [Int.reduceToNat] at ho70; rw [← Ny213.out] at ho70))
                                                  have n0_ := Aside0.mk (Kd.R_lower ho70 (below_size (by repeat (first | (with_reducible first | exact HB.out | apply below_alloc | apply pw_below_drewN | apply below_drew1) | exact HB.out))))
                                                  have n1_ := Aside0.mk (below_step (by repeat (first | (with_reducible first | exact HB.out | apply below_alloc | apply pw_below_drewN | apply below_drew1) | exact HB.out)) hb)
                                                  clear HB
                                                  have HO215 := n0_
                                                  have HB := n1_
                                                  clear n0_ n1_
                                                  clear hb ho70
                                                  refine hK.out _ _ ⟨((HB.out.cell (World.block_lt_of_cell? w _ hw212_0)).trans hw212_0), ((HB.out.cell (World.block_lt_of_cell? w _ hw212_1)).trans hw212_1), ((HB.out.cell (World.block_lt_of_cell? w _ hw212_2)).trans hw212_2), ((HB.out.cell (World.block_lt_of_cell? w _ hw212_3)).trans hw212_3)⟩ (fun hHeld => ?_)
                                                  clear hK K
                                                  refine norm_ (a' := ?_) ?_ ?_
                                                  rotate_left
                                                  · show Act.put _ (some 109) _ = _
                                                    simp only [Act.put, List.setIfInBounds_toArray, List.set_cons_zero, List.set_cons_succ, i64_w, i32_w]
                                                    rfl
                                                  refine one_ (i := 1) (N := some 104) #[true, true, true, true, true, true, true, false, false] rfl rfl (one_of HT_.out (by kernel_rfl)) (by decide) (fun K hK => ?_)
                                                  refine goes_ Try.func17 (by kernel_rfl) rfl #[.slice (some ad212) l1.length c1] (by rfl) rfl rfl (by (try simp only [List.map_toArray, List.map_cons, List.map_nil]); first | done | rfl | (simp only [List.length_drop, List.length_take]; rfl)) ?_
                                                  with_reducible refine (api_Prop_17.calls _ _ l1 t209 _ ?side1 ?side2 A61.out).mono ?_
                                                  (case side1 => repeat (first | exact (Kd.C_below HR1.out HB.out) | (with_reducible refine Kd.C_alloc ?_ _) | (with_reducible refine Kd.C_drewN ?_ _) | (with_reducible refine Kd.C_drew ?_)))
                                                  (case side2 => exact HC1.out)
                                                  rintro e w71 ⟨v210, rfl, ho0, hb⟩
                                                  refine ⟨_, rfl, ?_⟩
                                                  have n0_ := Aside0.mk (Kd.R_elder' (by (with_reducible repeat (first | apply Kd.R_alloc | apply Kd.R_drewN | apply Kd.R_drew)); exact HO215.out) (Kd.R_base ho0) hb)
                                                  have n1_ := Aside0.mk (Kd.R_lower (Kd.R_new' ho0 (Kd.R_lt (by (with_reducible repeat (first | apply Kd.R_alloc | apply Kd.R_drewN | apply Kd.R_drew)); exact HO215.out))) (below_size (by repeat (first | (with_reducible first | exact HB.out | apply below_alloc | apply pw_below_drewN | apply below_drew1) | exact HB.out))))
                                                  have n2_ := Aside0.mk (below_step (by repeat (first | (with_reducible first | exact HB.out | apply below_alloc | apply pw_below_drewN | apply below_drew1) | exact HB.out)) hb)
                                                  clear HO215
                                                  clear HB
                                                  have HO215 := n0_
                                                  have HO211 := n1_
                                                  have HB := n2_
                                                  clear n0_ n1_ n2_
                                                  (try clear hb)
                                                  (try clear hb2)
                                                  (try clear hk)
                                                  (try clear hi)
                                                  (try clear ho0)
                                                  refine hK.out _ _ ⟨((HB.out.cell (World.block_lt_of_cell? w _ hw212_0)).trans hw212_0), ((HB.out.cell (World.block_lt_of_cell? w _ hw212_1)).trans hw212_1), ((HB.out.cell (World.block_lt_of_cell? w _ hw212_2)).trans hw212_2), ((HB.out.cell (World.block_lt_of_cell? w _ hw212_3)).trans hw212_3)⟩ (fun hHeld => ?_)
                                                  clear hK K
                                                  refine norm_ (a' := ?_) ?_ ?_
                                                  rotate_left
                                                  · show Act.put _ (some 104) _ = _
                                                    simp only [Act.put, List.setIfInBounds_toArray, List.set_cons_zero, List.set_cons_succ, i64_w, i32_w]
                                                    rfl
                                                  exact norm_ (by simp only [putAll, Act.put, List.setIfInBounds_toArray, List.set_cons_zero, List.set_cons_succ]) (hCont (v210, v214) _ ⟨hHeld, (by (with_reducible repeat (first | apply Kd.R_alloc | apply Kd.R_drewN | apply Kd.R_drew)); exact Kd.R_mono HO211.out (fun _ hk => hk.2)), (by (with_reducible repeat (first | apply Kd.R_alloc | apply Kd.R_drewN | apply Kd.R_drew)); exact Kd.R_mono HO215.out (fun _ hk => hk.2)), (by repeat (first | (with_reducible first | exact HB.out | apply below_alloc | apply pw_below_drewN | apply below_drew1) | exact HB.out))⟩)
                                              rintro ⟨v210, v214⟩ w72 ⟨hS_, h0_, h1_, h2_⟩
                                              have n0_ : Aside0 (Kd.R k27 27 w72 w.heap.size (fun k_ => some k_ ≠ (v214 : Value).ownBlock) v210 t209) := ⟨h0_⟩
                                              have n1_ : Aside0 (Kd.R k27 27 w72 w.heap.size (fun k_ => some k_ ≠ (v210 : Value).ownBlock) v214 y213) := ⟨h1_⟩
                                              have n2_ : Aside0 (Below w.heap.size w w72) := ⟨h2_⟩
                                              clear HB
                                              clear h0_ h1_ h2_
                                              have HO211 := n0_
                                              have HO215 := n1_
                                              have HB := n2_
                                              clear n0_ n1_ n2_
                                              have hHeld : w72.cell? (ad212.add ((t172).toNat * 4)) = some (.int .i64 ((rd_T27 l1 t172).f0)) ∧ w72.cell? ⟨(ad212.add ((t172).toNat * 4)).block, (ad212.add ((t172).toNat * 4)).off + 1, none⟩ = some (.int .u32 ((rd_T27 l1 t172).f1)) ∧ w72.cell? ⟨(ad212.add ((t172).toNat * 4)).block, (ad212.add ((t172).toNat * 4)).off + 2, none⟩ = some (.string ((rd_T27 l1 t172).f2)) ∧ w72.cell? ⟨(ad212.add ((t172).toNat * 4)).block, (ad212.add ((t172).toNat * 4)).off + 3, none⟩ = some (.string ((rd_T27 l1 t172).f3)) := hS_
                                              obtain ⟨Ao74, co74, eo74⟩ := Kd.R_slice HO215.out
                                              (first | subst eo74 | (injection eo74 with f1_ f2_ f3_; have f4_ := f1_.symm; have f5_ := f3_.symm; clear f1_ f2_ f3_; subst f4_; subst f5_))
                                              refine norm_ (a' := ?_) ?_ ?_
                                              rotate_left
                                              · simp only [putAll, Act.put, List.setIfInBounds_toArray, List.set_cons_zero, List.set_cons_succ]
                                                rfl
                                              refine one_ (i := 7) (N := some 110) #[true, true, true, true, true, true, true, true, false] rfl rfl (one_of HT_.out (by kernel_rfl)) (by decide) (fun K hK => ?_)
                                              refine Kd.R_append_rows_step k27 (w0 := w) w.heap.size (by rfl) (.tmp 104) (.tmp 109) 32 27 (.agg #[(.int .i64 0), (.int .u32 0), (.string ⟨#[]⟩), (.string ⟨#[]⟩)]) 48 rfl Try.underlying32 info27 rfl (by decide) (by omega) v210 t209 y213 _ _ _ (fun k_ => some k_ ≠ (.slice Ao74 y213.length co74 : Value).ownBlock) (fun _ => False) rfl rfl ?aO ?aR (fun _ _ h => h) (fun _ h => h.elim) ?aF ?aB ?aS ?aL ?_
                                              (case aR => repeat (first | exact (Kd.R_reads' HO215.out).2.2 | (with_reducible refine Kd.C_alloc ?_ _) | (with_reducible refine Kd.C_drewN ?_ _) | (with_reducible refine Kd.C_drew ?_)))
                                              (case aB => exact (by repeat (first | (with_reducible first | exact HB.out | apply below_alloc | apply pw_below_drewN | apply below_drew1) | exact HB.out)))
                                              (case aF => exact (fun k_ hk => Kd.fresh' (Kd.R_lt (by (with_reducible repeat (first | apply Kd.R_alloc | apply Kd.R_drewN | apply Kd.R_drew)); exact HO215.out)) k_ hk))
                                              (case aO => exact (by (with_reducible repeat (first | apply Kd.R_alloc | apply Kd.R_drewN | apply Kd.R_drew)); exact HO211.out))
                                              (case aS => exact (below_size (by repeat (first | (with_reducible first | exact HB.out | apply below_alloc | apply pw_below_drewN | apply below_drew1) | exact HB.out))))
                                              (case aL => have := LMc64.out; omega)
                                              intro v217 w73 ho hb hg hat
                                              rw [← Ny216.out] at ho
                                              have n0_ := Aside0.mk (Kd.R_after (ok := (fun _ => True)) (by (with_reducible repeat (first | apply Kd.R_alloc | apply Kd.R_drewN | apply Kd.R_drew)); exact Kd.R_mono HO215.out (fun _ hk => ⟨trivial, hk⟩)) hg hat)
                                              have n1_ := Aside0.mk (hb)
                                              have n2_ := Aside0.mk (ho)
                                              clear HO215
                                              clear HB
                                              clear HO211
                                              have HO215 := n0_
                                              have HB := n1_
                                              have HO218 := n2_
                                              clear n0_ n1_ n2_
                                              clear ho hb hg hat
                                              refine hK.out _ _ ⟨((HB.out.cell (World.block_lt_of_cell? w _ hw212_0)).trans hw212_0), ((HB.out.cell (World.block_lt_of_cell? w _ hw212_1)).trans hw212_1), ((HB.out.cell (World.block_lt_of_cell? w _ hw212_2)).trans hw212_2), ((HB.out.cell (World.block_lt_of_cell? w _ hw212_3)).trans hw212_3)⟩ (fun hHeld => ?_)
                                              clear hK K
                                              refine norm_ (a' := ?_) ?_ ?_
                                              rotate_left
                                              · show Act.put _ (some 110) _ = _
                                                simp only [Act.put, List.setIfInBounds_toArray, List.set_cons_zero, List.set_cons_succ, i64_w, i32_w]
                                                rfl
                                              refine pure_ (i := 8) (N := some 14) (v := ?_) (a' := ?_) #[true, true, true, true, true, true, true, true, true] rfl rfl (any_of HT_.out (by kernel_rfl)) (fun _ _ _ h => h) (Or.inl ⟨by rfl, ?_⟩) ?_ ?_
                                              rotate_left
                                              · intro w'
                                                go_simp
                                                with_reducible rfl
                                              rotate_left
                                              · simp only [Act.put, List.setIfInBounds_toArray, List.set_cons_zero, List.set_cons_succ, i64_w, i32_w]
                                                rfl
                                              refine done_ (done_of HT_.out (by kernel_rfl)) ?_
                                              try go_wp2
                                              have n0_ := Aside0.mk (Kd.R_drew HO215.out)
                                              have n1_ := Aside0.mk (Kd.R_drew HO218.out)
                                              have n2_ := Aside0.mk (below_drew1 HB.out)
                                              clear HO215
                                              clear HO218
                                              clear HB
                                              have HO215 := n0_
                                              have HO218 := n1_
                                              have HB := n2_
                                              clear n0_ n1_ n2_
                                              have p220 : 0 ≤ (t172 : Int) := of_decide_eq_true (by first | (with_reducible assumption) | assumption)
                                              have q220 : t172 < (l1.length : Int) := of_decide_eq_true (by first | (with_reducible assumption) | assumption)
                                              obtain ⟨ad220, e220, hx220_0, hx220_1, hx220_2, hx220_3⟩ := at_T27 HR1.out t172 p220 q220
                                              have hw220_3 := hx220_3
                                              have hw220_2 := hx220_2
                                              have hw220_1 := hx220_1
                                              have hw220_0 := hx220_0
                                              obtain rfl : ad212 = ad220 := (by injection e220)
                                              replace hx220_0 := (HB.out.cell (World.block_lt_of_cell? w _ hx220_0)).trans hx220_0
                                              replace hx220_1 := (HB.out.cell (World.block_lt_of_cell? w _ hx220_1)).trans hx220_1
                                              replace hx220_2 := (HB.out.cell (World.block_lt_of_cell? w _ hx220_2)).trans hx220_2
                                              replace hx220_3 := (HB.out.cell (World.block_lt_of_cell? w _ hx220_3)).trans hx220_3
                                              replace p220 := eq_true p220
                                              replace q220 := eq_true q220
                                              obtain ⟨Ao76, co76, eo76⟩ := Kd.R_slice HO218.out
                                              (first | subst eo76 | (injection eo76 with f1_ f2_ f3_; have f4_ := f1_.symm; have f5_ := f3_.symm; clear f1_ f2_ f3_; subst f4_; subst f5_))
                                              refine start_ (n := 18) (S := fun w' => w'.cell? (ad212.add ((t172).toNat * 4)) = some (.int .i64 ((rd_T27 l1 t172).f0)) ∧ w'.cell? ⟨(ad212.add ((t172).toNat * 4)).block, (ad212.add ((t172).toNat * 4)).off + 1, none⟩ = some (.int .u32 ((rd_T27 l1 t172).f1)) ∧ w'.cell? ⟨(ad212.add ((t172).toNat * 4)).block, (ad212.add ((t172).toNat * 4)).off + 2, none⟩ = some (.string ((rd_T27 l1 t172).f2)) ∧ w'.cell? ⟨(ad212.add ((t172).toNat * 4)).block, (ad212.add ((t172).toNat * 4)).off + 3, none⟩ = some (.string ((rd_T27 l1 t172).f3))) (ds := []) #[false, false, false, false, false, false, false, false, false, false, false, false, false, false, false, false, false, false] (by kernel_rfl) rfl rfl ⟨((HB.out.cell (World.block_lt_of_cell? w _ hw220_0)).trans hw220_0), ((HB.out.cell (World.block_lt_of_cell? w _ hw220_1)).trans hw220_1), ((HB.out.cell (World.block_lt_of_cell? w _ hw220_2)).trans hw220_2), ((HB.out.cell (World.block_lt_of_cell? w _ hw220_3)).trans hw220_3)⟩ (fun hHeld => ?_); refine with_tabW polyglotlaw05_PropTurns.tab15 polyglotlaw05_PropTurns.bits15 (fun HT_ HW_ => ?_)
                                              generalize w73.drew = w75 at HO215 HO218 HB hx220_0 hx220_1 hx220_2 hx220_3 hHeld ⊢
                                              refine pure_ (i := 0) (N := some 111) (v := ?_) (a' := ?_) #[true, false, false, false, false, false, false, false, false, false, false, false, false, false, false, false, false, false] rfl rfl (any_of HT_.out (by kernel_rfl)) (fun _ _ _ h => h) (Or.inl ⟨by rfl, ?_⟩) ?_ ?_
                                              rotate_left
                                              · intro w'
                                                go_simp
                                                with_reducible rfl
                                              rotate_left
                                              · simp only [Act.put, List.setIfInBounds_toArray, List.set_cons_zero, List.set_cons_succ, i64_w, i32_w]
                                                rfl
                                              refine pure_ (i := 1) (N := some 112) (v := ?_) (a' := ?_) #[true, true, false, false, false, false, false, false, false, false, false, false, false, false, false, false, false, false] rfl rfl (any_of HT_.out (by kernel_rfl)) (fun _ _ _ h => h) (Or.inl ⟨by rfl, ?_⟩) ?_ ?_
                                              rotate_left
                                              · intro w'
                                                go_simp
                                                with_reducible rfl
                                              rotate_left
                                              · simp only [Act.put, List.setIfInBounds_toArray, List.set_cons_zero, List.set_cons_succ, i64_w, i32_w]
                                                rfl
                                              refine pure_ (i := 4) (N := some 115) (v := ?_) (a' := ?_) #[true, true, false, false, true, false, false, false, false, false, false, false, false, false, false, false, false, false] rfl rfl (any_of HT_.out (by kernel_rfl)) (fun _ _ _ h => h) (Or.inl ⟨by rfl, ?_⟩) ?_ ?_
                                              rotate_left
                                              · intro w'
                                                go_simp
                                                with_reducible rfl
                                              rotate_left
                                              · simp only [Act.put, List.setIfInBounds_toArray, List.set_cons_zero, List.set_cons_succ, i64_w, i32_w]
                                                rfl
                                              refine pure_ (i := 5) (N := some 116) (v := ?_) (a' := ?_) #[true, true, false, false, true, true, false, false, false, false, false, false, false, false, false, false, false, false] rfl rfl (any_of HT_.out (by kernel_rfl)) (fun _ _ _ h => h) (Or.inl ⟨by rfl, ?_⟩) ?_ ?_
                                              rotate_left
                                              · intro w'
                                                go_simp
                                                with_reducible rfl
                                              rotate_left
                                              · simp only [Act.put, List.setIfInBounds_toArray, List.set_cons_zero, List.set_cons_succ, i64_w, i32_w]
                                                rfl
                                              refine pure_ (i := 6) (N := some 117) (v := ?_) (a' := ?_) #[true, true, false, false, true, true, true, false, false, false, false, false, false, false, false, false, false, false] rfl rfl (any_of HT_.out (by kernel_rfl)) (fun _ _ _ h => h) (Or.inl ⟨by rfl, ?_⟩) ?_ ?_
                                              rotate_left
                                              · intro w'
                                                go_simp
                                                with_reducible rfl
                                              rotate_left
                                              · simp only [Act.put, List.setIfInBounds_toArray, List.set_cons_zero, List.set_cons_succ, i64_w, i32_w]
                                                rfl
                                              refine pure_ (i := 7) (N := some 118) (v := ?_) (a' := ?_) #[true, true, false, false, true, true, true, true, false, false, false, false, false, false, false, false, false, false] rfl rfl (any_of HT_.out (by kernel_rfl)) (fun _ _ _ h => h) (Or.inl ⟨by rfl, ?_⟩) ?_ ?_
                                              rotate_left
                                              · intro w'
                                                go_simp
                                                with_reducible rfl
                                              rotate_left
                                              · simp only [Act.put, List.setIfInBounds_toArray, List.set_cons_zero, List.set_cons_succ, i64_w, i32_w]
                                                rfl
                                              refine pure_ (i := 8) (N := some 119) (v := ?_) (a' := ?_) #[true, true, false, false, true, true, true, true, true, false, false, false, false, false, false, false, false, false] rfl rfl (any_of HT_.out (by kernel_rfl)) (fun _ _ _ h => h) (Or.inl ⟨by rfl, ?_⟩) ?_ ?_
                                              rotate_left
                                              · intro w'
                                                go_simp
                                                with_reducible rfl
                                              rotate_left
                                              · simp only [Act.put, List.setIfInBounds_toArray, List.set_cons_zero, List.set_cons_succ, i64_w, i32_w]
                                                rfl
                                              refine take_ (i := 9) (N := some 120) (v := ?_) (a' := ?_) #[true, true, false, false, true, true, true, true, true, true, false, false, false, false, false, false, false, false] rfl rfl (take_ofW HT_.out HW_.out (by kernel_rfl)) (fun _ _ _ h => h) (Or.inl ⟨by rfl, ?_⟩) hHeld ?_ ?_
                                              rotate_left
                                              · rintro w' ⟨s0, s1, s2, s3⟩
                                                go_simp
                                                with_reducible rfl
                                              rotate_left
                                              · simp only [Act.put, List.setIfInBounds_toArray, List.set_cons_zero, List.set_cons_succ, i64_w, i32_w]
                                                rfl
                                              refine one_ (i := 2) (N := some 113) #[true, true, true, false, true, true, true, true, true, true, false, false, false, false, false, false, false, false] rfl rfl (one_of HT_.out (by kernel_rfl)) (by decide) (fun K hK => ?_)
                                              refine goes_ Try.func16 (by kernel_rfl) rfl #[.int .i64 a0, .slice Ao76 y216.length co76] (by rfl) rfl rfl (by (try simp only [List.map_toArray, List.map_cons, List.map_nil]); first | done | rfl | (simp only [List.length_drop, List.length_take]; rfl)) ?_
                                              with_reducible refine (prop_Valid.calls a0 _ _ y216 t219 _ ?side1 ?side2 A65.out).mono ?_
                                              (case side1 => repeat (first | exact (Kd.R_reads' HO218.out).2.2 | (with_reducible refine Kd.C_alloc ?_ _) | (with_reducible refine Kd.C_drewN ?_ _) | (with_reducible refine Kd.C_drew ?_)))
                                              (case side2 => exact (Kd.R_reads' HO218.out).2.1)
                                              rintro e w77 ⟨rfl, hb⟩
                                              refine ⟨_, rfl, ?_⟩
                                              have n0_ := Aside0.mk (Kd.R_below (by (with_reducible repeat (first | apply Kd.R_alloc | apply Kd.R_drewN | apply Kd.R_drew)); exact HO215.out) hb)
                                              have n1_ := Aside0.mk (Kd.R_below (by (with_reducible repeat (first | apply Kd.R_alloc | apply Kd.R_drewN | apply Kd.R_drew)); exact HO218.out) hb)
                                              have n2_ := Aside0.mk (below_step (by repeat (first | (with_reducible first | exact HB.out | apply below_alloc | apply pw_below_drewN | apply below_drew1) | exact HB.out)) hb)
                                              clear HO215
                                              clear HO218
                                              clear HB
                                              have HO215 := n0_
                                              have HO218 := n1_
                                              have HB := n2_
                                              clear n0_ n1_ n2_
                                              (try clear hb)
                                              (try clear hb2)
                                              (try clear hk)
                                              (try clear hi)
                                              refine hK.out _ _ ⟨((HB.out.cell (World.block_lt_of_cell? w _ hw220_0)).trans hw220_0), ((HB.out.cell (World.block_lt_of_cell? w _ hw220_1)).trans hw220_1), ((HB.out.cell (World.block_lt_of_cell? w _ hw220_2)).trans hw220_2), ((HB.out.cell (World.block_lt_of_cell? w _ hw220_3)).trans hw220_3)⟩ (fun hHeld => ?_)
                                              clear hK K
                                              refine norm_ (a' := ?_) ?_ ?_
                                              rotate_left
                                              · show Act.put _ (some 113) _ = _
                                                simp only [Act.put, List.setIfInBounds_toArray, List.set_cons_zero, List.set_cons_succ, i64_w, i32_w]
                                                rfl
                                              refine pure_ (i := 3) (N := some 114) (v := ?_) (a' := ?_) #[true, true, true, true, true, true, true, true, true, true, false, false, false, false, false, false, false, false] rfl rfl (any_of HT_.out (by kernel_rfl)) (fun _ _ _ h => h) (Or.inl ⟨by rfl, ?_⟩) ?_ ?_
                                              rotate_left
                                              · intro w'
                                                go_simp
                                                with_reducible rfl
                                              rotate_left
                                              · simp only [Act.put, List.setIfInBounds_toArray, List.set_cons_zero, List.set_cons_succ, i64_w, i32_w]
                                                rfl
                                              refine one_ (i := 10) (N := some 121) #[true, true, true, true, true, true, true, true, true, true, true, false, false, false, false, false, false, false] rfl rfl (one_of HT_.out (by kernel_rfl)) (by decide) (fun K hK => ?_)
                                              refine goes_ Try.func19 (by kernel_rfl) rfl #[.int .i64 a0, .int .i64 ((rd_T27 l1 t172).f0)] (by rfl) rfl rfl (by (try simp only [List.map_toArray, List.map_cons, List.map_nil]); first | done | rfl | (simp only [List.length_drop, List.length_take]; rfl)) ?_
                                              with_reducible refine (prop_Many.calls a0 ((rd_T27 l1 t172).f0) t221 _ A66.out).mono ?_
                                              rintro e w78 ⟨rfl, hb⟩
                                              refine ⟨_, rfl, ?_⟩
                                              have n0_ := Aside0.mk (Kd.R_below (by (with_reducible repeat (first | apply Kd.R_alloc | apply Kd.R_drewN | apply Kd.R_drew)); exact HO215.out) hb)
                                              have n1_ := Aside0.mk (Kd.R_below (by (with_reducible repeat (first | apply Kd.R_alloc | apply Kd.R_drewN | apply Kd.R_drew)); exact HO218.out) hb)
                                              have n2_ := Aside0.mk (below_step (by repeat (first | (with_reducible first | exact HB.out | apply below_alloc | apply pw_below_drewN | apply below_drew1) | exact HB.out)) hb)
                                              clear HO215
                                              clear HO218
                                              clear HB
                                              have HO215 := n0_
                                              have HO218 := n1_
                                              have HB := n2_
                                              clear n0_ n1_ n2_
                                              (try clear hb)
                                              (try clear hb2)
                                              (try clear hk)
                                              (try clear hi)
                                              refine hK.out _ _ ⟨((HB.out.cell (World.block_lt_of_cell? w _ hw220_0)).trans hw220_0), ((HB.out.cell (World.block_lt_of_cell? w _ hw220_1)).trans hw220_1), ((HB.out.cell (World.block_lt_of_cell? w _ hw220_2)).trans hw220_2), ((HB.out.cell (World.block_lt_of_cell? w _ hw220_3)).trans hw220_3)⟩ (fun hHeld => ?_)
                                              clear hK K
                                              refine norm_ (a' := ?_) ?_ ?_
                                              rotate_left
                                              · show Act.put _ (some 121) _ = _
                                                simp only [Act.put, List.setIfInBounds_toArray, List.set_cons_zero, List.set_cons_succ, i64_w, i32_w]
                                                rfl
                                              refine pure_ (i := 11) (N := some 122) (v := ?_) (a' := ?_) #[true, true, true, true, true, true, true, true, true, true, true, true, false, false, false, false, false, false] rfl rfl (any_of HT_.out (by kernel_rfl)) (fun _ _ _ h => h) (Or.inl ⟨by rfl, ?_⟩) ?_ ?_
                                              rotate_left
                                              · intro w'
                                                go_simp
                                                with_reducible rfl
                                              rotate_left
                                              · simp only [Act.put, List.setIfInBounds_toArray, List.set_cons_zero, List.set_cons_succ, i64_w, i32_w]
                                                rfl
                                              refine pure_ (i := 12) (N := some 123) (v := ?_) (a' := ?_) #[true, true, true, true, true, true, true, true, true, true, true, true, true, false, false, false, false, false] rfl rfl (any_of HT_.out (by kernel_rfl)) (fun _ _ _ h => h) (Or.inl ⟨by rfl, ?_⟩) ?_ ?_
                                              rotate_left
                                              · intro w'
                                                go_simp
                                                with_reducible rfl
                                              rotate_left
                                              · simp only [Act.put, List.setIfInBounds_toArray, List.set_cons_zero, List.set_cons_succ, i64_w, i32_w]
                                                rfl
                                              refine pure_ (i := 13) (N := some 124) (v := undef) (a' := ?_) #[true, true, true, true, true, true, true, true, true, true, true, true, true, true, false, false, false, false] rfl rfl (any_of HT_.out (by kernel_rfl)) (fun _ _ _ h => h) (Or.inr ⟨by rfl, rfl⟩) ?_ ?_
                                              rotate_left
                                              · simp only [Act.put, List.setIfInBounds_toArray, List.set_cons_zero, List.set_cons_succ, i64_w, i32_w]
                                                rfl
                                              refine pure_ (i := 14) (N := some 125) (v := undef) (a' := ?_) #[true, true, true, true, true, true, true, true, true, true, true, true, true, true, true, false, false, false] rfl rfl (any_of HT_.out (by kernel_rfl)) (fun _ _ _ h => h) (Or.inr ⟨by rfl, rfl⟩) ?_ ?_
                                              rotate_left
                                              · simp only [Act.put, List.setIfInBounds_toArray, List.set_cons_zero, List.set_cons_succ, i64_w, i32_w]
                                                rfl
                                              refine pure_ (i := 15) (N := some 126) (v := undef) (a' := ?_) #[true, true, true, true, true, true, true, true, true, true, true, true, true, true, true, true, false, false] rfl rfl (any_of HT_.out (by kernel_rfl)) (fun _ _ _ h => h) (Or.inr ⟨by rfl, rfl⟩) ?_ ?_
                                              rotate_left
                                              · simp only [Act.put, List.setIfInBounds_toArray, List.set_cons_zero, List.set_cons_succ, i64_w, i32_w]
                                                rfl
                                              refine pure_ (i := 16) (N := some 127) (v := ?_) (a' := ?_) #[true, true, true, true, true, true, true, true, true, true, true, true, true, true, true, true, true, false] rfl rfl (any_of HT_.out (by kernel_rfl)) (fun _ _ _ h => h) (Or.inl ⟨by rfl, ?_⟩) ?_ ?_
                                              rotate_left
                                              · intro w'
                                                go_simp
                                                with_reducible rfl
                                              rotate_left
                                              · simp only [Act.put, List.setIfInBounds_toArray, List.set_cons_zero, List.set_cons_succ, i64_w, i32_w]
                                                rfl
                                              refine pure_ (i := 17) (N := some 6) (v := ?_) (a' := ?_) #[true, true, true, true, true, true, true, true, true, true, true, true, true, true, true, true, true, true] rfl rfl (any_of HT_.out (by kernel_rfl)) (fun _ _ _ h => h) (Or.inl ⟨by rfl, ?_⟩) ?_ ?_
                                              rotate_left
                                              · intro w'
                                                go_simp
                                                with_reducible rfl
                                              rotate_left
                                              · simp only [Act.put, List.setIfInBounds_toArray, List.set_cons_zero, List.set_cons_succ, i64_w, i32_w]
                                                rfl
                                              refine done_ (done_of HT_.out (by kernel_rfl)) ?_
                                              try go_wp2
                                              go_ret
                                              exact ⟨by first | rfl | (simp [errW_none, errW_some] <;> rfl) | (simp only [← hji45]; first | rfl | (simp [errW_none, errW_some] <;> rfl)) | (simp [*, errW_none, errW_some] <;> rfl), by repeat (first | (with_reducible first | exact HB.out | apply below_alloc | apply pw_below_drewN | apply below_drew1) | exact HB.out)⟩
                                            · rw [if_neg c67] at H
                                              have c67b0 : ((t219 == 0) == t221) = false := by simpa using c67
                                              (try (have c67b1 : decide ((t219 == 0) = t221) = false := by simpa using c67))
                                              (try (have c67b2 : ((t219 == 0) == t221) = false := by simpa using c67))
                                              (try (have c67b3 : ¬ ((t219 == 0) = t221) := by simpa using c67))
                                              clear c67
                                              obtain rfl := Option.some.inj H
                                              try go_wp2
                                              have n0_ := Aside0.mk (below_drew1 HB.out)
                                              clear HB
                                              have HB := n0_
                                              clear n0_
                                              have p212 : 0 ≤ (t172 : Int) := of_decide_eq_true (by first | (with_reducible assumption) | assumption)
                                              have q212 : t172 < (l1.length : Int) := of_decide_eq_true (by first | (with_reducible assumption) | assumption)
                                              obtain ⟨ad212, e212, hx212_0, hx212_1, hx212_2, hx212_3⟩ := at_T27 HR1.out t172 p212 q212
                                              have hw212_3 := hx212_3
                                              have hw212_2 := hx212_2
                                              have hw212_1 := hx212_1
                                              have hw212_0 := hx212_0
                                              cases e212
                                              replace hx212_0 := (HB.out.cell (World.block_lt_of_cell? w _ hx212_0)).trans hx212_0
                                              replace hx212_1 := (HB.out.cell (World.block_lt_of_cell? w _ hx212_1)).trans hx212_1
                                              replace hx212_2 := (HB.out.cell (World.block_lt_of_cell? w _ hx212_2)).trans hx212_2
                                              replace hx212_3 := (HB.out.cell (World.block_lt_of_cell? w _ hx212_3)).trans hx212_3
                                              replace p212 := eq_true p212
                                              replace q212 := eq_true q212
                                              refine start_ (n := 9) (S := fun w' => w'.cell? (ad212.add ((t172).toNat * 4)) = some (.int .i64 ((rd_T27 l1 t172).f0)) ∧ w'.cell? ⟨(ad212.add ((t172).toNat * 4)).block, (ad212.add ((t172).toNat * 4)).off + 1, none⟩ = some (.int .u32 ((rd_T27 l1 t172).f1)) ∧ w'.cell? ⟨(ad212.add ((t172).toNat * 4)).block, (ad212.add ((t172).toNat * 4)).off + 2, none⟩ = some (.string ((rd_T27 l1 t172).f2)) ∧ w'.cell? ⟨(ad212.add ((t172).toNat * 4)).block, (ad212.add ((t172).toNat * 4)).off + 3, none⟩ = some (.string ((rd_T27 l1 t172).f3))) (ds := []) #[false, false, false, false, false, false, false, false, false] (by kernel_rfl) rfl rfl ⟨((HB.out.cell (World.block_lt_of_cell? w _ hw212_0)).trans hw212_0), ((HB.out.cell (World.block_lt_of_cell? w _ hw212_1)).trans hw212_1), ((HB.out.cell (World.block_lt_of_cell? w _ hw212_2)).trans hw212_2), ((HB.out.cell (World.block_lt_of_cell? w _ hw212_3)).trans hw212_3)⟩ (fun hHeld => ?_); refine with_tabW polyglotlaw05_PropTurns.tab14 polyglotlaw05_PropTurns.bits14 (fun HT_ HW_ => ?_)
                                              generalize wc.drew = w79 at HB hx212_0 hx212_1 hx212_2 hx212_3 hHeld ⊢
                                              refine pure_ (i := 0) (N := some 103) (v := ?_) (a' := ?_) #[true, false, false, false, false, false, false, false, false] rfl rfl (any_of HT_.out (by kernel_rfl)) (fun _ _ _ h => h) (Or.inl ⟨by rfl, ?_⟩) ?_ ?_
                                              rotate_left
                                              · intro w'
                                                go_simp
                                                with_reducible rfl
                                              rotate_left
                                              · simp only [Act.put, List.setIfInBounds_toArray, List.set_cons_zero, List.set_cons_succ, i64_w, i32_w]
                                                rfl
                                              refine pure_ (i := 2) (N := some 105) (v := ?_) (a' := ?_) #[true, false, true, false, false, false, false, false, false] rfl rfl (any_of HT_.out (by kernel_rfl)) (fun _ _ _ h => h) (Or.inl ⟨by rfl, ?_⟩) ?_ ?_
                                              rotate_left
                                              · intro w'
                                                go_simp
                                                with_reducible rfl
                                              rotate_left
                                              · simp only [Act.put, List.setIfInBounds_toArray, List.set_cons_zero, List.set_cons_succ, i64_w, i32_w]
                                                rfl
                                              refine pure_ (i := 3) (N := some 106) (v := ?_) (a' := ?_) #[true, false, true, true, false, false, false, false, false] rfl rfl (any_of HT_.out (by kernel_rfl)) (fun _ _ _ h => h) (Or.inl ⟨by rfl, ?_⟩) ?_ ?_
                                              rotate_left
                                              · intro w'
                                                go_simp
                                                with_reducible rfl
                                              rotate_left
                                              · simp only [Act.put, List.setIfInBounds_toArray, List.set_cons_zero, List.set_cons_succ, i64_w, i32_w]
                                                rfl
                                              refine pure_ (i := 4) (N := some 107) (v := ?_) (a' := ?_) #[true, false, true, true, true, false, false, false, false] rfl rfl (any_of HT_.out (by kernel_rfl)) (fun _ _ _ h => h) (Or.inl ⟨by rfl, ?_⟩) ?_ ?_
                                              rotate_left
                                              · intro w'
                                                go_simp
                                                with_reducible rfl
                                              rotate_left
                                              · simp only [Act.put, List.setIfInBounds_toArray, List.set_cons_zero, List.set_cons_succ, i64_w, i32_w]
                                                rfl
                                              refine take_ (i := 5) (N := some 108) (v := ?_) (a' := ?_) #[true, false, true, true, true, true, false, false, false] rfl rfl (take_ofW HT_.out HW_.out (by kernel_rfl)) (fun _ _ _ h => h) (Or.inl ⟨by rfl, ?_⟩) hHeld ?_ ?_
                                              rotate_left
                                              · rintro w' ⟨s0, s1, s2, s3⟩
                                                go_simp
                                                with_reducible rfl
                                              rotate_left
                                              · simp only [Act.put, List.setIfInBounds_toArray, List.set_cons_zero, List.set_cons_succ, i64_w, i32_w]
                                                rfl
                                              refine join_ (σ := Value × Value) 2 #[true, true, true, true, true, true, true, false, false] (fun s_ => [(104, s_.1), (109, s_.2)]) (fun s_ w' => (w'.cell? (ad212.add ((t172).toNat * 4)) = some (.int .i64 ((rd_T27 l1 t172).f0)) ∧ w'.cell? ⟨(ad212.add ((t172).toNat * 4)).block, (ad212.add ((t172).toNat * 4)).off + 1, none⟩ = some (.int .u32 ((rd_T27 l1 t172).f1)) ∧ w'.cell? ⟨(ad212.add ((t172).toNat * 4)).block, (ad212.add ((t172).toNat * 4)).off + 2, none⟩ = some (.string ((rd_T27 l1 t172).f2)) ∧ w'.cell? ⟨(ad212.add ((t172).toNat * 4)).block, (ad212.add ((t172).toNat * 4)).off + 3, none⟩ = some (.string ((rd_T27 l1 t172).f3))) ∧ (Kd.R k27 27 w' w.heap.size (fun k_ => some k_ ≠ (s_.2 : Value).ownBlock) s_.1 t209) ∧ (Kd.R k27 27 w' w.heap.size (fun k_ => some k_ ≠ (s_.1 : Value).ownBlock) s_.2 y213) ∧ (Below w.heap.size w w')) ?_ ?_
                                              rotate_left
                                              · intro hCont
                                                refine two_ (i := 1) (j := 6) (Ni := some 104) (Nj := some 109) #[true, true, true, true, true, true, false, false, false] #[true, false, true, true, true, true, true, false, false] rfl rfl rfl rfl (two_of HT_.out (by kernel_rfl)) (by decide) (by decide) (fun K hK => ?_) (fun K hK => ?_)
                                                · skip
                                                  refine goes_ Try.func17 (by kernel_rfl) rfl #[.slice (some ad212) l1.length c1] (by rfl) rfl rfl (by (try simp only [List.map_toArray, List.map_cons, List.map_nil]); first | done | rfl | (simp only [List.length_drop, List.length_take]; rfl)) ?_
                                                  with_reducible refine (api_Prop_17.calls _ _ l1 t209 _ ?side1 ?side2 A61.out).mono ?_
                                                  (case side1 => repeat (first | exact (Kd.C_below HR1.out HB.out) | (with_reducible refine Kd.C_alloc ?_ _) | (with_reducible refine Kd.C_drewN ?_ _) | (with_reducible refine Kd.C_drew ?_)))
                                                  (case side2 => exact HC1.out)
                                                  rintro e w80 ⟨v210, rfl, ho0, hb⟩
                                                  refine ⟨_, rfl, ?_⟩
                                                  have n0_ := Aside0.mk (Kd.R_lower ho0 (below_size (by repeat (first | (with_reducible first | exact HB.out | apply below_alloc | apply pw_below_drewN | apply below_drew1) | exact HB.out))))
                                                  have n1_ := Aside0.mk (below_step (by repeat (first | (with_reducible first | exact HB.out | apply below_alloc | apply pw_below_drewN | apply below_drew1) | exact HB.out)) hb)
                                                  clear HB
                                                  have HO211 := n0_
                                                  have HB := n1_
                                                  clear n0_ n1_
                                                  (try clear hb)
                                                  (try clear hb2)
                                                  (try clear hk)
                                                  (try clear hi)
                                                  (try clear ho0)
                                                  refine hK.out _ _ ⟨((HB.out.cell (World.block_lt_of_cell? w _ hw212_0)).trans hw212_0), ((HB.out.cell (World.block_lt_of_cell? w _ hw212_1)).trans hw212_1), ((HB.out.cell (World.block_lt_of_cell? w _ hw212_2)).trans hw212_2), ((HB.out.cell (World.block_lt_of_cell? w _ hw212_3)).trans hw212_3)⟩ (fun hHeld => ?_)
                                                  clear hK K
                                                  refine norm_ (a' := ?_) ?_ ?_
                                                  rotate_left
                                                  · show Act.put _ (some 104) _ = _
                                                    simp only [Act.put, List.setIfInBounds_toArray, List.set_cons_zero, List.set_cons_succ, i64_w, i32_w]
                                                    rfl
                                                  refine one_ (i := 6) (N := some 109) #[true, true, true, true, true, true, true, false, false] rfl rfl (one_of HT_.out (by kernel_rfl)) (by decide) (fun K hK => ?_)
                                                  refine Kd.R_lit_step k27 _ 27 ?hg (N := 109) ?hd (xs := ([(⟨(rd_T27 l1 t172).f0, (rd_T27 l1 t172).f1, (rd_T27 l1 t172).f2, (rd_T27 l1 t172).f3⟩ : S27)] : List (S27))) (inner := [.int .i64 ((rd_T27 l1 t172).f0), .int .u32 ((rd_T27 l1 t172).f1), .string ((rd_T27 l1 t172).f2), .string ((rd_T27 l1 t172).f3)]) (ok := fun _ => True) (okp := fun _ => True) ?hr ?hp (fun _ hk => hk) trivial (Below.refl _ _) (Nat.le_refl _) (by simp) ?_; (case hd => rfl); (case hg => rfl); (case hr => first | (go_simp; done) | (go_simp; rfl)); (case hp => exact (Reps.c4 (show Kd.M k27 _ _ _ (⟨(rd_T27 l1 t172).f0, (rd_T27 l1 t172).f1, (rd_T27 l1 t172).f2, (rd_T27 l1 t172).f3⟩ : S27) [.int .i64 ((rd_T27 l1 t172).f0), .int .u32 ((rd_T27 l1 t172).f1), .string ((rd_T27 l1 t172).f2), .string ((rd_T27 l1 t172).f3)] from (k27_mkM _ _ _ (⟨(rd_T27 l1 t172).f0, (rd_T27 l1 t172).f1, (rd_T27 l1 t172).f2, (rd_T27 l1 t172).f3⟩ : S27) )) (Reps.none _ _)))
                                                  intro v214 w81 ho82 hb hg_ hnew_
                                                  clear hg_ hnew_
                                                  (first | rw [← Ny213.out] at ho82 | (simp only [Int.reduceToNat] at ho82; rw [← Ny213.out] at ho82))
                                                  have n0_ := Aside0.mk (Kd.R_elder' (by (with_reducible repeat (first | apply Kd.R_alloc | apply Kd.R_drewN | apply Kd.R_drew)); exact HO211.out) (Kd.R_base ho82) hb)
                                                  have n1_ := Aside0.mk (Kd.R_lower (Kd.R_new' ho82 (Kd.R_lt (by (with_reducible repeat (first | apply Kd.R_alloc | apply Kd.R_drewN | apply Kd.R_drew)); exact HO211.out))) (below_size (by repeat (first | (with_reducible first | exact HB.out | apply below_alloc | apply pw_below_drewN | apply below_drew1) | exact HB.out))))
                                                  have n2_ := Aside0.mk (below_step (by repeat (first | (with_reducible first | exact HB.out | apply below_alloc | apply pw_below_drewN | apply below_drew1) | exact HB.out)) hb)
                                                  clear HO211
                                                  clear HB
                                                  have HO211 := n0_
                                                  have HO215 := n1_
                                                  have HB := n2_
                                                  clear n0_ n1_ n2_
                                                  clear hb ho82
                                                  refine hK.out _ _ ⟨((HB.out.cell (World.block_lt_of_cell? w _ hw212_0)).trans hw212_0), ((HB.out.cell (World.block_lt_of_cell? w _ hw212_1)).trans hw212_1), ((HB.out.cell (World.block_lt_of_cell? w _ hw212_2)).trans hw212_2), ((HB.out.cell (World.block_lt_of_cell? w _ hw212_3)).trans hw212_3)⟩ (fun hHeld => ?_)
                                                  clear hK K
                                                  refine norm_ (a' := ?_) ?_ ?_
                                                  rotate_left
                                                  · show Act.put _ (some 109) _ = _
                                                    simp only [Act.put, List.setIfInBounds_toArray, List.set_cons_zero, List.set_cons_succ, i64_w, i32_w]
                                                    rfl
                                                  exact norm_ (by simp only [putAll, Act.put, List.setIfInBounds_toArray, List.set_cons_zero, List.set_cons_succ]) (hCont (v210, v214) _ ⟨hHeld, (by (with_reducible repeat (first | apply Kd.R_alloc | apply Kd.R_drewN | apply Kd.R_drew)); exact Kd.R_mono HO211.out (fun _ hk => hk.2)), (by (with_reducible repeat (first | apply Kd.R_alloc | apply Kd.R_drewN | apply Kd.R_drew)); exact Kd.R_mono HO215.out (fun _ hk => hk.2)), (by repeat (first | (with_reducible first | exact HB.out | apply below_alloc | apply pw_below_drewN | apply below_drew1) | exact HB.out))⟩)
                                                · skip
                                                  refine Kd.R_lit_step k27 _ 27 ?hg (N := 109) ?hd (xs := ([(⟨(rd_T27 l1 t172).f0, (rd_T27 l1 t172).f1, (rd_T27 l1 t172).f2, (rd_T27 l1 t172).f3⟩ : S27)] : List (S27))) (inner := [.int .i64 ((rd_T27 l1 t172).f0), .int .u32 ((rd_T27 l1 t172).f1), .string ((rd_T27 l1 t172).f2), .string ((rd_T27 l1 t172).f3)]) (ok := fun _ => True) (okp := fun _ => True) ?hr ?hp (fun _ hk => hk) trivial (Below.refl _ _) (Nat.le_refl _) (by simp) ?_; (case hd => rfl); (case hg => rfl); (case hr => first | (go_simp; done) | (go_simp; rfl)); (case hp => exact (Reps.c4 (show Kd.M k27 _ _ _ (⟨(rd_T27 l1 t172).f0, (rd_T27 l1 t172).f1, (rd_T27 l1 t172).f2, (rd_T27 l1 t172).f3⟩ : S27) [.int .i64 ((rd_T27 l1 t172).f0), .int .u32 ((rd_T27 l1 t172).f1), .string ((rd_T27 l1 t172).f2), .string ((rd_T27 l1 t172).f3)] from (k27_mkM _ _ _ (⟨(rd_T27 l1 t172).f0, (rd_T27 l1 t172).f1, (rd_T27 l1 t172).f2, (rd_T27 l1 t172).f3⟩ : S27) )) (Reps.none _ _)))
                                                  intro v214 w80 ho81 hb hg_ hnew_
                                                  clear hg_ hnew_
                                                  (first | rw [← Ny213.out] at ho81 | (simp only [Int.reduceToNat] at ho81; rw [← Ny213.out] at ho81))
                                                  have n0_ := Aside0.mk (Kd.R_lower ho81 (below_size (by repeat (first | (with_reducible first | exact HB.out | apply below_alloc | apply pw_below_drewN | apply below_drew1) | exact HB.out))))
                                                  have n1_ := Aside0.mk (below_step (by repeat (first | (with_reducible first | exact HB.out | apply below_alloc | apply pw_below_drewN | apply below_drew1) | exact HB.out)) hb)
                                                  clear HB
                                                  have HO215 := n0_
                                                  have HB := n1_
                                                  clear n0_ n1_
                                                  clear hb ho81
                                                  refine hK.out _ _ ⟨((HB.out.cell (World.block_lt_of_cell? w _ hw212_0)).trans hw212_0), ((HB.out.cell (World.block_lt_of_cell? w _ hw212_1)).trans hw212_1), ((HB.out.cell (World.block_lt_of_cell? w _ hw212_2)).trans hw212_2), ((HB.out.cell (World.block_lt_of_cell? w _ hw212_3)).trans hw212_3)⟩ (fun hHeld => ?_)
                                                  clear hK K
                                                  refine norm_ (a' := ?_) ?_ ?_
                                                  rotate_left
                                                  · show Act.put _ (some 109) _ = _
                                                    simp only [Act.put, List.setIfInBounds_toArray, List.set_cons_zero, List.set_cons_succ, i64_w, i32_w]
                                                    rfl
                                                  refine one_ (i := 1) (N := some 104) #[true, true, true, true, true, true, true, false, false] rfl rfl (one_of HT_.out (by kernel_rfl)) (by decide) (fun K hK => ?_)
                                                  refine goes_ Try.func17 (by kernel_rfl) rfl #[.slice (some ad212) l1.length c1] (by rfl) rfl rfl (by (try simp only [List.map_toArray, List.map_cons, List.map_nil]); first | done | rfl | (simp only [List.length_drop, List.length_take]; rfl)) ?_
                                                  with_reducible refine (api_Prop_17.calls _ _ l1 t209 _ ?side1 ?side2 A61.out).mono ?_
                                                  (case side1 => repeat (first | exact (Kd.C_below HR1.out HB.out) | (with_reducible refine Kd.C_alloc ?_ _) | (with_reducible refine Kd.C_drewN ?_ _) | (with_reducible refine Kd.C_drew ?_)))
                                                  (case side2 => exact HC1.out)
                                                  rintro e w82 ⟨v210, rfl, ho0, hb⟩
                                                  refine ⟨_, rfl, ?_⟩
                                                  have n0_ := Aside0.mk (Kd.R_elder' (by (with_reducible repeat (first | apply Kd.R_alloc | apply Kd.R_drewN | apply Kd.R_drew)); exact HO215.out) (Kd.R_base ho0) hb)
                                                  have n1_ := Aside0.mk (Kd.R_lower (Kd.R_new' ho0 (Kd.R_lt (by (with_reducible repeat (first | apply Kd.R_alloc | apply Kd.R_drewN | apply Kd.R_drew)); exact HO215.out))) (below_size (by repeat (first | (with_reducible first | exact HB.out | apply below_alloc | apply pw_below_drewN | apply below_drew1) | exact HB.out))))
                                                  have n2_ := Aside0.mk (below_step (by repeat (first | (with_reducible first | exact HB.out | apply below_alloc | apply pw_below_drewN | apply below_drew1) | exact HB.out)) hb)
                                                  clear HO215
                                                  clear HB
                                                  have HO215 := n0_
                                                  have HO211 := n1_
                                                  have HB := n2_
                                                  clear n0_ n1_ n2_
                                                  (try clear hb)
                                                  (try clear hb2)
                                                  (try clear hk)
                                                  (try clear hi)
                                                  (try clear ho0)
                                                  refine hK.out _ _ ⟨((HB.out.cell (World.block_lt_of_cell? w _ hw212_0)).trans hw212_0), ((HB.out.cell (World.block_lt_of_cell? w _ hw212_1)).trans hw212_1), ((HB.out.cell (World.block_lt_of_cell? w _ hw212_2)).trans hw212_2), ((HB.out.cell (World.block_lt_of_cell? w _ hw212_3)).trans hw212_3)⟩ (fun hHeld => ?_)
                                                  clear hK K
                                                  refine norm_ (a' := ?_) ?_ ?_
                                                  rotate_left
                                                  · show Act.put _ (some 104) _ = _
                                                    simp only [Act.put, List.setIfInBounds_toArray, List.set_cons_zero, List.set_cons_succ, i64_w, i32_w]
                                                    rfl
                                                  exact norm_ (by simp only [putAll, Act.put, List.setIfInBounds_toArray, List.set_cons_zero, List.set_cons_succ]) (hCont (v210, v214) _ ⟨hHeld, (by (with_reducible repeat (first | apply Kd.R_alloc | apply Kd.R_drewN | apply Kd.R_drew)); exact Kd.R_mono HO211.out (fun _ hk => hk.2)), (by (with_reducible repeat (first | apply Kd.R_alloc | apply Kd.R_drewN | apply Kd.R_drew)); exact Kd.R_mono HO215.out (fun _ hk => hk.2)), (by repeat (first | (with_reducible first | exact HB.out | apply below_alloc | apply pw_below_drewN | apply below_drew1) | exact HB.out))⟩)
                                              rintro ⟨v210, v214⟩ w83 ⟨hS_, h0_, h1_, h2_⟩
                                              have n0_ : Aside0 (Kd.R k27 27 w83 w.heap.size (fun k_ => some k_ ≠ (v214 : Value).ownBlock) v210 t209) := ⟨h0_⟩
                                              have n1_ : Aside0 (Kd.R k27 27 w83 w.heap.size (fun k_ => some k_ ≠ (v210 : Value).ownBlock) v214 y213) := ⟨h1_⟩
                                              have n2_ : Aside0 (Below w.heap.size w w83) := ⟨h2_⟩
                                              clear HB
                                              clear h0_ h1_ h2_
                                              have HO211 := n0_
                                              have HO215 := n1_
                                              have HB := n2_
                                              clear n0_ n1_ n2_
                                              have hHeld : w83.cell? (ad212.add ((t172).toNat * 4)) = some (.int .i64 ((rd_T27 l1 t172).f0)) ∧ w83.cell? ⟨(ad212.add ((t172).toNat * 4)).block, (ad212.add ((t172).toNat * 4)).off + 1, none⟩ = some (.int .u32 ((rd_T27 l1 t172).f1)) ∧ w83.cell? ⟨(ad212.add ((t172).toNat * 4)).block, (ad212.add ((t172).toNat * 4)).off + 2, none⟩ = some (.string ((rd_T27 l1 t172).f2)) ∧ w83.cell? ⟨(ad212.add ((t172).toNat * 4)).block, (ad212.add ((t172).toNat * 4)).off + 3, none⟩ = some (.string ((rd_T27 l1 t172).f3)) := hS_
                                              obtain ⟨Ao85, co85, eo85⟩ := Kd.R_slice HO215.out
                                              (first | subst eo85 | (injection eo85 with f1_ f2_ f3_; have f4_ := f1_.symm; have f5_ := f3_.symm; clear f1_ f2_ f3_; subst f4_; subst f5_))
                                              refine norm_ (a' := ?_) ?_ ?_
                                              rotate_left
                                              · simp only [putAll, Act.put, List.setIfInBounds_toArray, List.set_cons_zero, List.set_cons_succ]
                                                rfl
                                              refine one_ (i := 7) (N := some 110) #[true, true, true, true, true, true, true, true, false] rfl rfl (one_of HT_.out (by kernel_rfl)) (by decide) (fun K hK => ?_)
                                              refine Kd.R_append_rows_step k27 (w0 := w) w.heap.size (by rfl) (.tmp 104) (.tmp 109) 32 27 (.agg #[(.int .i64 0), (.int .u32 0), (.string ⟨#[]⟩), (.string ⟨#[]⟩)]) 48 rfl Try.underlying32 info27 rfl (by decide) (by omega) v210 t209 y213 _ _ _ (fun k_ => some k_ ≠ (.slice Ao85 y213.length co85 : Value).ownBlock) (fun _ => False) rfl rfl ?aO ?aR (fun _ _ h => h) (fun _ h => h.elim) ?aF ?aB ?aS ?aL ?_
                                              (case aR => repeat (first | exact (Kd.R_reads' HO215.out).2.2 | (with_reducible refine Kd.C_alloc ?_ _) | (with_reducible refine Kd.C_drewN ?_ _) | (with_reducible refine Kd.C_drew ?_)))
                                              (case aB => exact (by repeat (first | (with_reducible first | exact HB.out | apply below_alloc | apply pw_below_drewN | apply below_drew1) | exact HB.out)))
                                              (case aF => exact (fun k_ hk => Kd.fresh' (Kd.R_lt (by (with_reducible repeat (first | apply Kd.R_alloc | apply Kd.R_drewN | apply Kd.R_drew)); exact HO215.out)) k_ hk))
                                              (case aO => exact (by (with_reducible repeat (first | apply Kd.R_alloc | apply Kd.R_drewN | apply Kd.R_drew)); exact HO211.out))
                                              (case aS => exact (below_size (by repeat (first | (with_reducible first | exact HB.out | apply below_alloc | apply pw_below_drewN | apply below_drew1) | exact HB.out))))
                                              (case aL => have := LMc64.out; omega)
                                              intro v217 w84 ho hb hg hat
                                              rw [← Ny216.out] at ho
                                              have n0_ := Aside0.mk (Kd.R_after (ok := (fun _ => True)) (by (with_reducible repeat (first | apply Kd.R_alloc | apply Kd.R_drewN | apply Kd.R_drew)); exact Kd.R_mono HO215.out (fun _ hk => ⟨trivial, hk⟩)) hg hat)
                                              have n1_ := Aside0.mk (hb)
                                              have n2_ := Aside0.mk (ho)
                                              clear HO215
                                              clear HB
                                              clear HO211
                                              have HO215 := n0_
                                              have HB := n1_
                                              have HO218 := n2_
                                              clear n0_ n1_ n2_
                                              clear ho hb hg hat
                                              refine hK.out _ _ ⟨((HB.out.cell (World.block_lt_of_cell? w _ hw212_0)).trans hw212_0), ((HB.out.cell (World.block_lt_of_cell? w _ hw212_1)).trans hw212_1), ((HB.out.cell (World.block_lt_of_cell? w _ hw212_2)).trans hw212_2), ((HB.out.cell (World.block_lt_of_cell? w _ hw212_3)).trans hw212_3)⟩ (fun hHeld => ?_)
                                              clear hK K
                                              refine norm_ (a' := ?_) ?_ ?_
                                              rotate_left
                                              · show Act.put _ (some 110) _ = _
                                                simp only [Act.put, List.setIfInBounds_toArray, List.set_cons_zero, List.set_cons_succ, i64_w, i32_w]
                                                rfl
                                              refine pure_ (i := 8) (N := some 14) (v := ?_) (a' := ?_) #[true, true, true, true, true, true, true, true, true] rfl rfl (any_of HT_.out (by kernel_rfl)) (fun _ _ _ h => h) (Or.inl ⟨by rfl, ?_⟩) ?_ ?_
                                              rotate_left
                                              · intro w'
                                                go_simp
                                                with_reducible rfl
                                              rotate_left
                                              · simp only [Act.put, List.setIfInBounds_toArray, List.set_cons_zero, List.set_cons_succ, i64_w, i32_w]
                                                rfl
                                              refine done_ (done_of HT_.out (by kernel_rfl)) ?_
                                              try go_wp2
                                              have n0_ := Aside0.mk (Kd.R_drew HO215.out)
                                              have n1_ := Aside0.mk (Kd.R_drew HO218.out)
                                              have n2_ := Aside0.mk (below_drew1 HB.out)
                                              clear HO215
                                              clear HO218
                                              clear HB
                                              have HO215 := n0_
                                              have HO218 := n1_
                                              have HB := n2_
                                              clear n0_ n1_ n2_
                                              have p220 : 0 ≤ (t172 : Int) := of_decide_eq_true (by first | (with_reducible assumption) | assumption)
                                              have q220 : t172 < (l1.length : Int) := of_decide_eq_true (by first | (with_reducible assumption) | assumption)
                                              obtain ⟨ad220, e220, hx220_0, hx220_1, hx220_2, hx220_3⟩ := at_T27 HR1.out t172 p220 q220
                                              have hw220_3 := hx220_3
                                              have hw220_2 := hx220_2
                                              have hw220_1 := hx220_1
                                              have hw220_0 := hx220_0
                                              obtain rfl : ad212 = ad220 := (by injection e220)
                                              replace hx220_0 := (HB.out.cell (World.block_lt_of_cell? w _ hx220_0)).trans hx220_0
                                              replace hx220_1 := (HB.out.cell (World.block_lt_of_cell? w _ hx220_1)).trans hx220_1
                                              replace hx220_2 := (HB.out.cell (World.block_lt_of_cell? w _ hx220_2)).trans hx220_2
                                              replace hx220_3 := (HB.out.cell (World.block_lt_of_cell? w _ hx220_3)).trans hx220_3
                                              replace p220 := eq_true p220
                                              replace q220 := eq_true q220
                                              obtain ⟨Ao87, co87, eo87⟩ := Kd.R_slice HO218.out
                                              (first | subst eo87 | (injection eo87 with f1_ f2_ f3_; have f4_ := f1_.symm; have f5_ := f3_.symm; clear f1_ f2_ f3_; subst f4_; subst f5_))
                                              refine start_ (n := 18) (S := fun w' => w'.cell? (ad212.add ((t172).toNat * 4)) = some (.int .i64 ((rd_T27 l1 t172).f0)) ∧ w'.cell? ⟨(ad212.add ((t172).toNat * 4)).block, (ad212.add ((t172).toNat * 4)).off + 1, none⟩ = some (.int .u32 ((rd_T27 l1 t172).f1)) ∧ w'.cell? ⟨(ad212.add ((t172).toNat * 4)).block, (ad212.add ((t172).toNat * 4)).off + 2, none⟩ = some (.string ((rd_T27 l1 t172).f2)) ∧ w'.cell? ⟨(ad212.add ((t172).toNat * 4)).block, (ad212.add ((t172).toNat * 4)).off + 3, none⟩ = some (.string ((rd_T27 l1 t172).f3))) (ds := []) #[false, false, false, false, false, false, false, false, false, false, false, false, false, false, false, false, false, false] (by kernel_rfl) rfl rfl ⟨((HB.out.cell (World.block_lt_of_cell? w _ hw220_0)).trans hw220_0), ((HB.out.cell (World.block_lt_of_cell? w _ hw220_1)).trans hw220_1), ((HB.out.cell (World.block_lt_of_cell? w _ hw220_2)).trans hw220_2), ((HB.out.cell (World.block_lt_of_cell? w _ hw220_3)).trans hw220_3)⟩ (fun hHeld => ?_); refine with_tabW polyglotlaw05_PropTurns.tab15 polyglotlaw05_PropTurns.bits15 (fun HT_ HW_ => ?_)
                                              generalize w84.drew = w86 at HO215 HO218 HB hx220_0 hx220_1 hx220_2 hx220_3 hHeld ⊢
                                              refine pure_ (i := 0) (N := some 111) (v := ?_) (a' := ?_) #[true, false, false, false, false, false, false, false, false, false, false, false, false, false, false, false, false, false] rfl rfl (any_of HT_.out (by kernel_rfl)) (fun _ _ _ h => h) (Or.inl ⟨by rfl, ?_⟩) ?_ ?_
                                              rotate_left
                                              · intro w'
                                                go_simp
                                                with_reducible rfl
                                              rotate_left
                                              · simp only [Act.put, List.setIfInBounds_toArray, List.set_cons_zero, List.set_cons_succ, i64_w, i32_w]
                                                rfl
                                              refine pure_ (i := 1) (N := some 112) (v := ?_) (a' := ?_) #[true, true, false, false, false, false, false, false, false, false, false, false, false, false, false, false, false, false] rfl rfl (any_of HT_.out (by kernel_rfl)) (fun _ _ _ h => h) (Or.inl ⟨by rfl, ?_⟩) ?_ ?_
                                              rotate_left
                                              · intro w'
                                                go_simp
                                                with_reducible rfl
                                              rotate_left
                                              · simp only [Act.put, List.setIfInBounds_toArray, List.set_cons_zero, List.set_cons_succ, i64_w, i32_w]
                                                rfl
                                              refine pure_ (i := 4) (N := some 115) (v := ?_) (a' := ?_) #[true, true, false, false, true, false, false, false, false, false, false, false, false, false, false, false, false, false] rfl rfl (any_of HT_.out (by kernel_rfl)) (fun _ _ _ h => h) (Or.inl ⟨by rfl, ?_⟩) ?_ ?_
                                              rotate_left
                                              · intro w'
                                                go_simp
                                                with_reducible rfl
                                              rotate_left
                                              · simp only [Act.put, List.setIfInBounds_toArray, List.set_cons_zero, List.set_cons_succ, i64_w, i32_w]
                                                rfl
                                              refine pure_ (i := 5) (N := some 116) (v := ?_) (a' := ?_) #[true, true, false, false, true, true, false, false, false, false, false, false, false, false, false, false, false, false] rfl rfl (any_of HT_.out (by kernel_rfl)) (fun _ _ _ h => h) (Or.inl ⟨by rfl, ?_⟩) ?_ ?_
                                              rotate_left
                                              · intro w'
                                                go_simp
                                                with_reducible rfl
                                              rotate_left
                                              · simp only [Act.put, List.setIfInBounds_toArray, List.set_cons_zero, List.set_cons_succ, i64_w, i32_w]
                                                rfl
                                              refine pure_ (i := 6) (N := some 117) (v := ?_) (a' := ?_) #[true, true, false, false, true, true, true, false, false, false, false, false, false, false, false, false, false, false] rfl rfl (any_of HT_.out (by kernel_rfl)) (fun _ _ _ h => h) (Or.inl ⟨by rfl, ?_⟩) ?_ ?_
                                              rotate_left
                                              · intro w'
                                                go_simp
                                                with_reducible rfl
                                              rotate_left
                                              · simp only [Act.put, List.setIfInBounds_toArray, List.set_cons_zero, List.set_cons_succ, i64_w, i32_w]
                                                rfl
                                              refine pure_ (i := 7) (N := some 118) (v := ?_) (a' := ?_) #[true, true, false, false, true, true, true, true, false, false, false, false, false, false, false, false, false, false] rfl rfl (any_of HT_.out (by kernel_rfl)) (fun _ _ _ h => h) (Or.inl ⟨by rfl, ?_⟩) ?_ ?_
                                              rotate_left
                                              · intro w'
                                                go_simp
                                                with_reducible rfl
                                              rotate_left
                                              · simp only [Act.put, List.setIfInBounds_toArray, List.set_cons_zero, List.set_cons_succ, i64_w, i32_w]
                                                rfl
                                              refine pure_ (i := 8) (N := some 119) (v := ?_) (a' := ?_) #[true, true, false, false, true, true, true, true, true, false, false, false, false, false, false, false, false, false] rfl rfl (any_of HT_.out (by kernel_rfl)) (fun _ _ _ h => h) (Or.inl ⟨by rfl, ?_⟩) ?_ ?_
                                              rotate_left
                                              · intro w'
                                                go_simp
                                                with_reducible rfl
                                              rotate_left
                                              · simp only [Act.put, List.setIfInBounds_toArray, List.set_cons_zero, List.set_cons_succ, i64_w, i32_w]
                                                rfl
                                              refine take_ (i := 9) (N := some 120) (v := ?_) (a' := ?_) #[true, true, false, false, true, true, true, true, true, true, false, false, false, false, false, false, false, false] rfl rfl (take_ofW HT_.out HW_.out (by kernel_rfl)) (fun _ _ _ h => h) (Or.inl ⟨by rfl, ?_⟩) hHeld ?_ ?_
                                              rotate_left
                                              · rintro w' ⟨s0, s1, s2, s3⟩
                                                go_simp
                                                with_reducible rfl
                                              rotate_left
                                              · simp only [Act.put, List.setIfInBounds_toArray, List.set_cons_zero, List.set_cons_succ, i64_w, i32_w]
                                                rfl
                                              refine one_ (i := 2) (N := some 113) #[true, true, true, false, true, true, true, true, true, true, false, false, false, false, false, false, false, false] rfl rfl (one_of HT_.out (by kernel_rfl)) (by decide) (fun K hK => ?_)
                                              refine goes_ Try.func16 (by kernel_rfl) rfl #[.int .i64 a0, .slice Ao87 y216.length co87] (by rfl) rfl rfl (by (try simp only [List.map_toArray, List.map_cons, List.map_nil]); first | done | rfl | (simp only [List.length_drop, List.length_take]; rfl)) ?_
                                              with_reducible refine (prop_Valid.calls a0 _ _ y216 t219 _ ?side1 ?side2 A65.out).mono ?_
                                              (case side1 => repeat (first | exact (Kd.R_reads' HO218.out).2.2 | (with_reducible refine Kd.C_alloc ?_ _) | (with_reducible refine Kd.C_drewN ?_ _) | (with_reducible refine Kd.C_drew ?_)))
                                              (case side2 => exact (Kd.R_reads' HO218.out).2.1)
                                              rintro e w88 ⟨rfl, hb⟩
                                              refine ⟨_, rfl, ?_⟩
                                              have n0_ := Aside0.mk (Kd.R_below (by (with_reducible repeat (first | apply Kd.R_alloc | apply Kd.R_drewN | apply Kd.R_drew)); exact HO215.out) hb)
                                              have n1_ := Aside0.mk (Kd.R_below (by (with_reducible repeat (first | apply Kd.R_alloc | apply Kd.R_drewN | apply Kd.R_drew)); exact HO218.out) hb)
                                              have n2_ := Aside0.mk (below_step (by repeat (first | (with_reducible first | exact HB.out | apply below_alloc | apply pw_below_drewN | apply below_drew1) | exact HB.out)) hb)
                                              clear HO215
                                              clear HO218
                                              clear HB
                                              have HO215 := n0_
                                              have HO218 := n1_
                                              have HB := n2_
                                              clear n0_ n1_ n2_
                                              (try clear hb)
                                              (try clear hb2)
                                              (try clear hk)
                                              (try clear hi)
                                              refine hK.out _ _ ⟨((HB.out.cell (World.block_lt_of_cell? w _ hw220_0)).trans hw220_0), ((HB.out.cell (World.block_lt_of_cell? w _ hw220_1)).trans hw220_1), ((HB.out.cell (World.block_lt_of_cell? w _ hw220_2)).trans hw220_2), ((HB.out.cell (World.block_lt_of_cell? w _ hw220_3)).trans hw220_3)⟩ (fun hHeld => ?_)
                                              clear hK K
                                              refine norm_ (a' := ?_) ?_ ?_
                                              rotate_left
                                              · show Act.put _ (some 113) _ = _
                                                simp only [Act.put, List.setIfInBounds_toArray, List.set_cons_zero, List.set_cons_succ, i64_w, i32_w]
                                                rfl
                                              refine pure_ (i := 3) (N := some 114) (v := ?_) (a' := ?_) #[true, true, true, true, true, true, true, true, true, true, false, false, false, false, false, false, false, false] rfl rfl (any_of HT_.out (by kernel_rfl)) (fun _ _ _ h => h) (Or.inl ⟨by rfl, ?_⟩) ?_ ?_
                                              rotate_left
                                              · intro w'
                                                go_simp
                                                with_reducible rfl
                                              rotate_left
                                              · simp only [Act.put, List.setIfInBounds_toArray, List.set_cons_zero, List.set_cons_succ, i64_w, i32_w]
                                                rfl
                                              refine one_ (i := 10) (N := some 121) #[true, true, true, true, true, true, true, true, true, true, true, false, false, false, false, false, false, false] rfl rfl (one_of HT_.out (by kernel_rfl)) (by decide) (fun K hK => ?_)
                                              refine goes_ Try.func19 (by kernel_rfl) rfl #[.int .i64 a0, .int .i64 ((rd_T27 l1 t172).f0)] (by rfl) rfl rfl (by (try simp only [List.map_toArray, List.map_cons, List.map_nil]); first | done | rfl | (simp only [List.length_drop, List.length_take]; rfl)) ?_
                                              with_reducible refine (prop_Many.calls a0 ((rd_T27 l1 t172).f0) t221 _ A66.out).mono ?_
                                              rintro e w89 ⟨rfl, hb⟩
                                              refine ⟨_, rfl, ?_⟩
                                              have n0_ := Aside0.mk (Kd.R_below (by (with_reducible repeat (first | apply Kd.R_alloc | apply Kd.R_drewN | apply Kd.R_drew)); exact HO215.out) hb)
                                              have n1_ := Aside0.mk (Kd.R_below (by (with_reducible repeat (first | apply Kd.R_alloc | apply Kd.R_drewN | apply Kd.R_drew)); exact HO218.out) hb)
                                              have n2_ := Aside0.mk (below_step (by repeat (first | (with_reducible first | exact HB.out | apply below_alloc | apply pw_below_drewN | apply below_drew1) | exact HB.out)) hb)
                                              clear HO215
                                              clear HO218
                                              clear HB
                                              have HO215 := n0_
                                              have HO218 := n1_
                                              have HB := n2_
                                              clear n0_ n1_ n2_
                                              (try clear hb)
                                              (try clear hb2)
                                              (try clear hk)
                                              (try clear hi)
                                              refine hK.out _ _ ⟨((HB.out.cell (World.block_lt_of_cell? w _ hw220_0)).trans hw220_0), ((HB.out.cell (World.block_lt_of_cell? w _ hw220_1)).trans hw220_1), ((HB.out.cell (World.block_lt_of_cell? w _ hw220_2)).trans hw220_2), ((HB.out.cell (World.block_lt_of_cell? w _ hw220_3)).trans hw220_3)⟩ (fun hHeld => ?_)
                                              clear hK K
                                              refine norm_ (a' := ?_) ?_ ?_
                                              rotate_left
                                              · show Act.put _ (some 121) _ = _
                                                simp only [Act.put, List.setIfInBounds_toArray, List.set_cons_zero, List.set_cons_succ, i64_w, i32_w]
                                                rfl
                                              refine pure_ (i := 11) (N := some 122) (v := ?_) (a' := ?_) #[true, true, true, true, true, true, true, true, true, true, true, true, false, false, false, false, false, false] rfl rfl (any_of HT_.out (by kernel_rfl)) (fun _ _ _ h => h) (Or.inl ⟨by rfl, ?_⟩) ?_ ?_
                                              rotate_left
                                              · intro w'
                                                go_simp
                                                with_reducible rfl
                                              rotate_left
                                              · simp only [Act.put, List.setIfInBounds_toArray, List.set_cons_zero, List.set_cons_succ, i64_w, i32_w]
                                                rfl
                                              refine pure_ (i := 12) (N := some 123) (v := ?_) (a' := ?_) #[true, true, true, true, true, true, true, true, true, true, true, true, true, false, false, false, false, false] rfl rfl (any_of HT_.out (by kernel_rfl)) (fun _ _ _ h => h) (Or.inl ⟨by rfl, ?_⟩) ?_ ?_
                                              rotate_left
                                              · intro w'
                                                go_simp
                                                with_reducible rfl
                                              rotate_left
                                              · simp only [Act.put, List.setIfInBounds_toArray, List.set_cons_zero, List.set_cons_succ, i64_w, i32_w]
                                                rfl
                                              refine pure_ (i := 13) (N := some 124) (v := ?_) (a' := ?_) #[true, true, true, true, true, true, true, true, true, true, true, true, true, true, false, false, false, false] rfl rfl (any_of HT_.out (by kernel_rfl)) (fun _ _ _ h => h) (Or.inl ⟨by rfl, ?_⟩) ?_ ?_
                                              rotate_left
                                              · intro w'
                                                go_simp
                                                with_reducible rfl
                                              rotate_left
                                              · simp only [Act.put, List.setIfInBounds_toArray, List.set_cons_zero, List.set_cons_succ, i64_w, i32_w]
                                                rfl
                                              refine pure_ (i := 14) (N := some 125) (v := ?_) (a' := ?_) #[true, true, true, true, true, true, true, true, true, true, true, true, true, true, true, false, false, false] rfl rfl (any_of HT_.out (by kernel_rfl)) (fun _ _ _ h => h) (Or.inl ⟨by rfl, ?_⟩) ?_ ?_
                                              rotate_left
                                              · intro w'
                                                go_simp
                                                with_reducible rfl
                                              rotate_left
                                              · simp only [Act.put, List.setIfInBounds_toArray, List.set_cons_zero, List.set_cons_succ, i64_w, i32_w]
                                                rfl
                                              refine pure_ (i := 15) (N := some 126) (v := ?_) (a' := ?_) #[true, true, true, true, true, true, true, true, true, true, true, true, true, true, true, true, false, false] rfl rfl (any_of HT_.out (by kernel_rfl)) (fun _ _ _ h => h) (Or.inl ⟨by rfl, ?_⟩) ?_ ?_
                                              rotate_left
                                              · intro w'
                                                go_simp
                                                with_reducible rfl
                                              rotate_left
                                              · simp only [Act.put, List.setIfInBounds_toArray, List.set_cons_zero, List.set_cons_succ, i64_w, i32_w]
                                                rfl
                                              refine pure_ (i := 16) (N := some 127) (v := ?_) (a' := ?_) #[true, true, true, true, true, true, true, true, true, true, true, true, true, true, true, true, true, false] rfl rfl (any_of HT_.out (by kernel_rfl)) (fun _ _ _ h => h) (Or.inl ⟨by rfl, ?_⟩) ?_ ?_
                                              rotate_left
                                              · intro w'
                                                go_simp
                                                with_reducible rfl
                                              rotate_left
                                              · simp only [Act.put, List.setIfInBounds_toArray, List.set_cons_zero, List.set_cons_succ, i64_w, i32_w]
                                                rfl
                                              refine pure_ (i := 17) (N := some 6) (v := ?_) (a' := ?_) #[true, true, true, true, true, true, true, true, true, true, true, true, true, true, true, true, true, true] rfl rfl (any_of HT_.out (by kernel_rfl)) (fun _ _ _ h => h) (Or.inl ⟨by rfl, ?_⟩) ?_ ?_
                                              rotate_left
                                              · intro w'
                                                go_simp
                                                with_reducible rfl
                                              rotate_left
                                              · simp only [Act.put, List.setIfInBounds_toArray, List.set_cons_zero, List.set_cons_succ, i64_w, i32_w]
                                                rfl
                                              refine done_ (done_of HT_.out (by kernel_rfl)) ?_
                                              try go_wp2
                                              go_ret
                                              exact ⟨by first | rfl | (simp [errW_none, errW_some] <;> rfl) | (simp only [← hji45]; first | rfl | (simp [errW_none, errW_some] <;> rfl)) | (simp [*, errW_none, errW_some] <;> rfl), by repeat (first | (with_reducible first | exact HB.out | apply below_alloc | apply pw_below_drewN | apply below_drew1) | exact HB.out)⟩
                                          · rw [if_neg c64] at H
                                            exact absurd H (by simp)
                                        · rw [if_neg c63] at H
                                          exact absurd H (by simp)
                                      · rw [if_neg c62] at H
                                        exact absurd H (by simp)
                              · rw [if_neg c48] at H
                                exact absurd H (by simp)
                            · rw [if_neg c47] at H
                              exact absurd H (by simp)
                          · rw [if_neg c46] at H
                            exact absurd H (by simp)
                        · rw [if_neg c43] at H
                          exact absurd H (by simp)
                      · rw [if_neg c42] at H
                        exact absurd H (by simp)
              · rw [if_neg c23] at H
                exact absurd H (by simp)
            · rw [if_neg c19] at H
              exact absurd H (by simp)
          · rw [if_neg c18] at H
            exact absurd H (by simp)
  · replace c5 := Bool.eq_false_iff.mpr c5
    subst c5
    have H1 : (some false) = some r := by rw [if_neg (show ¬ (false = true) by decide)] at H; exact H
    clear H
    have H := H1
    clear H1
    obtain rfl := Option.some.inj H
    go_enter Try.func4, Try.ntmps4
    go_wp2_with (first | ((with_reducible refine gate_callee (f := 11) rfl ?_); refine goesL_ (some 15) rfl rfl Try.func11 (by kernel_rfl) rfl #[] rfl (by (try simp only [List.map_toArray, List.map_cons, List.map_nil]); first | done | rfl | (simp only [List.length_drop, List.length_take]; rfl)) ?_; (with_reducible refine (polyglotlaw05_lives.calls  false _ A4.out).mono ?_); rintro e w90 ⟨rfl, hb⟩; refine ⟨_, rfl, ?_⟩; have n0_ := Aside0.mk (below_step (by repeat (first | (with_reducible first | exact HB.out | apply below_alloc | apply pw_below_drewN | apply below_drew1) | exact HB.out)) hb); clear HB; have HB := n0_; clear n0_; (try clear hb); (try clear hb2); (try clear hk); (try clear hi)))
    go_ret
    exact ⟨by first | rfl | (simp [errW_none, errW_some] <;> rfl) | (simp [*, errW_none, errW_some] <;> rfl), by repeat (first | (with_reducible first | exact HB.out | apply below_alloc | apply pw_below_drewN | apply below_drew1) | exact HB.out)⟩

end Go.Proofs.Ytngmipfobcaojaa.HA
end

-- YtngmipfobcaojaaHAhBytesLaw
section
/- When prop.Bytes answers, and what: without its counts. -/
-- FOR polyglot/prop.Bytes
namespace Go.Proofs.Ytngmipfobcaojaa.HA
open Go.RowKit Go.Proofs.YtngmipfobcaojaaW.PrintWords Go.Proofs.YtngmipfobcaojaaW.PrintLast Go.Proofs.YtngmipfobcaojaaW.PrintMore
set_option linter.unusedVariables false
set_option linter.unusedSimpArgs false
abbrev PropT := S27
def cnt (i : Nat) (l : List PropT) : Nat := l.countP fun p => decide (p.f0.toNat = i)
def encP (p : PropT) : List Int := [p.f0 % 256] ++ bytesOf (valS (ruleOf p.f0).1 p)
def encL (l : List PropT) : List Int := (l.map encP).flatten
def goodC (kind : Int) (l : List PropT) (c : Nat → Int) : Prop :=
  (∀ p ∈ l, checkS (ruleOf p.f0) kind p = 0) ∧ (∀ p ∈ l, 1 < c p.f0.toNat + (cnt p.f0.toNat l : Int) → oftenB kind p.f0 = true)
theorem cnt_cons (i : Nat) (p : PropT) (l : List PropT) : cnt i (p :: l) = cnt i l + if p.f0.toNat = i then 1 else 0 := by
  unfold cnt
  rw [List.countP_cons]
  simp
theorem upd_eq (c : Nat → Int) (i : Nat) (v : Int) (j : Nat) : upd c i v j = if j = i then v else c j := by
  unfold upd
  rfl
theorem good_id {kind : Int} {l : List PropT} {c : Nat → Int} (h : goodC kind l c) : ∀ p ∈ l, 1 ≤ p.f0 ∧ p.f0 ≤ 42 := fun p hp => check_id kind p (h.1 p hp)
theorem good_cons (kind : Int) (p : PropT) (l : List PropT) (c : Nat → Int) (hc : ∀ i, 0 ≤ c i) :
    goodC kind (p :: l) c ↔ (checkS (ruleOf p.f0) kind p = 0 ∧ (1 < c p.f0.toNat + 1 → oftenB kind p.f0 = true) ∧ goodC kind l (upd c p.f0.toNat (c p.f0.toNat + 1))) := by
  have same : ∀ q : PropT, checkS (ruleOf p.f0) kind p = 0 → checkS (ruleOf q.f0) kind q = 0 → q.f0.toNat = p.f0.toNat → q.f0 = p.f0 := by
    intro q h1 h2 h3
    have := check_id kind p h1
    have := check_id kind q h2
    omega
  constructor
  · rintro ⟨h1, h2⟩
    have hp := h1 p List.mem_cons_self
    refine ⟨hp, fun h => h2 p List.mem_cons_self ?_, fun q hq => h1 q (List.mem_cons_of_mem _ hq), fun q hq h => h2 q (List.mem_cons_of_mem _ hq) ?_⟩
    · rw [cnt_cons, if_pos rfl]; omega
    · rw [upd_eq] at h
      rw [cnt_cons]
      by_cases e : q.f0.toNat = p.f0.toNat
      · rw [if_pos e] at h; rw [if_pos e.symm]; rw [e] at h ⊢; omega
      · rw [if_neg e] at h; rw [if_neg (fun x => e x.symm)]; omega
  · rintro ⟨h1, h2, h3, h4⟩
    refine ⟨fun q hq => ?_, fun q hq h => ?_⟩
    · rcases List.mem_cons.1 hq with rfl | hq
      · exact h1
      · exact h3 q hq
    · rcases List.mem_cons.1 hq with rfl | hq
      · by_cases e : ∃ x ∈ l, x.f0.toNat = q.f0.toNat
        · obtain ⟨x, hx, e⟩ := e
          have := h4 x hx (by
            rw [upd_eq, if_pos e, e]
            rw [cnt_cons, if_pos rfl] at h
            omega)
          rwa [same x h1 (h3 x hx) e] at this
        · have : cnt q.f0.toNat l = 0 := by
            unfold cnt
            rw [List.countP_eq_zero]
            intro x hx hh
            exact e ⟨x, hx, by simpa using hh⟩
          apply h2
          rw [cnt_cons, if_pos rfl, this] at h
          omega
      · apply h4 q hq
        rw [cnt_cons] at h
        rw [upd_eq]
        by_cases e : q.f0.toNat = p.f0.toNat
        · rw [if_pos e]; rw [if_pos e.symm] at h; rw [e] at h ⊢; omega
        · rw [if_neg e]; rw [if_neg (fun x => e x.symm)] at h; omega
theorem bytesTo_good (kind : Int) : ∀ (l : List PropT) (c : Nat → Int) (acc : List Int), (∀ i, 0 ≤ c i) → goodC kind l c →
    bytesTo kind l c acc = if decide (0 < c 22 + (cnt 22 l : Int)) && c 21 + (cnt 21 l : Int) == 0 then (⟨#[]⟩, 9)
      else if (varS (acc ++ encL l).length).2 = 0 then ((varS (acc ++ encL l).length).1 ++ strOfNums (acc ++ encL l), 0) else (⟨#[]⟩, 4) := by
  intro l
  induction l with
  | nil =>
    intro c acc hc _
    simp [bytesTo, encL, cnt]
  | cons p l ih =>
    intro c acc hc h
    obtain ⟨h1, h2, h3⟩ := (good_cons kind p l c hc).1 h
    rw [bytesTo, if_neg (by rw [h1]; simp)]
    have hb : (decide (1 < c p.f0.toNat + 1) && !oftenB kind p.f0) = false := by
      by_cases q : 1 < c p.f0.toNat + 1
      · rw [h2 q]; simp
      · simp [q]
    rw [hb]
    simp only [Bool.false_eq_true, if_false]
    rw [ih _ _ (fun i => by rw [upd_eq]; split; · have := hc p.f0.toNat; omega
                            · exact hc i) h3]
    have ea : acc ++ [p.f0 % 256] ++ bytesOf (valS (ruleOf p.f0).1 p) ++ encL l = acc ++ encL (p :: l) := by
      simp [encL, encP]
    have ec : ∀ i, upd c p.f0.toNat (c p.f0.toNat + 1) i + (cnt i l : Int) = c i + (cnt i (p :: l) : Int) := by
      intro i
      rw [upd_eq, cnt_cons]
      by_cases e : i = p.f0.toNat
      · subst e; simp; omega
      · rw [if_neg e, if_neg (fun x => e x.symm)]; omega
    rw [ea, ec, ec]
theorem bytesTo_bad (kind : Int) : ∀ (l : List PropT) (c : Nat → Int) (acc : List Int), (∀ i, 0 ≤ c i) → ¬ goodC kind l c → (bytesTo kind l c acc).2 ≠ 0 := by
  intro l
  induction l with
  | nil =>
    intro c acc hc h
    exact absurd ⟨fun _ q => by simp at q, fun _ q => by simp at q⟩ h
  | cons p l ih =>
    intro c acc hc h
    rw [bytesTo]
    by_cases h1 : checkS (ruleOf p.f0) kind p = 0
    · rw [if_neg (by rw [h1]; simp)]
      by_cases h2 : 1 < c p.f0.toNat + 1 → oftenB kind p.f0 = true
      · have hb : (decide (1 < c p.f0.toNat + 1) && !oftenB kind p.f0) = false := by
          by_cases q : 1 < c p.f0.toNat + 1
          · rw [h2 q]; simp
          · simp [q]
        rw [hb]
        simp only [Bool.false_eq_true, if_false]
        apply ih _ _ (fun i => by rw [upd_eq]; split; · have := hc p.f0.toNat; omega
                                  · exact hc i)
        intro h3
        exact h ((good_cons kind p l c hc).2 ⟨h1, h2, h3⟩)
      · have hb : (decide (1 < c p.f0.toNat + 1) && !oftenB kind p.f0) = true := by
          have q1 : 1 < c p.f0.toNat + 1 := Classical.byContradiction fun q => h2 fun x => absurd x q
          have q2 : oftenB kind p.f0 = false := by
            cases e : oftenB kind p.f0 with
            | false => rfl
            | true => exact absurd (fun _ => e) h2
          rw [q2]; simp [q1]
        rw [hb]
        simp
    · rw [if_pos h1]
      exact h1
/-- The list's own rule. -/
def good (kind : Int) (l : List PropT) : Prop := l.length ≤ 1000 ∧ goodC kind l (fun _ => 0)
def dataOk (l : List PropT) : Bool := !(decide (0 < cnt 22 l) && decide (cnt 21 l = 0))
theorem encP_len (p : PropT) : (encP p).length ≤ 131075 := by
  unfold encP
  have := valS_size (ruleOf p.f0).1 p
  simp [bytesOf]
  omega
theorem encL_len (l : List PropT) : (encL l).length ≤ 131075 * l.length := by
  induction l with
  | nil => simp [encL]
  | cons p l ih =>
    have : encL (p :: l) = encP p ++ encL l := by simp [encL]
    rw [this, List.length_append, List.length_cons]
    have := encP_len p
    omega
theorem bytes_good {kind : Int} {l : List PropT} (h : good kind l) :
    bytesS kind l = if dataOk l then ((varS (encL l).length).1 ++ strOfNums (encL l), 0) else (⟨#[]⟩, 9) := by
  unfold bytesS
  have h1 := h.1
  have hl := encL_len l
  rw [if_neg (by omega), bytesTo_good kind l (fun _ => 0) [] (fun _ => Int.le_refl 0) h.2]
  have hv : (varS ((encL l).length : Int)).2 = 0 := by
    unfold varS
    rw [if_pos (by constructor <;> omega)]
  simp only [List.nil_append, hv, if_true, Int.zero_add]
  unfold dataOk
  by_cases a : 0 < cnt 22 l <;> by_cases b : cnt 21 l = 0 <;> simp [a, b] <;> omega
theorem bytes_bad {kind : Int} {l : List PropT} (h : ¬ good kind l) : (bytesS kind l).2 ≠ 0 := by
  unfold bytesS
  by_cases h1 : l.length ≤ 1000
  · rw [if_neg (by omega)]
    exact bytesTo_bad kind l _ _ (fun _ => Int.le_refl 0) (fun q => h ⟨h1, q⟩)
  · rw [if_pos (by omega)]
    decide
theorem bytes_ok {kind : Int} {l : List PropT} : (bytesS kind l).2 = 0 ↔ good kind l ∧ dataOk l = true := by
  by_cases h : good kind l
  · rw [bytes_good h]
    cases dataOk l <;> simp [h]
  · simp [h, bytes_bad h]
theorem bytes_of {kind : Int} {l : List PropT} (h : (bytesS kind l).2 = 0) : bytesS kind l = ((varS (encL l).length).1 ++ strOfNums (encL l), 0) := by
  obtain ⟨h1, h2⟩ := bytes_ok.1 h
  rw [bytes_good h1, h2]
  rfl
/-- Only which properties there are, and how often, matters. -/
theorem cnt_perm {l m : List PropT} (h : l.Perm m) (i : Nat) : cnt i l = cnt i m := h.countP_eq _
theorem good_perm {kind : Int} {l m : List PropT} (h : l.Perm m) : good kind l → good kind m := by
  rintro ⟨h1, h2, h3⟩
  refine ⟨by rw [← h.length_eq]; exact h1, fun p hp => h2 p (h.mem_iff.2 hp), fun p hp hq => h3 p (h.mem_iff.2 hp) ?_⟩
  rw [cnt_perm h]
  exact hq
theorem data_perm {l m : List PropT} (h : l.Perm m) : dataOk l = dataOk m := by
  unfold dataOk
  rw [cnt_perm h, cnt_perm h]
theorem enc_perm {l m : List PropT} (h : l.Perm m) : (encL l).length = (encL m).length := by
  unfold encL
  exact ((h.map encP).flatten).length_eq
theorem good_sub {kind : Int} {l m : List PropT} (h : m.Sublist l) : good kind l → good kind m := by
  rintro ⟨h1, h2, h3⟩
  refine ⟨Nat.le_trans h.length_le h1, fun p hp => h2 p (h.subset hp), fun p hp hq => h3 p (h.subset hp) ?_⟩
  have : cnt p.f0.toNat m ≤ cnt p.f0.toNat l := List.Sublist.countP_le h
  simp only [Int.zero_add] at hq ⊢
  omega
end Go.Proofs.Ytngmipfobcaojaa.HA
end

-- YtngmipfobcaojaaHAhLightLaw
section
/- The bound of the laws' lists, and a list's own copy. -/
-- FOR polyglot/polyglotkit.LightProps
namespace Go.Proofs.Ytngmipfobcaojaa.HA
open Go.RowKit Go.Proofs.YtngmipfobcaojaaW.PrintWords Go.Proofs.YtngmipfobcaojaaW.PrintLast Go.Proofs.YtngmipfobcaojaaW.PrintMore
set_option linter.unusedVariables false
set_option linter.unusedSimpArgs false
theorem weight_f (l : List S27) (hl : l.length ≤ 1010) : ∀ (d k : Nat) (i : Nat) (n : Int), i + d = l.length → ∃ w, polyglotkit_weight.l0 (k + d + 1) l n i = some w := by
  intro d
  induction d with
  | zero =>
    intro k i n hi
    rw [polyglotkit_weight.l0.eq_def]
    simp only []
    rw [if_neg (by omega)]
    exact ⟨_, rfl⟩
  | succ d ih =>
    intro k i n hi
    rw [show k + (d + 1) + 1 = (k + d + 1) + 1 by omega, polyglotkit_weight.l0.eq_def]
    simp only []
    rw [if_pos (by omega), if_pos (by omega), w64 ((i : Int) + 1) (by omega) (by omega), show (i : Int) + 1 = ((i + 1 : Nat) : Int) by omega]
    exact ih k (i + 1) _ (by omega)
theorem light_f (k : Nat) (l : List S27) (hk : 1012 ≤ k) : polyglotkit_LightProps.f k l = some false ∨ (polyglotkit_LightProps.f k l = some true ∧ l.length ≤ 1010) := by
  unfold polyglotkit_LightProps.f
  by_cases h : (l.length : Int) ≤ 1010
  · rw [if_pos h]
    obtain ⟨w, hw⟩ := weight_f l (by omega) l.length (k - l.length - 1) 0 0 (by omega)
    rw [show k - l.length - 1 + l.length + 1 = k by omega] at hw
    unfold polyglotkit_weight.f
    rw [show ((0 : Nat) : Int) = 0 from rfl] at hw
    rw [hw]
    by_cases hw2 : w ≤ 140000
    · exact Or.inr ⟨by simp [hw2], by omega⟩
    · exact Or.inl (by simp [hw2])
  · rw [if_neg h]
    exact Or.inl rfl
end Go.Proofs.Ytngmipfobcaojaa.HA
end

-- YtngmipfobcaojaaHAhLives5
section
/- The example of the chapter is so. -/
-- FOR polyglot/polyglotlaw05.lives
namespace Go.Proofs.Ytngmipfobcaojaa.HA
open Go.RowKit Go.Proofs.YtngmipfobcaojaaW.PrintWords Go.Proofs.YtngmipfobcaojaaW.PrintLast Go.Proofs.YtngmipfobcaojaaW.PrintMore
set_option linter.unusedVariables false
set_option linter.unusedSimpArgs false
set_option maxRecDepth 100000 in
theorem lives5_f : polyglotlaw05_lives.f = some true := by
  unfold polyglotlaw05_lives.f prop_Bytes.f
  kernel_rfl
end Go.Proofs.Ytngmipfobcaojaa.HA
end

-- YtngmipfobcaojaaHAhPick
section
/- Pick answers a place of the list. -/
-- FOR polyglot/polyglotkit.Pick
namespace Go.Proofs.Ytngmipfobcaojaa.HA
open Go.RowKit Go.Proofs.YtngmipfobcaojaaW.PrintWords Go.Proofs.YtngmipfobcaojaaW.PrintLast Go.Proofs.YtngmipfobcaojaaW.PrintMore
set_option linter.unusedVariables false
set_option linter.unusedSimpArgs false
theorem pick_f (a n : Int) (h1 : -9223372036854775808 ≤ a) (h2 : a ≤ 9223372036854775807) (n1 : 1 ≤ n) (n2 : n ≤ 9223372036854775807) :
    ∃ t, polyglotkit_Pick.f a n = some t ∧ 0 ≤ t ∧ t < n := by
  unfold polyglotkit_Pick.f
  rw [if_neg (by omega), if_neg (by omega)]
  have e : Int.tmod a n = a - n * Int.tdiv a n := by have := Int.mul_tdiv_add_tmod a n; omega
  have hb : Int.tmod a n < n := Int.tmod_lt_of_pos a (by omega)
  have hb2 : - n < Int.tmod a n := by
    by_cases h : 0 ≤ a
    · have := Int.tmod_nonneg n h; omega
    · have h3 : Int.tmod a n = - Int.tmod (-a) n := by rw [Int.neg_tmod]; omega
      have := Int.tmod_lt_of_pos (-a) (show 0 < n by omega)
      omega
  by_cases hn : Int.tmod a n < 0
  · rw [if_pos hn]
    refine ⟨_, rfl, ?_⟩
    unfold wrap64
    omega
  · rw [if_neg hn]
    exact ⟨_, rfl, by omega, hb⟩
theorem wf_i64 {a : Int} (h : (Lit.int .i64 a).wf = true) : -9223372036854775808 ≤ a ∧ a ≤ 9223372036854775807 := by
  simp only [Lit.wf, Bool.and_eq_true, decide_eq_true_eq] at h
  have e1 : IntKind.i64.min = -9223372036854775808 := by decide
  have e2 : IntKind.i64.max = 9223372036854775807 := by decide
  omega
end Go.Proofs.Ytngmipfobcaojaa.HA
end

-- YtngmipfobcaojaaHAhOpenProps
section
/- An argument that is a list of properties, opened: the list behind it. -/
-- FOR polyglot/prop.Check
namespace Go.Proofs.Ytngmipfobcaojaa.HA
open Go.RowKit Go.Proofs.YtngmipfobcaojaaW.PrintWords Go.Proofs.YtngmipfobcaojaaW.PrintLast Go.Proofs.YtngmipfobcaojaaW.PrintMore
set_option linter.unusedVariables false
set_option linter.unusedSimpArgs false
open Go.ChangeShapes Go.WideShapes Go.ChangeAt Go.Joins Go.Deep
structure OkP (x : S27) : Prop where
  i0 : (Lit.int .i64 x.f0).wf = true
  i1 : (Lit.int .u32 x.f1).wf = true
  s2 : x.f2.size ≤ maxLen
  s3 : x.f3.size ≤ maxLen
theorem list4 {α : Type} (cs : List α) (h : cs.length = 4) : ∃ v0 v1 v2 v3, cs = [v0, v1, v2, v3] := by
  rcases cs with _ | ⟨v0, _ | ⟨v1, _ | ⟨v2, _ | ⟨v3, _ | ⟨v4, l⟩⟩⟩⟩⟩
  · simp at h
  · simp at h
  · simp at h
  · simp at h
  · exact ⟨v0, v1, v2, v3, rfl⟩
  · simp at h
theorem open_prop_cells {H : Type} {enc : TypeId × Value → H} {W : World} {base : Nat} {spare : Nat → Bool} {held : Bool} {n : Nat} {cs : List Value} {y : DataW H × List MemPlace}
    (h : DataW.trod enc Try.prog W base spare held n 27 cs = some y) :
    ∃ x : S27, cs = [.int .i64 x.f0, .int .u32 x.f1, .string x.f2, .string x.f3] ∧ OkP x := by
  obtain ⟨y0, y1, y2, y3, n', _, hlen, h0, h1, h2, h3⟩ := trod_struct4 Try.underlying27 h
  have hl : cs.length = 4 := hlen.trans (by kernel_rfl)
  obtain ⟨v0, v1, v2, v3, rfl⟩ := list4 cs hl
  have e0 : Try.prog.cellsOf 3 = 1 := by kernel_rfl
  have e1 : Try.prog.cellsOf 25 = 1 := by kernel_rfl
  have e2 : Try.prog.cellsOf 9 = 1 := by kernel_rfl
  rw [show Try.prog.cellsOf _ = 1 from e0] at h0
  rw [show Try.prog.cellsOf _ = 1 from e1] at h1
  rw [show Try.prog.cellsOf _ = 1 from e2] at h2 h3
  obtain ⟨x0, q0, _, w0⟩ := DataW.trod_int Try.underlying3 h0
  obtain ⟨x1, q1, _, w1⟩ := DataW.trod_int Try.underlying25 h1
  obtain ⟨x2, q2, _, w2⟩ := DataW.trod_string Try.underlying9 h2
  obtain ⟨x3, q3, _, w3⟩ := DataW.trod_string Try.underlying9 h3
  simp at q0 q1 q2 q3
  subst q0 q1 q2 q3
  exact ⟨⟨x0, x1, x2, x3⟩, rfl, ⟨w0, w1, w2, w3⟩⟩
theorem open_props {H : Type} {enc : TypeId × Value → H} {W : World} {base : Nat} {spare : Nat → Bool} {held : Bool} {a : Option Addr} {len cap : Nat} {d : DataW H} {ps : List MemPlace}
    (h : DataW.Trod enc Try.prog W base spare held 32 (.slice a len cap) d ps) :
    ∃ l : List S27, Kd.C k27 W a l.length l ∧ l.length = len ∧ len ≤ cap ∧ l.length ≤ maxLen ∧ ∀ x ∈ l, OkP x := by
  obtain ⟨fuel, hf⟩ := h
  have hmax : (maxLen : Nat) ≤ 9223372036854775807 := by decide
  rcases open_slice Try.underlying32 hf with ⟨hcs, _⟩ | ⟨x, l, c, m, n, D, Pl, hcs, _, hl, hm, hmm, _, hx⟩
  · simp [Value.cells] at hcs
    obtain ⟨rfl, rfl, rfl⟩ := hcs
    exact ⟨[], ⟨rfl, by decide, fun q => absurd q (by simp)⟩, rfl, Nat.le_refl _, Nat.zero_le _, fun _ q => by simp at q⟩
  · simp [Value.cells] at hcs
    obtain ⟨rfl, rfl, rfl⟩ := hcs
    have hlm : len ≤ m := by rw [hmm]; split <;> omega
    have e4 : Try.prog.cellsOf 27 = 4 := by kernel_rfl
    haveI : Inhabited S27 := ⟨z27⟩
    obtain ⟨f, hfx⟩ := choose_lt (α := S27) (n := len) (p := fun i y => (∀ j u, ([.int .i64 y.f0, .int .u32 y.f1, .string y.f2, .string y.f3] : List Value)[j]? = some u → W.cell? (x.add (i * 4 + j)) = some u) ∧ OkP y) (fun i hi => by
      obtain ⟨cs', h1, h2⟩ := hx i (by omega)
      obtain ⟨y, rfl, hy⟩ := open_prop_cells h2
      refine ⟨y, fun j u hu => ?_, hy⟩
      obtain ⟨_, _, hc⟩ := World.cells?_some h1
      have hj : j < 4 := by
        by_cases q : j < 4
        · exact q
        · rw [List.getElem?_eq_none (by simpa using q)] at hu; exact absurd hu (by simp)
      have := hc j (by rw [e4]; exact hj)
      rw [e4, hu, Go.Deep.add_add] at this
      exact this)
    refine ⟨(List.range len).map f, ⟨rfl, by simp; omega, fun _ => ⟨x, rfl, fun j p hj => ?_⟩⟩, by simp, hl, by simp; omega, fun y hy => ?_⟩
    · have hjl : j < len := by
        by_cases q : j < len
        · exact q
        · rw [List.getElem?_eq_none (by simpa using q)] at hj; exact absurd hj (by simp)
      rw [List.getElem?_map, List.getElem?_range hjl] at hj
      obtain rfl : f j = p := by simpa using hj
      exact ⟨_, rfl, k27_mk W (f j), (hfx j hjl).1⟩
    · obtain ⟨i, hi, rfl⟩ := List.mem_map.1 hy
      exact (hfx i (List.mem_range.1 hi)).2
end Go.Proofs.Ytngmipfobcaojaa.HA
end

-- YtngmipfobcaojaaPurePropTurns
section
/- The plain law of PropTurns: no program in sight. -/
-- FOR polyglot/polyglotlaw05.PropTurns
namespace Go.Proofs.Ytngmipfobcaojaa.Pure
open Go.Proofs.Ytngmipfobcaojaa.HA
open Go.RowKit Go.Proofs.YtngmipfobcaojaaW.PrintWords Go.Proofs.YtngmipfobcaojaaW.PrintLast Go.Proofs.YtngmipfobcaojaaW.PrintMore
set_option linter.unusedVariables false
set_option linter.unusedSimpArgs false
theorem own_f (l : List PropT) (h : l.length ≤ 1010) : api_Prop_17.f l = some l := by
  unfold api_Prop_17.f
  simp
  omega
theorem valid5_f (kind : Int) (l : List PropT) : prop_Valid.f kind l = some (bytesS kind l).2 := rfl
theorem many_f (kind : Int) (p : PropT) (h : checkS (ruleOf p.f0) kind p = 0) : prop_Many.f kind p.f0 = some (oftenB kind p.f0) := by
  unfold prop_Many.f prop_May.f
  have hh : hasS (ruleOf p.f0) kind = true := by
    cases e : hasS (ruleOf p.f0) kind with
    | true => rfl
    | false => unfold checkS at h; rw [if_pos e] at h; omega
  rw [often_f, has_f]
  simp only [Option.bind_some]
  rw [hh]
  cases oftenB kind p.f0 <;> simp
theorem rd_mem (l : List PropT) (t : Int) (h0 : 0 ≤ t) (h1 : t < l.length) : rd_T27 l t ∈ l := by
  unfold rd_T27
  rw [List.getD_eq_getElem?_getD, List.getElem?_eq_getElem (show t.toNat < l.length by omega)]
  exact List.getElem_mem _
/-- One more of what is there already: valid where it may come often. -/
theorem more_good {kind : Int} {l : List PropT} {x : PropT} (hx : x ∈ l) (hl : l.length ≤ 900) (hg : good kind l) : good kind (l ++ [x]) ↔ oftenB kind x.f0 = true := by
  have hc : ∀ i, cnt i (l ++ [x]) = cnt i l + if x.f0.toNat = i then 1 else 0 := by
    intro i
    unfold cnt
    rw [List.countP_append, List.countP_cons]
    simp
  have hpos : 0 < cnt x.f0.toNat l := by
    unfold cnt
    rw [List.countP_pos_iff]
    exact ⟨x, hx, by simp⟩
  constructor
  · rintro ⟨_, _, h3⟩
    refine h3 x (by simp) ?_
    show 1 < (0 : Int) + _
    rw [hc, if_pos rfl]
    omega
  · intro ho
    refine ⟨by simp; omega, fun p hp => ?_, fun p hp hq => ?_⟩
    · rcases List.mem_append.1 hp with hp | hp
      · exact hg.2.1 p hp
      · rw [List.mem_singleton.1 hp]; exact hg.2.1 x hx
    · rcases List.mem_append.1 hp with hp | hp
      · by_cases e : x.f0.toNat = p.f0.toNat
        · have h1 := check_id kind x (hg.2.1 x hx)
          have h2 := check_id kind p (hg.2.1 p hp)
          rw [show p.f0 = x.f0 by omega]; exact ho
        · apply hg.2.2 p hp
          rw [hc, if_neg e] at hq
          exact hq
      · rw [List.mem_singleton.1 hp]; exact ho
theorem more_data {l : List PropT} {x : PropT} (hx : x ∈ l) (h : dataOk l = true) : dataOk (l ++ [x]) = true := by
  have hc : ∀ i, cnt i (l ++ [x]) = cnt i l + if x.f0.toNat = i then 1 else 0 := by
    intro i
    unfold cnt
    rw [List.countP_append, List.countP_cons]
    simp
  have hpos : 0 < cnt x.f0.toNat l := by
    unfold cnt
    rw [List.countP_pos_iff]
    exact ⟨x, hx, by simp⟩
  unfold dataOk at h ⊢
  simp only [Bool.not_eq_true', Bool.and_eq_false_iff, decide_eq_false_iff_not] at h ⊢
  rw [hc, hc]
  by_cases e : x.f0.toNat = 22
  · rw [e] at hpos
    rw [if_pos e]
    rcases h with h | h
    · exact absurd hpos h
    · right; omega
  · rw [if_neg e]
    rcases h with h | h
    · left; omega
    · right; omega
/-- The list without one of its own. -/
theorem split_at (l : List PropT) (t : Int) (h0 : 0 ≤ t) (h1 : t < l.length) : l = l.take t.toNat ++ rd_T27 l t :: l.drop (t + 1).toNat := by
  unfold rd_T27
  rw [List.getD_eq_getElem?_getD, List.getElem?_eq_getElem (show t.toNat < l.length by omega)]
  rw [show (t + 1).toNat = t.toNat + 1 by omega]
  simp
theorem PropTurns : ∀ (a0 : Int) (l1 : List PropT) (a2 : Int), (Lit.int .i64 a0).wf = true → l1.length ≤ maxLen → (∀ x ∈ l1, OkP x) → (Lit.int .i64 a2).wf = true →
    ∃ k, polyglotlaw05_PropTurns.f k a0 l1 a2 = some true := by
  intro a0 l1 a2 _ _ _ hw2
  have hwf := wf_i64 hw2
  refine ⟨2000, ?_⟩
  unfold polyglotlaw05_PropTurns.f
  rw [lives5_f]
  simp only [Option.bind_some, if_true]
  have hj0 : polyglotlaw05_PropTurns.j0 2000 a0 l1 a2 true = some true := by
    rw [show (2000 : Nat) = 1999 + 1 from rfl, polyglotlaw05_PropTurns.j0.eq_def]
    simp only [if_true]
  rcases light_f 2000 l1 (by omega) with hl | ⟨hl, hlen⟩
  · rw [hl]
    simp only [Option.bind_some, Bool.false_eq_true, if_false]
    exact hj0
  rw [hl]
  simp only [Option.bind_some, if_true, valid5_f]
  by_cases hv : (bytesS a0 l1).2 = 0
  rotate_left
  · rw [if_neg hv]; exact hj0
  rw [if_pos hv]
  by_cases hz : (l1.length : Int) = 0
  · rw [if_pos hz]; exact hj0
  rw [if_neg hz]
  by_cases h9 : (l1.length : Int) > 900
  · rw [decide_eq_true h9]; exact hj0
  rw [decide_eq_false h9, show (2000 : Nat) = 1999 + 1 from rfl, polyglotlaw05_PropTurns.j0.eq_def]
  simp only [Bool.false_eq_true, if_false]
  obtain ⟨t, ht, ht0, ht1⟩ := pick_f a2 l1.length hwf.1 hwf.2 (by omega) (by omega)
  rw [ht]
  simp only [Option.bind_some]
  rw [if_pos ht0, if_pos (by omega), own_f _ (by rw [List.length_drop]; omega)]
  simp only [Option.bind_some]
  rw [if_pos (by rw [List.length_drop, List.length_take]; omega)]
  have hperm : (l1.drop t.toNat ++ l1.take t.toNat).Perm l1 := by
    refine List.perm_append_comm.trans ?_
    rw [List.take_append_drop]
  obtain ⟨hg, hd⟩ := bytes_ok.1 hv
  have hb1 := bytes_of hv
  have hv2 : (bytesS a0 (l1.drop t.toNat ++ l1.take t.toNat)).2 = 0 := bytes_ok.2 ⟨good_perm hperm.symm hg, by rw [data_perm hperm]; exact hd⟩
  have hb2 := bytes_of hv2
  have hx := rd_mem l1 t ht0 ht1
  have hck : ∀ k, 2 ≤ k → prop_Check.f k a0 (rd_T27 l1 t).f0 (rd_T27 l1 t).f1 (rd_T27 l1 t).f2 (rd_T27 l1 t).f3 = some 0 := by
    intro k hk
    have := check_f (k - 2) (ruleOf (rd_T27 l1 t).f0) a0 (rd_T27 l1 t)
    rw [show k - 2 + 2 = k by omega, hg.2.1 _ hx] at this
    exact this
  unfold prop_Bytes.f
  simp only [Option.bind_some]
  rw [if_pos hv, if_pos hv2]
  rw [if_pos (by rw [hb1, hb2, enc_perm hperm]; simp only [ByteArray.size_append, strOfNums_size, enc_perm hperm])]
  rw [if_pos ht1, hck 1999 (by omega)]
  simp only [Option.bind_some, bne_self_eq_false]
  rw [show (1999 : Nat) = 1998 + 1 from rfl, polyglotlaw05_PropTurns.j1.eq_def]
  simp only [Bool.false_eq_true, if_false]
  have hw : wrap64 (t + 1) = t + 1 := w64 _ (by omega) (by omega)
  rw [if_pos ht0, if_pos (by omega), own_f _ (by rw [List.length_take]; omega), hw]
  simp only [Option.bind_some]
  rw [if_pos (by omega), if_pos (by omega), if_pos (by rw [List.length_take, List.length_drop]; omega), if_pos ht1]
  have hj2 : ∀ s, polyglotlaw05_PropTurns.j2 1998 a0 l1 t s false = some true := by
    intro s
    rw [show (1998 : Nat) = 1997 + 1 from rfl, polyglotlaw05_PropTurns.j2.eq_def]
    simp only [Bool.false_eq_true, if_false]
    rw [own_f _ hlen]
    simp only [Option.bind_some]
    rw [if_pos ht0, if_pos ht1, if_pos (by simp; omega), many_f a0 _ (hg.2.1 _ hx), valid5_f]
    simp only [Option.bind_some]
    rw [if_pos]
    have hm := more_good hx (by omega) hg
    have hmd := more_data hx hd
    have : ((bytesS a0 (l1 ++ [rd_T27 l1 t])).2 = 0) ↔ oftenB a0 (rd_T27 l1 t).f0 = true := by
      rw [bytes_ok, hm, hmd]; simp
    have e : ([(⟨(rd_T27 l1 t).f0, (rd_T27 l1 t).f1, (rd_T27 l1 t).f2, (rd_T27 l1 t).f3⟩ : S27)] : List PropT) = [rd_T27 l1 t] := rfl
    rw [e]
    cases ho : oftenB a0 (rd_T27 l1 t).f0 with
    | true => rw [this.2 ho]; rfl
    | false =>
      have hn : ¬ (bytesS a0 (l1 ++ [rd_T27 l1 t])).2 = 0 := fun q => by rw [this.1 q] at ho; exact absurd ho (by simp)
      rw [beq_eq_false_iff_ne.2 hn]; rfl
  by_cases h21 : (rd_T27 l1 t).f0 = 21
  · rw [if_pos h21]; exact hj2 _
  rw [if_neg h21]
  have hless : (bytesS a0 (l1.take t.toNat ++ l1.drop (t + 1).toNat)).2 = 0 := by
    have hsp := split_at l1 t ht0 ht1
    refine bytes_ok.2 ⟨good_sub ?_ hg, ?_⟩
    · refine List.Sublist.trans ?_ (show (l1.take t.toNat ++ rd_T27 l1 t :: l1.drop (t + 1).toNat).Sublist l1 by rw [← hsp]; exact List.Sublist.refl _)
      exact List.Sublist.append_left (List.sublist_cons_self _ _) _
    · have hc : ∀ i, cnt i l1 = cnt i (l1.take t.toNat ++ l1.drop (t + 1).toNat) + if (rd_T27 l1 t).f0.toNat = i then 1 else 0 := by
        intro i
        conv => lhs; rw [hsp]
        unfold cnt
        rw [List.countP_append, List.countP_append, List.countP_cons]
        simp
        omega
      have hid := check_id a0 _ (hg.2.1 _ hx)
      have h22 := hc 22
      have hc21 := hc 21
      rw [if_neg (by omega)] at hc21
      unfold dataOk at hd ⊢
      simp only [Bool.not_eq_true', Bool.and_eq_false_iff, decide_eq_false_iff_not] at hd ⊢
      rcases hd with hd | hd
      · left; omega
      · right; omega
  rw [valid5_f]
  simp only [Option.bind_some, hless, bne_self_eq_false]
  exact hj2 _
end Go.Proofs.Ytngmipfobcaojaa.Pure
end

-- YtngmipfobcaojaaLawPropTurns
section
/- The row of the law PropTurns, out of its plain law and the walk of its function. -/
namespace Go.Proofs.Ytngmipfobcaojaa.propTurns
open Go.ChangeShapes Go.WideShapes Go.ChangeAt Go.RowKit Go.Proofs.Ytngmipfobcaojaa.HA
open Go.ChangeMaps (open_string shut_string)
set_option linter.unusedVariables false
theorem own : ownKnob Try.prog.godebug = none := by kernel_rfl
theorem laidOut : laidOutB Try.prog = true := by kernel_rfl
set_option maxRecDepth 100000 in
theorem lifted (os : Os) (started : os.Started) (H : Type) (enc : TypeId × Value → H) :
    ReturnsInHanded {} Try.checked os 4 .any (Rows.propTurnsSpec.pre6 enc Try.prog Try.f4 Rows.propTurnsRow.domain false) (Rows.propTurnsSpec.post enc Try.prog Try.f4 false true false false) := by
  refine returnsInHanded_of_change_sized (C := Try.checked) own started (by kernel_rfl) Try.func4
    (ChangeSpec.witness6 (enc := enc) (C := Try.checked) false ⟨#[], #[.int .i64 0, .slice none 0 0, .int .i64 0], []⟩ 8 (by kernel_rfl) (by kernel_rfl) (by kernel_rfl) (by kernel_rfl)) ?_
  intro W base args ds gs before hval0 hW hcnd hsz0 _
  have hsz : (DataW.weightsEach Try.prog (Try.f4.params.toList ++ Rows.propTurnsSpec.plain.varTypes Try.prog) (ds ++ gs)).all (· ≤ reachBytes) = true := hsz0
  have hval : ∀ (j : Nat) t v, Try.f4.params[j]? = some t → args[j]? = some v → Value.okWide Try.prog W .any base t v := hval0
  have hW' := hW
  obtain ⟨p, q, hA0, hV, rfl, hfz, hnd⟩ := hW
  have hA : DataW.TrodAll enc Try.prog W 0 (fun _ => true) true Try.f4.params.toList args.toList ds p := hA0
  rw [Try.params4] at hA hval hsz
  obtain ⟨v0, vs0, d0, ds0, p0, q0, hargs, rfl, rfl, h0, r0⟩ := trodAll_cons hA
  obtain ⟨v1, vs1, d1, ds1, p1, q1, rfl, rfl, rfl, h1, r1⟩ := trodAll_cons r0
  obtain ⟨v2, vs2, d2, ds2, p2, q2, rfl, rfl, rfl, h2, r2⟩ := trodAll_cons r1
  obtain ⟨rfl, rfl, rfl⟩ := trodAll_nil r2
  obtain rfl : args = #[v0, v1, v2] := by cases args; simp_all
  obtain ⟨rfl, rfl⟩ := trodVars_none hV
  obtain ⟨a0, rfl, rfl, rfl, w0⟩ := open_int Try.underlying3 (hval 0 3 v0 rfl rfl) h0
  obtain ⟨a1, len1, cap1, rfl⟩ := okWide_slice Try.underlying32 (hval 1 32 v1 rfl rfl)
  have k1 := h1
  have lt1 : ∀ x ∈ p1, x.block < W.heap.size := by obtain ⟨m, hm⟩ := k1; exact DataW.trod_lt m _ _ _ hm
  obtain ⟨l1, hC1, rfl, hc1, m1, ok1⟩ := open_props h1
  obtain ⟨a2, rfl, rfl, rfl, w2⟩ := open_int Try.underlying3 (hval 2 3 v2 rfl rfl) h2
  clear hA0 hval0 hsz0 hsz
  obtain ⟨k, hk⟩ := Pure.PropTurns a0 l1 a2 w0 m1 ok1 w2
  refine (polyglotlaw05_PropTurns.calls k a0 a1 cap1 l1 a2 true W hC1 hc1 hk).mono fun e W' ⟨he, bel⟩ => ?_
  subst he
  exact ⟨_, rfl, _, _, _, [], _, [], hW', trodAll_mk1 (shut_bool Try.underlying4 _), (trodAll_cons_mk (shut_int Try.underlying3 w0) (trodAll_cons_mk (Below.trod laidOut (by kernel_rfl) (of_decide_eq_true (by kernel_rfl)) k1 bel lt1) (trodAll_cons_mk (shut_int Try.underlying3 w2) trodAll_mk0))), rfl, bel.frame _, fun h => by cases h⟩
theorem over : Rows.propTurnsRow.holds Try.pinned (OpenSpec.ofChange Rows.propTurnsSpec) :=
  OpenClaim.holds_of_wide 4 Try.f4 rfl rfl rfl rfl rfl rfl rfl ⟨rfl, rfl, rfl, rfl, rfl⟩ rfl rfl rfl rfl rfl (by kernel_rfl) Try.func4 (by kernel_rfl)
    (of_decide_eq_true (by kernel_rfl)) (by unfold Func.isWrapper; first | (rw [if_pos (by decide +kernel)]; kernel_rfl) | (rw [if_neg (by decide +kernel)]; exact ⟨rfl, rfl⟩))
    (fun os started H enc _ => lifted os started H enc)
theorem proved : Rows.PropTurnsSaid := over
#print axioms proved
end Go.Proofs.Ytngmipfobcaojaa.propTurns
namespace Go.Proofs.Ytngmipfobcaojaa
/-- The row, under a short name, for the claim. -/
theorem propTurns_holds : Rows.PropTurnsSaid := propTurns.proved
end Go.Proofs.Ytngmipfobcaojaa
end
