/- The bytes of a list of properties, truncated, are short; with their length increased by one and one more byte they are not valid: for every kind, list of at most 127 bytes and cut. -/
import Derived.Test.YtngmipfobcaojaaCPropShort3
import Derived.Test.YtngmipfobcaojaaCPropShort4
import Derived.Laws.Bits64b
import Derived.Laws.Bits128
import Derived.Lib.SmallJoins
import Derived.Deep.Slices
import Derived.DataReads
import Derived.ChangeArms
import Derived.Test.YtngmipfobcaojaaRows
import Derived.WalkKit
import Derived.ProofKit
import Derived.OpenShut
import Derived.ShutString
import Derived.ChangeOld
import Derived.Below
import Derived.SizedLaws

-- YtngmipfobcaojaaHA76
section
-- Written by hp.py (a driver over the kit's print). Not trusted: Lean checks it.
namespace Go.Proofs.Ytngmipfobcaojaa.HA
open Go.RowKit Go.Proofs.YtngmipfobcaojaaW.PrintWords Go.Proofs.YtngmipfobcaojaaW.PrintLast Go.Proofs.YtngmipfobcaojaaW.PrintMore
attribute [local go_sem] max2_int min2_int max_two min_two max_three min_three max_four min_four   -- for this text's walks alone
set_option linter.unusedVariables false
set_option linter.unusedSimpArgs false

/-! ### prop_Read: function 27 -/
def prop_Read.f (k : Nat) (a0 : Int) (a1 : ByteArray) : Option ((List (S27)) × Int × Int) := (varint_Read.f k a1).bind fun bt304 => (if bt304.2.2 = 0 then (if bt304.1 > (wrap64 ((a1.size : Int) - bt304.2.1)) then (some (([] : List (S27)), 0, 3)) else (if 0 ≤ bt304.2.1 then (if bt304.2.1 ≤ (wrap64 (bt304.2.1 + bt304.1)) then (if (wrap64 (bt304.2.1 + bt304.1)) ≤ (a1.size : Int) then ((prop_list.f a0 (a1.extract (bt304.2.1 : Int).toNat ((wrap64 (bt304.2.1 + bt304.1)) : Int).toNat)).bind fun bt307 => (if bt307.2 = 0 then (some (bt307.1, wrap64 (bt304.2.1 + bt304.1), 0)) else (some (([] : List (S27)), 0, bt307.2)))) else (none)) else (none)) else (none))) else (some (([] : List (S27)), 0, bt304.2.2)))
theorem prop_Read.mono : ∀ a0 a1 k, LeO (prop_Read.f k a0 a1) (prop_Read.f (k + 1) a0 a1) := by
  intro a0 a1 k
  unfold prop_Read.f
  repeat' first
      | (with_reducible exact varint_Read.mono _ _)
      | (with_reducible exact LeO.refl _)
      | (with_reducible exact LeO.none _)
      | (with_reducible refine LeO.ite ?_ ?_)
      | (with_reducible refine LeO.bind ?_ (fun _ => ?_))
      | exact varint_Read.mono _ _
      | exact LeO.none _
      | refine LeO.ite ?_ ?_
      | refine LeO.bind ?_ (fun _ => ?_)
set_option maxHeartbeats 8000000 in
set_option maxRecDepth 100000 in
theorem prop_Read.calls (k : Nat) (a0 : Int) (a1 : ByteArray) (r1 : List (S27)) (r2 : Int) (r3 : Int) (w : World) (h : prop_Read.f k a0 a1 = some (r1, r2, r3)) :
    Calls Try.prog 27 #[.int .i64 a0, .string a1] w fun e w' => ∃ v0_ : Value, e = .returned (.tuple #[v0_, .int .i64 r2, .int .i64 r3]) ∧ Kd.R k27 27 w' w.heap.size (fun _ => True) v0_ r1 ∧ Below w.heap.size w w' := by
  have HB := Aside0.mk (Below.refl w.heap.size w)
  have H : ((varint_Read.f k a1).bind fun bt304 => (if bt304.2.2 = 0 then (if bt304.1 > (wrap64 ((a1.size : Int) - bt304.2.1)) then (some (([] : List (S27)), 0, 3)) else (if 0 ≤ bt304.2.1 then (if bt304.2.1 ≤ (wrap64 (bt304.2.1 + bt304.1)) then (if (wrap64 (bt304.2.1 + bt304.1)) ≤ (a1.size : Int) then ((prop_list.f a0 (a1.extract (bt304.2.1 : Int).toNat ((wrap64 (bt304.2.1 + bt304.1)) : Int).toNat)).bind fun bt307 => (if bt307.2 = 0 then (some (bt307.1, wrap64 (bt304.2.1 + bt304.1), 0)) else (some (([] : List (S27)), 0, bt307.2)))) else (none)) else (none)) else (none))) else (some (([] : List (S27)), 0, bt304.2.2)))) = some (r1, r2, r3) := h
  clear h
  replace H := Option.bind_eq_some_iff.mp H
  obtain ⟨⟨t304, t305, t306⟩, A30, H⟩ := H
  replace H : (if t306 = 0 then (if t304 > (wrap64 ((a1.size : Int) - t305)) then (some (([] : List (S27)), 0, 3)) else (if 0 ≤ t305 then (if t305 ≤ (wrap64 (t305 + t304)) then (if (wrap64 (t305 + t304)) ≤ (a1.size : Int) then ((prop_list.f a0 (a1.extract (t305 : Int).toNat ((wrap64 (t305 + t304)) : Int).toNat)).bind fun bt307 => (if bt307.2 = 0 then (some (bt307.1, wrap64 (t305 + t304), 0)) else (some (([] : List (S27)), 0, bt307.2)))) else (none)) else (none)) else (none))) else (some (([] : List (S27)), 0, t306))) = some (r1, r2, r3) := H
  have A3 := Aside0.mk A30
  clear A30
  by_cases c4 : t306 = 0
  · rw [if_pos c4] at H
    have c4b0 : (t306 == 0) = true := beq_iff_eq.mpr c4
    have c4b1 : (t306 != 0) = false := bne_eq_false_iff_eq.mpr c4
    clear c4
    by_cases c5 : t304 > (wrap64 ((a1.size : Int) - t305))
    · rw [if_pos c5] at H
      have c5b0 : decide ((wrap64 ((a1.size : Int) - t305)) < t304) = true := decide_eq_true c5
      clear c5
      simp only [Option.some.injEq, Prod.mk.injEq] at H
      obtain ⟨rfl, rfl, rfl⟩ := H
      go_enter Try.func27, Try.ntmps27
      go_wp2_with (first | ((with_reducible refine gate_callee (f := 57) rfl ?_); refine goesL_ (some 10) rfl rfl Try.func57 (by kernel_rfl) rfl #[.string a1] rfl (by (try simp only [List.map_toArray, List.map_cons, List.map_nil]); first | done | rfl | (simp only [List.length_drop, List.length_take]; rfl)) ?_; (with_reducible refine (varint_Read.calls k a1 t304 t305 t306 _ A3.out).mono ?_); rintro e w6 ⟨rfl, hb⟩; refine ⟨_, rfl, ?_⟩; have n0_ := Aside0.mk (below_step (by repeat (first | (with_reducible first | exact HB.out | apply below_alloc | apply pw_below_drewN | apply below_drew1) | exact HB.out)) hb); clear HB; have HB := n0_; clear n0_; (try clear hb); (try clear hb2); (try clear hk); (try clear hi)))
      go_ret3
      exact ⟨_, by first | rfl | (simp [errW_none, errW_some] <;> rfl) | (simp [*, errW_none, errW_some] <;> rfl), by first | exact Kd.R_nil _ _ _ _ _ | exact Kd.N_nil _ _ _ _ _ | exact Kd.V_nil _ _ _ _ _ | exact Kd.Q_nil _ _ _ _ _ | exact Kd.S_nil _ _ _ _ _, by repeat (first | (with_reducible first | exact HB.out | apply below_alloc | apply pw_below_drewN | apply below_drew1) | exact HB.out)⟩
    · rw [if_neg c5] at H
      have c5b0 : decide ((wrap64 ((a1.size : Int) - t305)) < t304) = false := decide_eq_false c5
      clear c5
      by_cases c7 : 0 ≤ t305
      · rw [if_pos c7] at H
        have c7b0 := eq_true c7
        have c7b1 : decide (0 ≤ t305) = true := decide_eq_true c7
        clear c7
        by_cases c8 : t305 ≤ (wrap64 (t305 + t304))
        · rw [if_pos c8] at H
          have c8b0 := eq_true c8
          have c8b1 : decide (t305 ≤ (wrap64 (t305 + t304))) = true := decide_eq_true c8
          by_cases c9 : (wrap64 (t305 + t304)) ≤ (a1.size : Int)
          · rw [if_pos c9] at H
            have c9b0 := eq_true c9
            have c9b1 : decide ((wrap64 (t305 + t304)) ≤ (a1.size : Int)) = true := decide_eq_true c9
            replace H := Option.bind_eq_some_iff.mp H
            obtain ⟨⟨t307, t308⟩, A100, H⟩ := H
            replace H : (if t308 = 0 then (some (t307, wrap64 (t305 + t304), 0)) else (some (([] : List (S27)), 0, t308))) = some (r1, r2, r3) := H
            have A10 := Aside0.mk A100
            clear A100
            by_cases c11 : t308 = 0
            · rw [if_pos c11] at H
              have c11b0 : (t308 == 0) = true := beq_iff_eq.mpr c11
              have c11b1 : (t308 != 0) = false := bne_eq_false_iff_eq.mpr c11
              clear c11
              simp only [Option.some.injEq, Prod.mk.injEq] at H
              obtain ⟨rfl, rfl, rfl⟩ := H
              go_enter Try.func27, Try.ntmps27
              go_wp2_with (first | ((with_reducible refine gate_callee (f := 57) rfl ?_); refine goesL_ (some 10) rfl rfl Try.func57 (by kernel_rfl) rfl #[.string a1] rfl (by (try simp only [List.map_toArray, List.map_cons, List.map_nil]); first | done | rfl | (simp only [List.length_drop, List.length_take]; rfl)) ?_; (with_reducible refine (varint_Read.calls k a1 t304 t305 t306 _ A3.out).mono ?_); rintro e w12 ⟨rfl, hb⟩; refine ⟨_, rfl, ?_⟩; have n0_ := Aside0.mk (below_step (by repeat (first | (with_reducible first | exact HB.out | apply below_alloc | apply pw_below_drewN | apply below_drew1) | exact HB.out)) hb); clear HB; have HB := n0_; clear n0_; (try clear hb); (try clear hb2); (try clear hk); (try clear hi)) | ((with_reducible refine gate_callee (f := 58) rfl ?_); refine goesL_ (some 31) rfl rfl Try.func58 (by kernel_rfl) rfl #[.int .i64 a0, .string (a1.extract (t305 : Int).toNat ((wrap64 (t305 + t304)) : Int).toNat)] rfl (by (try simp only [List.map_toArray, List.map_cons, List.map_nil]); first | done | rfl | (simp only [List.length_drop, List.length_take]; rfl)) ?_; (with_reducible refine (prop_list.calls a0 (a1.extract (t305 : Int).toNat ((wrap64 (t305 + t304)) : Int).toNat) t307 t308 _ A10.out).mono ?_); rintro e w13 ⟨v309, rfl, ho0, hb⟩; refine ⟨_, rfl, ?_⟩; have n0_ := Aside0.mk (Kd.R_lower ho0 (below_size (by repeat (first | (with_reducible first | exact HB.out | apply below_alloc | apply pw_below_drewN | apply below_drew1) | exact HB.out)))); have n1_ := Aside0.mk (below_step (by repeat (first | (with_reducible first | exact HB.out | apply below_alloc | apply pw_below_drewN | apply below_drew1) | exact HB.out)) hb); clear HB; have HO310 := n0_; have HB := n1_; clear n0_ n1_; (try clear hb); (try clear hb2); (try clear hk); (try clear hi); (try clear ho0)))
              go_ret3
              exact ⟨_, by first | rfl | (simp [errW_none, errW_some] <;> rfl) | (simp [*, errW_none, errW_some] <;> rfl), by (with_reducible repeat (first | apply Kd.R_alloc | apply Kd.R_drewN | apply Kd.R_drew)); exact HO310.out, by repeat (first | (with_reducible first | exact HB.out | apply below_alloc | apply pw_below_drewN | apply below_drew1) | exact HB.out)⟩
            · rw [if_neg c11] at H
              have c11b0 : (t308 == 0) = false := beq_eq_false_iff_ne.mpr c11
              have c11b1 : (t308 != 0) = true := bne_iff_ne.mpr c11
              simp only [Option.some.injEq, Prod.mk.injEq] at H
              obtain ⟨rfl, rfl, rfl⟩ := H
              go_enter Try.func27, Try.ntmps27
              go_wp2_with (first | ((with_reducible refine gate_callee (f := 57) rfl ?_); refine goesL_ (some 10) rfl rfl Try.func57 (by kernel_rfl) rfl #[.string a1] rfl (by (try simp only [List.map_toArray, List.map_cons, List.map_nil]); first | done | rfl | (simp only [List.length_drop, List.length_take]; rfl)) ?_; (with_reducible refine (varint_Read.calls k a1 t304 t305 t306 _ A3.out).mono ?_); rintro e w14 ⟨rfl, hb⟩; refine ⟨_, rfl, ?_⟩; have n0_ := Aside0.mk (below_step (by repeat (first | (with_reducible first | exact HB.out | apply below_alloc | apply pw_below_drewN | apply below_drew1) | exact HB.out)) hb); clear HB; have HB := n0_; clear n0_; (try clear hb); (try clear hb2); (try clear hk); (try clear hi)) | ((with_reducible refine gate_callee (f := 58) rfl ?_); refine goesL_ (some 31) rfl rfl Try.func58 (by kernel_rfl) rfl #[.int .i64 a0, .string (a1.extract (t305 : Int).toNat ((wrap64 (t305 + t304)) : Int).toNat)] rfl (by (try simp only [List.map_toArray, List.map_cons, List.map_nil]); first | done | rfl | (simp only [List.length_drop, List.length_take]; rfl)) ?_; (with_reducible refine (prop_list.calls a0 (a1.extract (t305 : Int).toNat ((wrap64 (t305 + t304)) : Int).toNat) t307 t308 _ A10.out).mono ?_); rintro e w15 ⟨v309, rfl, ho0, hb⟩; refine ⟨_, rfl, ?_⟩; have n0_ := Aside0.mk (Kd.R_lower ho0 (below_size (by repeat (first | (with_reducible first | exact HB.out | apply below_alloc | apply pw_below_drewN | apply below_drew1) | exact HB.out)))); have n1_ := Aside0.mk (below_step (by repeat (first | (with_reducible first | exact HB.out | apply below_alloc | apply pw_below_drewN | apply below_drew1) | exact HB.out)) hb); clear HB; have HO310 := n0_; have HB := n1_; clear n0_ n1_; (try clear hb); (try clear hb2); (try clear hk); (try clear hi); (try clear ho0)))
              go_ret3
              exact ⟨_, by first | rfl | (simp [errW_none, errW_some] <;> rfl) | (simp [*, errW_none, errW_some] <;> rfl), by first | exact Kd.R_nil _ _ _ _ _ | exact Kd.N_nil _ _ _ _ _ | exact Kd.V_nil _ _ _ _ _ | exact Kd.Q_nil _ _ _ _ _ | exact Kd.S_nil _ _ _ _ _, by repeat (first | (with_reducible first | exact HB.out | apply below_alloc | apply pw_below_drewN | apply below_drew1) | exact HB.out)⟩
          · rw [if_neg c9] at H
            exact absurd H (by simp)
        · rw [if_neg c8] at H
          exact absurd H (by simp)
      · rw [if_neg c7] at H
        exact absurd H (by simp)
  · rw [if_neg c4] at H
    have c4b0 : (t306 == 0) = false := beq_eq_false_iff_ne.mpr c4
    have c4b1 : (t306 != 0) = true := bne_iff_ne.mpr c4
    simp only [Option.some.injEq, Prod.mk.injEq] at H
    obtain ⟨rfl, rfl, rfl⟩ := H
    go_enter Try.func27, Try.ntmps27
    go_wp2_with (first | ((with_reducible refine gate_callee (f := 57) rfl ?_); refine goesL_ (some 10) rfl rfl Try.func57 (by kernel_rfl) rfl #[.string a1] rfl (by (try simp only [List.map_toArray, List.map_cons, List.map_nil]); first | done | rfl | (simp only [List.length_drop, List.length_take]; rfl)) ?_; (with_reducible refine (varint_Read.calls k a1 t304 t305 t306 _ A3.out).mono ?_); rintro e w16 ⟨rfl, hb⟩; refine ⟨_, rfl, ?_⟩; have n0_ := Aside0.mk (below_step (by repeat (first | (with_reducible first | exact HB.out | apply below_alloc | apply pw_below_drewN | apply below_drew1) | exact HB.out)) hb); clear HB; have HB := n0_; clear n0_; (try clear hb); (try clear hb2); (try clear hk); (try clear hi)))
    go_ret3
    exact ⟨_, by first | rfl | (simp [errW_none, errW_some] <;> rfl) | (simp [*, errW_none, errW_some] <;> rfl), by first | exact Kd.R_nil _ _ _ _ _ | exact Kd.N_nil _ _ _ _ _ | exact Kd.V_nil _ _ _ _ _ | exact Kd.Q_nil _ _ _ _ _ | exact Kd.S_nil _ _ _ _ _, by repeat (first | (with_reducible first | exact HB.out | apply below_alloc | apply pw_below_drewN | apply below_drew1) | exact HB.out)⟩

end Go.Proofs.Ytngmipfobcaojaa.HA
end

-- YtngmipfobcaojaaHA77
section
-- Written by hp.py (a driver over the kit's print). Not trusted: Lean checks it.
namespace Go.Proofs.Ytngmipfobcaojaa.HA
open Go.RowKit Go.Proofs.YtngmipfobcaojaaW.PrintWords Go.Proofs.YtngmipfobcaojaaW.PrintLast Go.Proofs.YtngmipfobcaojaaW.PrintMore
attribute [local go_sem] max2_int min2_int max_two min_two max_three min_three max_four min_four   -- for this text's walks alone
set_option linter.unusedVariables false
set_option linter.unusedSimpArgs false

/-! ### polyglotref02_Size: function 59 -/
def polyglotref02_Size.j0 : Nat → Int → Bool → Option (Int)
  | 0, _, _ => none
  | k + 1, x0, x3 => if x3 = true then (some 0) else (if x0 < 128 then (some 1) else (if x0 < 16384 then (some 2) else (if x0 < 2097152 then (some 3) else (some 4))))
def polyglotref02_Size.f (k : Nat) (a0 : Int) : Option (Int) := if a0 < 0 then (polyglotref02_Size.j0 k a0 true) else (polyglotref02_Size.j0 k a0 (decide (a0 > 268435455)))
theorem polyglotref02_Size.mono_l : ∀ k, (∀ y0 y1, LeO (polyglotref02_Size.j0 k y0 y1) (polyglotref02_Size.j0 (k + 1) y0 y1))
  | 0 => fun _ _ r h => by simp [polyglotref02_Size.j0] at h
  | k + 1 => by
    have ih0 := polyglotref02_Size.mono_l k
    · intro y0 y1
      unfold polyglotref02_Size.j0
      repeat' first
      | (with_reducible exact ih0 _ _)
      | (with_reducible exact LeO.refl _)
      | (with_reducible exact LeO.none _)
      | (with_reducible refine LeO.ite ?_ ?_)
      | (with_reducible refine LeO.bind ?_ (fun _ => ?_))
      | exact ih0 _ _
      | exact LeO.none _
      | refine LeO.ite ?_ ?_
      | refine LeO.bind ?_ (fun _ => ?_)
theorem polyglotref02_Size.mono : ∀ a0 k, LeO (polyglotref02_Size.f k a0) (polyglotref02_Size.f (k + 1) a0) := by
  intro a0 k
  have ih0 := polyglotref02_Size.mono_l k
  unfold polyglotref02_Size.f
  repeat' first
      | (with_reducible exact ih0 _ _)
      | (with_reducible exact LeO.refl _)
      | (with_reducible exact LeO.none _)
      | (with_reducible refine LeO.ite ?_ ?_)
      | (with_reducible refine LeO.bind ?_ (fun _ => ?_))
      | exact ih0 _ _
      | exact LeO.none _
      | refine LeO.ite ?_ ?_
      | refine LeO.bind ?_ (fun _ => ?_)
set_option maxHeartbeats 8000000 in
set_option maxRecDepth 100000 in
theorem polyglotref02_Size.calls (k : Nat) (a0 : Int) (r : Int) (w : World) (h : polyglotref02_Size.f k a0 = some r) :
    Calls Try.prog 59 #[.int .i64 a0] w fun e w' => e = .returned (.int .i64 r) ∧ Drawn0 w w' := by
  have H : (if a0 < 0 then (polyglotref02_Size.j0 k a0 true) else (polyglotref02_Size.j0 k a0 (decide (a0 > 268435455)))) = some r := h
  clear h
  have HC2 := Aside0.mk H
  clear H
  go_enter Try.func59, Try.ntmps59
  go_upto_region 1 with (fail)
  go_cut [3] (fun v3 wc => ∃ (kq : Nat) (x3_1 : Bool), v3 = .bool x3_1 ∧ Aside0 (polyglotref02_Size.j0 kq a0 x3_1 = some r) ∧ Aside0 (kq ≤ k) ∧ Drawn0 w wc)
  case first =>
    have H := HC2.out
    clear HC2
    by_cases c3 : a0 < 0
    · rw [if_pos c3] at H
      have c3b0 : decide (a0 < 0) = true := decide_eq_true c3
      clear c3
      (first | rw [c3b0] | (simp only [i64_w, i32_w]; rw [c3b0]) | skip)
      have H' := Aside0.mk H
      clear H
      go_wp2
      go_meet
      case rel => exact ⟨_, (true), (by first | rfl | (simp; done) | (simp [*]; done) | (simp; exact bne_nil_isEmpty _) | exact bne_nil_isEmpty _ | (simp; exact (bne_nil_isEmpty _).symm) | (simp; exact bne_nil_isEmpty' _)), H', ⟨by first | omega | exact Nat.le_refl _⟩, by repeat (first | exact Drawn0.refl _ | apply Drawn0.step)⟩
    · rw [if_neg c3] at H
      have c3b0 : decide (a0 < 0) = false := decide_eq_false c3
      clear c3
      (first | rw [c3b0] | (simp only [i64_w, i32_w]; rw [c3b0]) | skip)
      have H' := Aside0.mk H
      clear H
      go_wp2
      go_meet
      case rel => exact ⟨_, (decide (a0 > 268435455)), (by first | rfl | (simp; done) | (simp [*]; done) | (simp; exact bne_nil_isEmpty _) | exact bne_nil_isEmpty _ | (simp; exact (bne_nil_isEmpty _).symm) | (simp; exact bne_nil_isEmpty' _)), H', ⟨by first | omega | exact Nat.le_refl _⟩, by repeat (first | exact Drawn0.refl _ | apply Drawn0.step)⟩
  case rest =>
    clear HC2
    try clear p2
    try clear c3
    try clear c3b0
    obtain ⟨kq, x3_1, rfl, HA, HJ1, ⟨mc1, rfl⟩⟩ := hcut
    cases kq with
    | zero => exact absurd HA.out (by simp [polyglotref02_Size.j0])
    | succ kj1 =>
      have H := HA.out
      clear HA
      simp only [polyglotref02_Size.j0] at H
      by_cases c4 : x3_1 = true
      · subst c4
        have H1 : (some 0) = some r := by rw [if_pos rfl] at H; exact H
        clear H
        have H := H1
        clear H1
        obtain rfl := Option.some.inj H
        go_wp2
        go_ret
        exact ⟨by first | rfl | (simp; done) | (simp [*]; done) | (simp; exact bne_nil_isEmpty _) | exact bne_nil_isEmpty _ | (simp; exact (bne_nil_isEmpty _).symm) | (simp; exact bne_nil_isEmpty' _), by repeat (first | exact Drawn0.refl _ | apply Drawn0.step)⟩
      · replace c4 := Bool.eq_false_iff.mpr c4
        subst c4
        have H1 : (if a0 < 128 then (some 1) else (if a0 < 16384 then (some 2) else (if a0 < 2097152 then (some 3) else (some 4)))) = some r := by rw [if_neg (show ¬ (false = true) by decide)] at H; exact H
        clear H
        have H := H1
        clear H1
        by_cases c5 : a0 < 128
        · rw [if_pos c5] at H
          have c5b0 : decide (a0 < 128) = true := decide_eq_true c5
          clear c5
          obtain rfl := Option.some.inj H
          go_wp2
          go_ret
          exact ⟨by first | rfl | (simp; done) | (simp [*]; done) | (simp; exact bne_nil_isEmpty _) | exact bne_nil_isEmpty _ | (simp; exact (bne_nil_isEmpty _).symm) | (simp; exact bne_nil_isEmpty' _), by repeat (first | exact Drawn0.refl _ | apply Drawn0.step)⟩
        · rw [if_neg c5] at H
          have c5b0 : decide (a0 < 128) = false := decide_eq_false c5
          clear c5
          by_cases c6 : a0 < 16384
          · rw [if_pos c6] at H
            have c6b0 : decide (a0 < 16384) = true := decide_eq_true c6
            clear c6
            obtain rfl := Option.some.inj H
            go_wp2
            go_ret
            exact ⟨by first | rfl | (simp; done) | (simp [*]; done) | (simp; exact bne_nil_isEmpty _) | exact bne_nil_isEmpty _ | (simp; exact (bne_nil_isEmpty _).symm) | (simp; exact bne_nil_isEmpty' _), by repeat (first | exact Drawn0.refl _ | apply Drawn0.step)⟩
          · rw [if_neg c6] at H
            have c6b0 : decide (a0 < 16384) = false := decide_eq_false c6
            clear c6
            by_cases c7 : a0 < 2097152
            · rw [if_pos c7] at H
              have c7b0 : decide (a0 < 2097152) = true := decide_eq_true c7
              clear c7
              obtain rfl := Option.some.inj H
              go_wp2
              go_ret
              exact ⟨by first | rfl | (simp; done) | (simp [*]; done) | (simp; exact bne_nil_isEmpty _) | exact bne_nil_isEmpty _ | (simp; exact (bne_nil_isEmpty _).symm) | (simp; exact bne_nil_isEmpty' _), by repeat (first | exact Drawn0.refl _ | apply Drawn0.step)⟩
            · rw [if_neg c7] at H
              have c7b0 : decide (a0 < 2097152) = false := decide_eq_false c7
              clear c7
              obtain rfl := Option.some.inj H
              go_wp2
              go_ret
              exact ⟨by first | rfl | (simp; done) | (simp [*]; done) | (simp; exact bne_nil_isEmpty _) | exact bne_nil_isEmpty _ | (simp; exact (bne_nil_isEmpty _).symm) | (simp; exact bne_nil_isEmpty' _), by repeat (first | exact Drawn0.refl _ | apply Drawn0.step)⟩

end Go.Proofs.Ytngmipfobcaojaa.HA
end

-- YtngmipfobcaojaaHA78
section
-- Written by hp.py (a driver over the kit's print). Not trusted: Lean checks it.
namespace Go.Proofs.Ytngmipfobcaojaa.HA
open Go.RowKit Go.Proofs.YtngmipfobcaojaaW.PrintWords Go.Proofs.YtngmipfobcaojaaW.PrintLast Go.Proofs.YtngmipfobcaojaaW.PrintMore
attribute [local go_sem] max2_int min2_int max_two min_two max_three min_three max_four min_four   -- for this text's walks alone
set_option linter.unusedVariables false
set_option linter.unusedSimpArgs false

/-! ### polyglotref02_Bytes: function 28 -/
def polyglotref02_Bytes.l0 : Nat → Int → Int → List Int → Int → Option (ByteArray × Int)
  | 0, _, _, _, _ => none
  | k + 1, x0, x4, x5, x6 => if x6 < x4 then (if (wrap64 (x6 + 1)) < x4 then (if x5.length < 140737488355328 then (polyglotref02_Bytes.l0 k (wrap64 (Int.tdiv x0 128)) x4 (x5 ++ [((Int.tmod x0 128) + 128) % 256]) (wrap64 (x6 + 1))) else (none)) else (if x5.length < 140737488355328 then (polyglotref02_Bytes.l0 k (wrap64 (Int.tdiv x0 128)) x4 (x5 ++ [(Int.tmod x0 128) % 256]) (wrap64 (x6 + 1))) else (none))) else (some (strOfNums x5, 0))
def polyglotref02_Bytes.f (k : Nat) (a0 : Int) : Option (ByteArray × Int) := (polyglotref02_Size.f k a0).bind fun t311 => (if t311 = 0 then (some ((⟨#[]⟩ : ByteArray), 2)) else (polyglotref02_Bytes.l0 k a0 t311 ([] : List Int) 0))
theorem polyglotref02_Bytes.mono_l : ∀ k, (∀ y0 y1 y2 y3, LeO (polyglotref02_Bytes.l0 k y0 y1 y2 y3) (polyglotref02_Bytes.l0 (k + 1) y0 y1 y2 y3))
  | 0 => fun _ _ _ _ r h => by simp [polyglotref02_Bytes.l0] at h
  | k + 1 => by
    have ih0 := polyglotref02_Bytes.mono_l k
    · intro y0 y1 y2 y3
      unfold polyglotref02_Bytes.l0
      repeat' first
      | (with_reducible exact ih0 _ _ _ _)
      | (with_reducible exact polyglotref02_Size.mono _ _)
      | (with_reducible exact LeO.refl _)
      | (with_reducible exact LeO.none _)
      | (with_reducible refine LeO.ite ?_ ?_)
      | (with_reducible refine LeO.bind ?_ (fun _ => ?_))
      | exact ih0 _ _ _ _
      | exact polyglotref02_Size.mono _ _
      | exact LeO.none _
      | refine LeO.ite ?_ ?_
      | refine LeO.bind ?_ (fun _ => ?_)
theorem polyglotref02_Bytes.mono : ∀ a0 k, LeO (polyglotref02_Bytes.f k a0) (polyglotref02_Bytes.f (k + 1) a0) := by
  intro a0 k
  have ih0 := polyglotref02_Bytes.mono_l k
  unfold polyglotref02_Bytes.f
  repeat' first
      | (with_reducible exact ih0 _ _ _ _)
      | (with_reducible exact polyglotref02_Size.mono _ _)
      | (with_reducible exact LeO.refl _)
      | (with_reducible exact LeO.none _)
      | (with_reducible refine LeO.ite ?_ ?_)
      | (with_reducible refine LeO.bind ?_ (fun _ => ?_))
      | exact ih0 _ _ _ _
      | exact polyglotref02_Size.mono _ _
      | exact LeO.none _
      | refine LeO.ite ?_ ?_
      | refine LeO.bind ?_ (fun _ => ?_)
set_option maxHeartbeats 8000000 in
set_option maxRecDepth 100000 in
theorem polyglotref02_Bytes.calls (k : Nat) (a0 : Int) (r1 : ByteArray) (r2 : Int) (w : World) (h : polyglotref02_Bytes.f k a0 = some (r1, r2)) :
    Calls Try.prog 28 #[.int .i64 a0] w fun e w' => e = .returned (.tuple #[.string r1, .int .i64 r2]) ∧ Below w.heap.size w w' := by
  have HB := Aside0.mk (Below.refl w.heap.size w)
  have H : ((polyglotref02_Size.f k a0).bind fun t311 => (if t311 = 0 then (some ((⟨#[]⟩ : ByteArray), 2)) else (polyglotref02_Bytes.l0 k a0 t311 ([] : List Int) 0))) = some (r1, r2) := h
  clear h
  replace H := Option.bind_eq_some_iff.mp H
  obtain ⟨t311, A20, H⟩ := H
  replace H : (if t311 = 0 then (some ((⟨#[]⟩ : ByteArray), 2)) else (polyglotref02_Bytes.l0 k a0 t311 ([] : List Int) 0)) = some (r1, r2) := H
  have A2 := Aside0.mk A20
  clear A20
  by_cases c3 : t311 = 0
  · rw [if_pos c3] at H
    have c3b0 : (t311 == 0) = true := beq_iff_eq.mpr c3
    have c3b1 : (t311 != 0) = false := bne_eq_false_iff_eq.mpr c3
    clear c3
    simp only [Option.some.injEq, Prod.mk.injEq] at H
    obtain ⟨rfl, rfl⟩ := H
    go_enter Try.func28, Try.ntmps28
    go_wp2_with (first | ((with_reducible refine gate_callee (f := 59) rfl ?_); refine goesL_ (some 9) rfl rfl Try.func59 (by kernel_rfl) rfl #[.int .i64 a0] rfl (by (try simp only [List.map_toArray, List.map_cons, List.map_nil]); first | done | rfl | (simp only [List.length_drop, List.length_take]; rfl)) ?_; (with_reducible refine (polyglotref02_Size.calls k a0 t311 _ A2.out).mono ?_); rintro e w' ⟨rfl, ⟨nd, rfl⟩⟩; refine ⟨_, rfl, ?_⟩))
    go_ret2
    exact ⟨by first | rfl | (simp [errW_none, errW_some] <;> rfl) | (simp [*, errW_none, errW_some] <;> rfl), by repeat (first | (with_reducible first | exact HB.out | apply below_alloc | apply pw_below_drewN | apply below_drew1) | exact HB.out)⟩
  · rw [if_neg c3] at H
    have c3b0 : (t311 == 0) = false := beq_eq_false_iff_ne.mpr c3
    have c3b1 : (t311 != 0) = true := bne_iff_ne.mpr c3
    have H' := Aside0.mk H
    clear H
    go_enter Try.func28, Try.ntmps28
    go_wp2_with (first | ((with_reducible refine gate_callee (f := 59) rfl ?_); refine goesL_ (some 9) rfl rfl Try.func59 (by kernel_rfl) rfl #[.int .i64 a0] rfl (by (try simp only [List.map_toArray, List.map_cons, List.map_nil]); first | done | rfl | (simp only [List.length_drop, List.length_take]; rfl)) ?_; (with_reducible refine (polyglotref02_Size.calls k a0 t311 _ A2.out).mono ?_); rintro e w' ⟨rfl, ⟨nd, rfl⟩⟩; refine ⟨_, rfl, ?_⟩))
    go_loopg [0, 5, 6] k (fun kq v0 v5 v6 w' => ∃ (x0_1 : Int) (x5_1 : List Int) (x6_1 : Int), v0 = .int .i64 x0_1 ∧ v6 = .int .i64 x6_1 ∧ Aside0 (polyglotref02_Bytes.l0 kq x0_1 t311 x5_1 x6_1 = some (r1, r2)) ∧ Aside0 (kq ≤ k) ∧ Aside0 (Kd.R (Kd.int .u8) 5 w' w.heap.size (fun _ => True) v5 x5_1) ∧ Aside0 (Below w.heap.size w w'))
    case atStart => exact ⟨(a0), (([] : List Int)), (0), (by first | rfl | (simp; done) | (simp [*]; done) | (simp; exact bne_nil_isEmpty _) | exact bne_nil_isEmpty _ | (simp; exact (bne_nil_isEmpty _).symm) | (simp; exact bne_nil_isEmpty' _)), (by first | rfl | (simp; done) | (simp [*]; done) | (simp; exact bne_nil_isEmpty _) | exact bne_nil_isEmpty _ | (simp; exact (bne_nil_isEmpty _).symm) | (simp; exact bne_nil_isEmpty' _)), H', ⟨Nat.le_refl _⟩, ⟨by first | exact Kd.R_nil _ _ _ _ _ | exact Kd.N_nil _ _ _ _ _ | exact Kd.V_nil _ _ _ _ _ | exact Kd.Q_nil _ _ _ _ _ | exact Kd.S_nil _ _ _ _ _⟩, ⟨by repeat (first | (with_reducible first | exact HB.out | apply below_alloc | apply pw_below_drewN | apply below_drew1) | exact HB.out)⟩⟩
    case round =>
      clear H'
      try clear c2
      try clear p2
      try clear c3
      try clear c3b0
      try clear c3b1
      obtain ⟨x0_1, x5_1, x6_1, rfl, rfl, HA, HK1, HO_5, HB⟩ := hrel
      cases gk with
      | zero => exact absurd HA.out (by simp [polyglotref02_Bytes.l0])
      | succ k1 =>
        have H := HA.out
        clear HA
        simp only [polyglotref02_Bytes.l0] at H
        by_cases c4 : x6_1 < t311
        · rw [if_pos c4] at H
          have c4b0 : decide (x6_1 < t311) = true := decide_eq_true c4
          clear c4
          by_cases c5 : (wrap64 (x6_1 + 1)) < t311
          · rw [if_pos c5] at H
            have c5b0 : decide ((wrap64 (x6_1 + 1)) < t311) = true := decide_eq_true c5
            clear c5
            by_cases c6 : x5_1.length < 140737488355328
            · rw [if_pos c6] at H
              have LMc6 := Aside0.mk c6
              clear c6
              obtain ⟨y312, hy312⟩ : ∃ y_ : List Int, y_ = (x5_1 ++ [((Int.tmod x0_1 128) + 128) % 256]) := ⟨_, rfl⟩
              replace H : (polyglotref02_Bytes.l0 k1 (wrap64 (Int.tdiv x0_1 128)) t311 y312 (wrap64 (x6_1 + 1))) = some (r1, r2) := by first | (rw [hy312]; with_reducible exact H) | (have H2_ := (Option.bind_some _ _).symm.trans H; rw [hy312]; with_reducible exact H2_) | (have H2_ := (Option.bind_some _ _).symm.trans H; with_reducible exact H2_) | with_reducible exact H | (rw [hy312]; exact H) | exact H
              have Ny312 := Aside0.mk hy312
              clear hy312
              have H' := Aside0.mk H
              clear H
              go_wp2_with (first | ((with_reducible refine gate_builtin (b := .append) (xs := #[.tmp 28, .tmp 30]) rfl ?_); at_builtin; refine Kd.R_append (Kd.int .u8) (w0 := w) w.heap.size rfl (.tmp 28) (.tmp 30) 55 5 (.int .u8 0) 1 rfl Try.underlying55 info5 rfl (by decide) (by omega) u5 x5_1 (((Int.tmod x0_1 128) + 128) % 256) [.int .u8 (((Int.tmod x0_1 128) + 128) % 256)] (fun _ => True) (fun _ => False) rfl rfl ?aP (fun _ hk => hk.elim) ?aF ?aO ?aB ?aS ?aL ?_; (case aP => exact rfl); (case aB => exact (by repeat (first | (with_reducible first | exact HB.out | apply below_alloc | apply pw_below_drewN | apply below_drew1) | exact HB.out))); (case aF => exact (fun _ _ => trivial)); (case aO => exact (by (with_reducible repeat (first | apply Kd.R_alloc | apply Kd.R_drewN | apply Kd.R_drew)); exact HO_5.out)); (case aS => exact (below_size (by repeat (first | (with_reducible first | exact HB.out | apply below_alloc | apply pw_below_drewN | apply below_drew1) | exact HB.out)))); (case aL => have := LMc6.out; omega); intro v313 w7 ho hb hg hat; rw [← Ny312.out] at ho; have n0_ := Aside0.mk (hb); have n1_ := Aside0.mk (ho); clear HB; clear HO_5; have HB := n0_; have HO314 := n1_; clear n0_ n1_; clear ho hb hg hat))
              go_roundg k1
              case measure => have := HK1.out; omega
              case rel => exact ⟨(wrap64 (Int.tdiv x0_1 128)), (y312), (wrap64 (x6_1 + 1)), (by first | rfl | (simp; done) | (simp [*]; done) | (simp; exact bne_nil_isEmpty _) | exact bne_nil_isEmpty _ | (simp; exact (bne_nil_isEmpty _).symm) | (simp; exact bne_nil_isEmpty' _)), (by first | rfl | (simp; done) | (simp [*]; done) | (simp; exact bne_nil_isEmpty _) | exact bne_nil_isEmpty _ | (simp; exact (bne_nil_isEmpty _).symm) | (simp; exact bne_nil_isEmpty' _)), H', ⟨by have := HK1.out; omega⟩, ⟨by (with_reducible repeat (first | apply Kd.R_alloc | apply Kd.R_drewN | apply Kd.R_drew)); exact HO314.out⟩, ⟨by repeat (first | (with_reducible first | exact HB.out | apply below_alloc | apply pw_below_drewN | apply below_drew1) | exact HB.out)⟩⟩
            · rw [if_neg c6] at H
              exact absurd H (by simp)
          · rw [if_neg c5] at H
            have c5b0 : decide ((wrap64 (x6_1 + 1)) < t311) = false := decide_eq_false c5
            clear c5
            by_cases c8 : x5_1.length < 140737488355328
            · rw [if_pos c8] at H
              have LMc8 := Aside0.mk c8
              clear c8
              obtain ⟨y315, hy315⟩ : ∃ y_ : List Int, y_ = (x5_1 ++ [(Int.tmod x0_1 128) % 256]) := ⟨_, rfl⟩
              replace H : (polyglotref02_Bytes.l0 k1 (wrap64 (Int.tdiv x0_1 128)) t311 y315 (wrap64 (x6_1 + 1))) = some (r1, r2) := by first | (rw [hy315]; with_reducible exact H) | (have H2_ := (Option.bind_some _ _).symm.trans H; rw [hy315]; with_reducible exact H2_) | (have H2_ := (Option.bind_some _ _).symm.trans H; with_reducible exact H2_) | with_reducible exact H | (rw [hy315]; exact H) | exact H
              have Ny315 := Aside0.mk hy315
              clear hy315
              have H' := Aside0.mk H
              clear H
              go_wp2_with (first | ((with_reducible refine gate_builtin (b := .append) (xs := #[.tmp 28, .tmp 30]) rfl ?_); at_builtin; refine Kd.R_append (Kd.int .u8) (w0 := w) w.heap.size rfl (.tmp 28) (.tmp 30) 55 5 (.int .u8 0) 1 rfl Try.underlying55 info5 rfl (by decide) (by omega) u5 x5_1 ((Int.tmod x0_1 128) % 256) [.int .u8 ((Int.tmod x0_1 128) % 256)] (fun _ => True) (fun _ => False) rfl rfl ?aP (fun _ hk => hk.elim) ?aF ?aO ?aB ?aS ?aL ?_; (case aP => exact rfl); (case aB => exact (by repeat (first | (with_reducible first | exact HB.out | apply below_alloc | apply pw_below_drewN | apply below_drew1) | exact HB.out))); (case aF => exact (fun _ _ => trivial)); (case aO => exact (by (with_reducible repeat (first | apply Kd.R_alloc | apply Kd.R_drewN | apply Kd.R_drew)); exact HO_5.out)); (case aS => exact (below_size (by repeat (first | (with_reducible first | exact HB.out | apply below_alloc | apply pw_below_drewN | apply below_drew1) | exact HB.out)))); (case aL => have := LMc8.out; omega); intro v316 w9 ho hb hg hat; rw [← Ny315.out] at ho; have n0_ := Aside0.mk (hb); have n1_ := Aside0.mk (ho); clear HB; clear HO_5; have HB := n0_; have HO317 := n1_; clear n0_ n1_; clear ho hb hg hat))
              go_roundg k1
              case measure => have := HK1.out; omega
              case rel => exact ⟨(wrap64 (Int.tdiv x0_1 128)), (y315), (wrap64 (x6_1 + 1)), (by first | rfl | (simp; done) | (simp [*]; done) | (simp; exact bne_nil_isEmpty _) | exact bne_nil_isEmpty _ | (simp; exact (bne_nil_isEmpty _).symm) | (simp; exact bne_nil_isEmpty' _)), (by first | rfl | (simp; done) | (simp [*]; done) | (simp; exact bne_nil_isEmpty _) | exact bne_nil_isEmpty _ | (simp; exact (bne_nil_isEmpty _).symm) | (simp; exact bne_nil_isEmpty' _)), H', ⟨by have := HK1.out; omega⟩, ⟨by (with_reducible repeat (first | apply Kd.R_alloc | apply Kd.R_drewN | apply Kd.R_drew)); exact HO317.out⟩, ⟨by repeat (first | (with_reducible first | exact HB.out | apply below_alloc | apply pw_below_drewN | apply below_drew1) | exact HB.out)⟩⟩
            · rw [if_neg c8] at H
              exact absurd H (by simp)
        · rw [if_neg c4] at H
          have c4b0 : decide (x6_1 < t311) = false := decide_eq_false c4
          clear c4
          simp only [Option.some.injEq, Prod.mk.injEq] at H
          obtain ⟨rfl, rfl⟩ := H
          have hcv10 := own_string (P := Try.prog) Try.underlying55 Try.underlying5 Try.underlying9 (Kd.own_of_R HO_5.out)
          go_wp2
          go_ret2
          exact ⟨by first | rfl | (simp [errW_none, errW_some] <;> rfl) | (simp [*, errW_none, errW_some] <;> rfl), by repeat (first | (with_reducible first | exact HB.out | apply below_alloc | apply pw_below_drewN | apply below_drew1) | exact HB.out)⟩

end Go.Proofs.Ytngmipfobcaojaa.HA
end

-- YtngmipfobcaojaaHA79
section
-- Written by hp.py (a driver over the kit's print). Not trusted: Lean checks it.
namespace Go.Proofs.Ytngmipfobcaojaa.HA
open Go.RowKit Go.Proofs.YtngmipfobcaojaaW.PrintWords Go.Proofs.YtngmipfobcaojaaW.PrintLast Go.Proofs.YtngmipfobcaojaaW.PrintMore
attribute [local go_sem] max2_int min2_int max_two min_two max_three min_three max_four min_four   -- for this text's walks alone
set_option linter.unusedVariables false
set_option linter.unusedSimpArgs false

/-! ### polyglotlaw05_PropShort: function 8 -/
def polyglotlaw05_PropShort.j0 : Nat → Int → Int → ByteArray → Bool → Option (Bool)
  | 0, _, _, _, _ => none
  | k + 1, x0, x2, x7, x35 => if x35 = true then (some true) else ((polyglotkit_Pick.f x2 (x7.size : Int)).bind fun t322 => (if 0 ≤ t322 then (if t322 ≤ (x7.size : Int) then ((prop_Read.f k x0 (x7.extract 0 (t322 : Int).toNat)).bind fun bt323 => ((polyglotref02_Bytes.f k (x7.size : Int)).bind fun bt328 => (if 1 ≤ (x7.size : Int) then (if bt328.1.size + (x7.extract 1 x7.size).size ≤ 9223372036854775807 then (if (bt328.1 ++ (x7.extract 1 x7.size)).size + 1 ≤ 9223372036854775807 then ((prop_Read.f k x0 ((bt328.1 ++ (x7.extract 1 x7.size)) ++ (⟨#[0]⟩ : ByteArray))).bind fun bt330 => (if bt323.2.2 = 3 then (if bt323.2.1 = 0 then (if bt330.2.2 = 0 then (some false) else (if bt330.2.1 = 0 then (some (bt330.2.2 != 3)) else (some false))) else (some false)) else (some false))) else (none)) else (none)) else (none)))) else (none)) else (none)))
def polyglotlaw05_PropShort.f (k : Nat) (a0 : Int) (l1 : List (S27)) (a2 : Int) : Option (Bool) := (polyglotlaw05_lives.f).bind fun t318 => (if t318 = true then ((polyglotkit_LightProps.f k l1).bind fun t319 => (if t319 = true then ((prop_Bytes.f a0 l1).bind fun bt320 => (if bt320.2 = 0 then (polyglotlaw05_PropShort.j0 k a0 a2 bt320.1 (decide ((bt320.1.size : Int) > 127))) else (polyglotlaw05_PropShort.j0 k a0 a2 bt320.1 true))) else (some true))) else (some false))
theorem polyglotlaw05_PropShort.mono_l : ∀ k, (∀ y0 y1 y2 y3, LeO (polyglotlaw05_PropShort.j0 k y0 y1 y2 y3) (polyglotlaw05_PropShort.j0 (k + 1) y0 y1 y2 y3))
  | 0 => fun _ _ _ _ r h => by simp [polyglotlaw05_PropShort.j0] at h
  | k + 1 => by
    have ih0 := polyglotlaw05_PropShort.mono_l k
    · intro y0 y1 y2 y3
      unfold polyglotlaw05_PropShort.j0
      repeat' first
      | (with_reducible exact ih0 _ _ _ _)
      | (with_reducible exact polyglotkit_LightProps.mono _ _)
      | (with_reducible exact polyglotref02_Bytes.mono _ _)
      | (with_reducible exact prop_Read.mono _ _ _)
      | (with_reducible exact LeO.refl _)
      | (with_reducible exact LeO.none _)
      | (with_reducible refine LeO.ite ?_ ?_)
      | (with_reducible refine LeO.bind ?_ (fun _ => ?_))
      | exact ih0 _ _ _ _
      | exact polyglotkit_LightProps.mono _ _
      | exact polyglotref02_Bytes.mono _ _
      | exact prop_Read.mono _ _ _
      | exact LeO.none _
      | refine LeO.ite ?_ ?_
      | refine LeO.bind ?_ (fun _ => ?_)
theorem polyglotlaw05_PropShort.mono : ∀ a0 a1 a2 k, LeO (polyglotlaw05_PropShort.f k a0 a1 a2) (polyglotlaw05_PropShort.f (k + 1) a0 a1 a2) := by
  intro a0 a1 a2 k
  have ih0 := polyglotlaw05_PropShort.mono_l k
  unfold polyglotlaw05_PropShort.f
  repeat' first
      | (with_reducible exact ih0 _ _ _ _)
      | (with_reducible exact polyglotkit_LightProps.mono _ _)
      | (with_reducible exact polyglotref02_Bytes.mono _ _)
      | (with_reducible exact prop_Read.mono _ _ _)
      | (with_reducible exact LeO.refl _)
      | (with_reducible exact LeO.none _)
      | (with_reducible refine LeO.ite ?_ ?_)
      | (with_reducible refine LeO.bind ?_ (fun _ => ?_))
      | exact ih0 _ _ _ _
      | exact polyglotkit_LightProps.mono _ _
      | exact polyglotref02_Bytes.mono _ _
      | exact prop_Read.mono _ _ _
      | exact LeO.none _
      | refine LeO.ite ?_ ?_
      | refine LeO.bind ?_ (fun _ => ?_)
set_option maxHeartbeats 8000000 in
set_option maxRecDepth 100000 in
theorem polyglotlaw05_PropShort.calls (k : Nat) (a0 : Int) (A1 : Option Addr) (c1 : Nat) (l1 : List (S27)) (a2 : Int) (r : Bool) (w : World) (hr1 : Kd.C k27 w A1 l1.length l1) (hc1 : l1.length ≤ c1) (h : polyglotlaw05_PropShort.f k a0 l1 a2 = some r) :
    Calls Try.prog 8 #[.int .i64 a0, .slice A1 l1.length c1, .int .i64 a2] w fun e w' => e = .returned (.bool r) ∧ Below w.heap.size w w' := by
  have HR1 := Aside0.mk hr1
  have HC1 := Aside0.mk hc1
  clear hr1 hc1
  have HB := Aside0.mk (Below.refl w.heap.size w)
  have H : ((polyglotlaw05_lives.f).bind fun t318 => (if t318 = true then ((polyglotkit_LightProps.f k l1).bind fun t319 => (if t319 = true then ((prop_Bytes.f a0 l1).bind fun bt320 => (if bt320.2 = 0 then (polyglotlaw05_PropShort.j0 k a0 a2 bt320.1 (decide ((bt320.1.size : Int) > 127))) else (polyglotlaw05_PropShort.j0 k a0 a2 bt320.1 true))) else (some true))) else (some false))) = some r := h
  clear h
  replace H := Option.bind_eq_some_iff.mp H
  obtain ⟨t318, A40, H⟩ := H
  replace H : (if t318 = true then ((polyglotkit_LightProps.f k l1).bind fun t319 => (if t319 = true then ((prop_Bytes.f a0 l1).bind fun bt320 => (if bt320.2 = 0 then (polyglotlaw05_PropShort.j0 k a0 a2 bt320.1 (decide ((bt320.1.size : Int) > 127))) else (polyglotlaw05_PropShort.j0 k a0 a2 bt320.1 true))) else (some true))) else (some false)) = some r := H
  have A4 := Aside0.mk A40
  clear A40
  by_cases c5 : t318 = true
  · subst c5
    have H1 : ((polyglotkit_LightProps.f k l1).bind fun t319 => (if t319 = true then ((prop_Bytes.f a0 l1).bind fun bt320 => (if bt320.2 = 0 then (polyglotlaw05_PropShort.j0 k a0 a2 bt320.1 (decide ((bt320.1.size : Int) > 127))) else (polyglotlaw05_PropShort.j0 k a0 a2 bt320.1 true))) else (some true))) = some r := by rw [if_pos rfl] at H; exact H
    clear H
    have H := H1
    clear H1
    replace H := Option.bind_eq_some_iff.mp H
    obtain ⟨t319, A60, H⟩ := H
    replace H : (if t319 = true then ((prop_Bytes.f a0 l1).bind fun bt320 => (if bt320.2 = 0 then (polyglotlaw05_PropShort.j0 k a0 a2 bt320.1 (decide ((bt320.1.size : Int) > 127))) else (polyglotlaw05_PropShort.j0 k a0 a2 bt320.1 true))) else (some true)) = some r := H
    have A6 := Aside0.mk A60
    clear A60
    by_cases c7 : t319 = true
    · subst c7
      have H1 : ((prop_Bytes.f a0 l1).bind fun bt320 => (if bt320.2 = 0 then (polyglotlaw05_PropShort.j0 k a0 a2 bt320.1 (decide ((bt320.1.size : Int) > 127))) else (polyglotlaw05_PropShort.j0 k a0 a2 bt320.1 true))) = some r := by rw [if_pos rfl] at H; exact H
      clear H
      have H := H1
      clear H1
      replace H := Option.bind_eq_some_iff.mp H
      obtain ⟨⟨t320, t321⟩, A80, H⟩ := H
      replace H : (if t321 = 0 then (polyglotlaw05_PropShort.j0 k a0 a2 t320 (decide ((t320.size : Int) > 127))) else (polyglotlaw05_PropShort.j0 k a0 a2 t320 true)) = some r := H
      have A8 := Aside0.mk A80
      clear A80
      have HC9 := Aside0.mk H
      clear H
      go_enter Try.func8, Try.ntmps8
      go_upto_region 6 with (first | ((with_reducible refine gate_callee (f := 11) rfl ?_); refine goesL_ (some 18) rfl rfl Try.func11 (by kernel_rfl) rfl #[] rfl (by (try simp only [List.map_toArray, List.map_cons, List.map_nil]); first | done | rfl | (simp only [List.length_drop, List.length_take]; rfl)) ?_; (with_reducible refine (polyglotlaw05_lives.calls  true _ A4.out).mono ?_); rintro e w10 ⟨rfl, hb⟩; refine ⟨_, rfl, ?_⟩; have n0_ := Aside0.mk (below_step (by repeat (first | (with_reducible first | exact HB.out | apply below_alloc | apply pw_below_drewN | apply below_drew1) | exact HB.out)) hb); clear HB; have HB := n0_; clear n0_; (try clear hb); (try clear hb2); (try clear hk); (try clear hi)) | ((with_reducible refine gate_callee (f := 15) rfl ?_); refine goesL_ (some 21) rfl rfl Try.func15 (by kernel_rfl) rfl #[.slice A1 l1.length c1] rfl (by (try simp only [List.map_toArray, List.map_cons, List.map_nil]); first | done | rfl | (simp only [List.length_drop, List.length_take]; rfl)) ?_; (with_reducible refine (polyglotkit_LightProps.calls k _ _ l1 true _ ?side1 ?side2 A6.out).mono ?_); (case side1 => repeat (first | exact (Kd.C_below HR1.out HB.out) | (with_reducible refine Kd.C_alloc ?_ _) | (with_reducible refine Kd.C_drewN ?_ _) | (with_reducible refine Kd.C_drew ?_))); (case side2 => exact HC1.out); rintro e w' ⟨rfl, ⟨nd, rfl⟩⟩; refine ⟨_, rfl, ?_⟩) | ((with_reducible refine gate_callee (f := 18) rfl ?_); refine goesL_ (some 26) rfl rfl Try.func18 (by kernel_rfl) rfl #[.int .i64 a0, .slice A1 l1.length c1] rfl (by (try simp only [List.map_toArray, List.map_cons, List.map_nil]); first | done | rfl | (simp only [List.length_drop, List.length_take]; rfl)) ?_; (with_reducible refine (prop_Bytes.calls a0 _ _ l1 t320 t321 _ ?side1 ?side2 A8.out).mono ?_); (case side1 => repeat (first | exact (Kd.C_below HR1.out (by repeat (first | (with_reducible first | exact HB.out | apply below_alloc | apply pw_below_drewN | apply below_drew1) | exact HB.out))) | (with_reducible refine Kd.C_alloc ?_ _) | (with_reducible refine Kd.C_drewN ?_ _) | (with_reducible refine Kd.C_drew ?_))); (case side2 => exact HC1.out); rintro e w11 ⟨rfl, hb⟩; refine ⟨_, rfl, ?_⟩; have n0_ := Aside0.mk (below_step (by repeat (first | (with_reducible first | exact HB.out | apply below_alloc | apply pw_below_drewN | apply below_drew1) | exact HB.out)) hb); clear HB; have HB := n0_; clear n0_; (try clear hb); (try clear hb2); (try clear hk); (try clear hi)))
      (try simp only [Act.put, List.setIfInBounds_toArray, List.set_cons_zero, List.set_cons_succ])
      go_cut [35] (fun v35 wc => ∃ (kq : Nat) (x35_8 : Bool), v35 = .bool x35_8 ∧ Aside0 (polyglotlaw05_PropShort.j0 kq a0 a2 t320 x35_8 = some r) ∧ Aside0 (kq ≤ k) ∧ Aside0 (Below w.heap.size w wc))
      case first =>
        have H := HC9.out
        clear HC9
        by_cases c12 : t321 = 0
        · rw [if_pos c12] at H
          have c12b0 : (t321 == 0) = true := beq_iff_eq.mpr c12
          have c12b1 : (t321 != 0) = false := bne_eq_false_iff_eq.mpr c12
          clear c12
          (first | rw [c12b0] | (simp only [i64_w, i32_w]; rw [c12b0]) | skip)
          have H' := Aside0.mk H
          clear H
          go_wp2
          go_meet
          case rel => exact ⟨_, (decide ((t320.size : Int) > 127)), (by first | rfl | (simp; done) | (simp [*]; done) | (simp; exact bne_nil_isEmpty _) | exact bne_nil_isEmpty _ | (simp; exact (bne_nil_isEmpty _).symm) | (simp; exact bne_nil_isEmpty' _)), H', ⟨by first | omega | exact Nat.le_refl _⟩, ⟨by repeat (first | (with_reducible first | exact HB.out | apply below_alloc | apply pw_below_drewN | apply below_drew1) | exact HB.out)⟩⟩
        · rw [if_neg c12] at H
          have c12b0 : (t321 == 0) = false := beq_eq_false_iff_ne.mpr c12
          have c12b1 : (t321 != 0) = true := bne_iff_ne.mpr c12
          (first | rw [c12b0] | (simp only [i64_w, i32_w]; rw [c12b0]) | skip)
          have H' := Aside0.mk H
          clear H
          go_wp2
          go_meet
          case rel => exact ⟨_, (true), (by first | rfl | (simp; done) | (simp [*]; done) | (simp; exact bne_nil_isEmpty _) | exact bne_nil_isEmpty _ | (simp; exact (bne_nil_isEmpty _).symm) | (simp; exact bne_nil_isEmpty' _)), H', ⟨by first | omega | exact Nat.le_refl _⟩, ⟨by repeat (first | (with_reducible first | exact HB.out | apply below_alloc | apply pw_below_drewN | apply below_drew1) | exact HB.out)⟩⟩
      case rest =>
        clear HC9
        try clear c1
        try clear p2
        try clear c5
        try clear c7
        try clear c8
        try clear c11
        try clear c12
        try clear c12b0
        try clear c12b1
        obtain ⟨kq, x35_8, rfl, HA, HJ8, HB⟩ := hcut
        cases kq with
        | zero => exact absurd HA.out (by simp [polyglotlaw05_PropShort.j0])
        | succ kj8 =>
          have H := HA.out
          clear HA
          simp only [polyglotlaw05_PropShort.j0] at H
          by_cases c13 : x35_8 = true
          · subst c13
            have H1 : (some true) = some r := by rw [if_pos rfl] at H; exact H
            clear H
            have H := H1
            clear H1
            obtain rfl := Option.some.inj H
            go_wp2
            go_ret
            exact ⟨by first | rfl | (simp [errW_none, errW_some] <;> rfl) | (simp [*, errW_none, errW_some] <;> rfl), by repeat (first | (with_reducible first | exact HB.out | apply below_alloc | apply pw_below_drewN | apply below_drew1) | exact HB.out)⟩
          · replace c13 := Bool.eq_false_iff.mpr c13
            subst c13
            have H1 : ((polyglotkit_Pick.f a2 (t320.size : Int)).bind fun t322 => (if 0 ≤ t322 then (if t322 ≤ (t320.size : Int) then ((prop_Read.f kj8 a0 (t320.extract 0 (t322 : Int).toNat)).bind fun bt323 => ((polyglotref02_Bytes.f kj8 (t320.size : Int)).bind fun bt328 => (if 1 ≤ (t320.size : Int) then (if bt328.1.size + (t320.extract 1 t320.size).size ≤ 9223372036854775807 then (if (bt328.1 ++ (t320.extract 1 t320.size)).size + 1 ≤ 9223372036854775807 then ((prop_Read.f kj8 a0 ((bt328.1 ++ (t320.extract 1 t320.size)) ++ (⟨#[0]⟩ : ByteArray))).bind fun bt330 => (if bt323.2.2 = 3 then (if bt323.2.1 = 0 then (if bt330.2.2 = 0 then (some false) else (if bt330.2.1 = 0 then (some (bt330.2.2 != 3)) else (some false))) else (some false)) else (some false))) else (none)) else (none)) else (none)))) else (none)) else (none))) = some r := by rw [if_neg (show ¬ (false = true) by decide)] at H; exact H
            clear H
            have H := H1
            clear H1
            replace H := Option.bind_eq_some_iff.mp H
            obtain ⟨t322, A140, H⟩ := H
            replace H : (if 0 ≤ t322 then (if t322 ≤ (t320.size : Int) then ((prop_Read.f kj8 a0 (t320.extract 0 (t322 : Int).toNat)).bind fun bt323 => ((polyglotref02_Bytes.f kj8 (t320.size : Int)).bind fun bt328 => (if 1 ≤ (t320.size : Int) then (if bt328.1.size + (t320.extract 1 t320.size).size ≤ 9223372036854775807 then (if (bt328.1 ++ (t320.extract 1 t320.size)).size + 1 ≤ 9223372036854775807 then ((prop_Read.f kj8 a0 ((bt328.1 ++ (t320.extract 1 t320.size)) ++ (⟨#[0]⟩ : ByteArray))).bind fun bt330 => (if bt323.2.2 = 3 then (if bt323.2.1 = 0 then (if bt330.2.2 = 0 then (some false) else (if bt330.2.1 = 0 then (some (bt330.2.2 != 3)) else (some false))) else (some false)) else (some false))) else (none)) else (none)) else (none)))) else (none)) else (none)) = some r := H
            have A14 := Aside0.mk A140
            clear A140
            by_cases c15 : 0 ≤ t322
            · rw [if_pos c15] at H
              have c15b0 := eq_true c15
              have c15b1 : decide (0 ≤ t322) = true := decide_eq_true c15
              clear c15
              by_cases c16 : t322 ≤ (t320.size : Int)
              · rw [if_pos c16] at H
                have c16b0 := eq_true c16
                have c16b1 : decide (t322 ≤ (t320.size : Int)) = true := decide_eq_true c16
                clear c16
                replace H := Option.bind_eq_some_iff.mp H
                obtain ⟨⟨t323, t324, t325⟩, A170, H⟩ := H
                replace H : ((polyglotref02_Bytes.f kj8 (t320.size : Int)).bind fun bt328 => (if 1 ≤ (t320.size : Int) then (if bt328.1.size + (t320.extract 1 t320.size).size ≤ 9223372036854775807 then (if (bt328.1 ++ (t320.extract 1 t320.size)).size + 1 ≤ 9223372036854775807 then ((prop_Read.f kj8 a0 ((bt328.1 ++ (t320.extract 1 t320.size)) ++ (⟨#[0]⟩ : ByteArray))).bind fun bt330 => (if t325 = 3 then (if t324 = 0 then (if bt330.2.2 = 0 then (some false) else (if bt330.2.1 = 0 then (some (bt330.2.2 != 3)) else (some false))) else (some false)) else (some false))) else (none)) else (none)) else (none))) = some r := H
                have A17 := Aside0.mk A170
                clear A170
                replace H := Option.bind_eq_some_iff.mp H
                obtain ⟨⟨t328, t329⟩, A180, H⟩ := H
                replace H : (if 1 ≤ (t320.size : Int) then (if t328.size + (t320.extract 1 t320.size).size ≤ 9223372036854775807 then (if (t328 ++ (t320.extract 1 t320.size)).size + 1 ≤ 9223372036854775807 then ((prop_Read.f kj8 a0 ((t328 ++ (t320.extract 1 t320.size)) ++ (⟨#[0]⟩ : ByteArray))).bind fun bt330 => (if t325 = 3 then (if t324 = 0 then (if bt330.2.2 = 0 then (some false) else (if bt330.2.1 = 0 then (some (bt330.2.2 != 3)) else (some false))) else (some false)) else (some false))) else (none)) else (none)) else (none)) = some r := H
                have A18 := Aside0.mk A180
                clear A180
                by_cases c19 : 1 ≤ (t320.size : Int)
                · rw [if_pos c19] at H
                  have c19b0 := eq_true c19
                  have c19b1 : decide (1 ≤ (t320.size : Int)) = true := decide_eq_true c19
                  clear c19
                  by_cases c20 : t328.size + (t320.extract 1 t320.size).size ≤ 9223372036854775807
                  · rw [if_pos c20] at H
                    have c20b0 := eq_true c20
                    have c20b1 : decide (t328.size + (t320.extract 1 t320.size).size ≤ 9223372036854775807) = true := decide_eq_true c20
                    try have c20b2 : (9223372036854775807 < t328.size + (t320.extract 1 t320.size).size) = False := eq_false (Nat.not_lt.2 c20)
                    try (have c20b3 := c20b2; simp only [ByteArray.size_append, ByteArray.size_extract, Nat.min_self] at c20b3)
                    by_cases c21 : (t328 ++ (t320.extract 1 t320.size)).size + 1 ≤ 9223372036854775807
                    · rw [if_pos c21] at H
                      have c21b0 := eq_true c21
                      have c21b1 : decide ((t328 ++ (t320.extract 1 t320.size)).size + 1 ≤ 9223372036854775807) = true := decide_eq_true c21
                      try have c21b2 : (9223372036854775807 < (t328 ++ (t320.extract 1 t320.size)).size + 1) = False := eq_false (Nat.not_lt.2 c21)
                      try (have c21b3 := c21b2; simp only [ByteArray.size_append, ByteArray.size_extract, Nat.min_self] at c21b3)
                      replace H := Option.bind_eq_some_iff.mp H
                      obtain ⟨⟨t330, t331, t332⟩, A220, H⟩ := H
                      replace H : (if t325 = 3 then (if t324 = 0 then (if t332 = 0 then (some false) else (if t331 = 0 then (some (t332 != 3)) else (some false))) else (some false)) else (some false)) = some r := H
                      have A22 := Aside0.mk A220
                      clear A220
                      by_cases c23 : t325 = 3
                      · rw [if_pos c23] at H
                        have c23b0 : (t325 == 3) = true := beq_iff_eq.mpr c23
                        have c23b1 : (t325 != 3) = false := bne_eq_false_iff_eq.mpr c23
                        clear c23
                        by_cases c24 : t324 = 0
                        · rw [if_pos c24] at H
                          have c24b0 : (t324 == 0) = true := beq_iff_eq.mpr c24
                          have c24b1 : (t324 != 0) = false := bne_eq_false_iff_eq.mpr c24
                          clear c24
                          by_cases c25 : t332 = 0
                          · rw [if_pos c25] at H
                            have c25b0 : (t332 == 0) = true := beq_iff_eq.mpr c25
                            have c25b1 : (t332 != 0) = false := bne_eq_false_iff_eq.mpr c25
                            clear c25
                            obtain rfl := Option.some.inj H
                            go_wp2_with (first | ((with_reducible refine gate_callee (f := 12) rfl ?_); refine goesL_ (some 39) rfl rfl Try.func12 (by kernel_rfl) rfl #[.int .i64 a2, .int .i64 (t320.size : Int)] rfl (by (try simp only [List.map_toArray, List.map_cons, List.map_nil]); first | done | rfl | (simp only [List.length_drop, List.length_take]; rfl)) ?_; (with_reducible refine (polyglotkit_Pick.calls a2 (t320.size : Int) t322 _ A14.out).mono ?_); rintro e w' ⟨rfl, ⟨nd, rfl⟩⟩; refine ⟨_, rfl, ?_⟩) | ((with_reducible refine gate_callee (f := 27) rfl ?_); refine goesL_ (some 45) rfl rfl Try.func27 (by kernel_rfl) rfl #[.int .i64 a0, .string (t320.extract 0 (t322 : Int).toNat)] rfl (by (try simp only [List.map_toArray, List.map_cons, List.map_nil]); first | done | rfl | (simp only [List.length_drop, List.length_take]; rfl)) ?_; (with_reducible refine (prop_Read.calls kj8 a0 (t320.extract 0 (t322 : Int).toNat) t323 t324 t325 _ A17.out).mono ?_); rintro e w26 ⟨v326, rfl, ho0, hb⟩; refine ⟨_, rfl, ?_⟩; have n0_ := Aside0.mk (Kd.R_lower ho0 (below_size (by repeat (first | (with_reducible first | exact HB.out | apply below_alloc | apply pw_below_drewN | apply below_drew1) | exact HB.out)))); have n1_ := Aside0.mk (below_step (by repeat (first | (with_reducible first | exact HB.out | apply below_alloc | apply pw_below_drewN | apply below_drew1) | exact HB.out)) hb); clear HB; have HO327 := n0_; have HB := n1_; clear n0_ n1_; (try clear hb); (try clear hb2); (try clear hk); (try clear hi); (try clear ho0)) | ((with_reducible refine gate_callee (f := 28) rfl ?_); refine goesL_ (some 52) rfl rfl Try.func28 (by kernel_rfl) rfl #[.int .i64 (t320.size : Int)] rfl (by (try simp only [List.map_toArray, List.map_cons, List.map_nil]); first | done | rfl | (simp only [List.length_drop, List.length_take]; rfl)) ?_; (with_reducible refine (polyglotref02_Bytes.calls kj8 (t320.size : Int) t328 t329 _ A18.out).mono ?_); rintro e w27 ⟨rfl, hb⟩; refine ⟨_, rfl, ?_⟩; have n0_ := Aside0.mk (Kd.R_below (by (with_reducible repeat (first | apply Kd.R_alloc | apply Kd.R_drewN | apply Kd.R_drew)); exact HO327.out) hb); have n1_ := Aside0.mk (below_step (by repeat (first | (with_reducible first | exact HB.out | apply below_alloc | apply pw_below_drewN | apply below_drew1) | exact HB.out)) hb); clear HO327; clear HB; have HO327 := n0_; have HB := n1_; clear n0_ n1_; (try clear hb); (try clear hb2); (try clear hk); (try clear hi)) | ((with_reducible refine gate_callee (f := 27) rfl ?_); refine goesL_ (some 62) rfl rfl Try.func27 (by kernel_rfl) rfl #[.int .i64 a0, .string ((t328 ++ (t320.extract 1 t320.size)) ++ (⟨#[0]⟩ : ByteArray))] rfl (by (try simp only [List.map_toArray, List.map_cons, List.map_nil]); first | done | rfl | (simp only [List.length_drop, List.length_take]; rfl)) ?_; (with_reducible refine (prop_Read.calls kj8 a0 ((t328 ++ (t320.extract 1 t320.size)) ++ (⟨#[0]⟩ : ByteArray)) t330 t331 t332 _ A22.out).mono ?_); rintro e w28 ⟨v333, rfl, ho0, hb⟩; refine ⟨_, rfl, ?_⟩; have n0_ := Aside0.mk (Kd.R_elder' (by (with_reducible repeat (first | apply Kd.R_alloc | apply Kd.R_drewN | apply Kd.R_drew)); exact HO327.out) (Kd.R_base ho0) hb); have n1_ := Aside0.mk (Kd.R_lower (Kd.R_new' ho0 (Kd.R_lt (by (with_reducible repeat (first | apply Kd.R_alloc | apply Kd.R_drewN | apply Kd.R_drew)); exact HO327.out))) (below_size (by repeat (first | (with_reducible first | exact HB.out | apply below_alloc | apply pw_below_drewN | apply below_drew1) | exact HB.out)))); have n2_ := Aside0.mk (below_step (by repeat (first | (with_reducible first | exact HB.out | apply below_alloc | apply pw_below_drewN | apply below_drew1) | exact HB.out)) hb); clear HO327; clear HB; have HO327 := n0_; have HO334 := n1_; have HB := n2_; clear n0_ n1_ n2_; (try clear hb); (try clear hb2); (try clear hk); (try clear hi); (try clear ho0)))
                            go_ret
                            exact ⟨by first | rfl | (simp [errW_none, errW_some] <;> rfl) | (simp [*, errW_none, errW_some] <;> rfl), by repeat (first | (with_reducible first | exact HB.out | apply below_alloc | apply pw_below_drewN | apply below_drew1) | exact HB.out)⟩
                          · rw [if_neg c25] at H
                            have c25b0 : (t332 == 0) = false := beq_eq_false_iff_ne.mpr c25
                            have c25b1 : (t332 != 0) = true := bne_iff_ne.mpr c25
                            by_cases c29 : t331 = 0
                            · rw [if_pos c29] at H
                              have c29b0 : (t331 == 0) = true := beq_iff_eq.mpr c29
                              have c29b1 : (t331 != 0) = false := bne_eq_false_iff_eq.mpr c29
                              clear c29
                              obtain rfl := Option.some.inj H
                              go_wp2_with (first | ((with_reducible refine gate_callee (f := 12) rfl ?_); refine goesL_ (some 39) rfl rfl Try.func12 (by kernel_rfl) rfl #[.int .i64 a2, .int .i64 (t320.size : Int)] rfl (by (try simp only [List.map_toArray, List.map_cons, List.map_nil]); first | done | rfl | (simp only [List.length_drop, List.length_take]; rfl)) ?_; (with_reducible refine (polyglotkit_Pick.calls a2 (t320.size : Int) t322 _ A14.out).mono ?_); rintro e w' ⟨rfl, ⟨nd, rfl⟩⟩; refine ⟨_, rfl, ?_⟩) | ((with_reducible refine gate_callee (f := 27) rfl ?_); refine goesL_ (some 45) rfl rfl Try.func27 (by kernel_rfl) rfl #[.int .i64 a0, .string (t320.extract 0 (t322 : Int).toNat)] rfl (by (try simp only [List.map_toArray, List.map_cons, List.map_nil]); first | done | rfl | (simp only [List.length_drop, List.length_take]; rfl)) ?_; (with_reducible refine (prop_Read.calls kj8 a0 (t320.extract 0 (t322 : Int).toNat) t323 t324 t325 _ A17.out).mono ?_); rintro e w30 ⟨v326, rfl, ho0, hb⟩; refine ⟨_, rfl, ?_⟩; have n0_ := Aside0.mk (Kd.R_lower ho0 (below_size (by repeat (first | (with_reducible first | exact HB.out | apply below_alloc | apply pw_below_drewN | apply below_drew1) | exact HB.out)))); have n1_ := Aside0.mk (below_step (by repeat (first | (with_reducible first | exact HB.out | apply below_alloc | apply pw_below_drewN | apply below_drew1) | exact HB.out)) hb); clear HB; have HO327 := n0_; have HB := n1_; clear n0_ n1_; (try clear hb); (try clear hb2); (try clear hk); (try clear hi); (try clear ho0)) | ((with_reducible refine gate_callee (f := 28) rfl ?_); refine goesL_ (some 52) rfl rfl Try.func28 (by kernel_rfl) rfl #[.int .i64 (t320.size : Int)] rfl (by (try simp only [List.map_toArray, List.map_cons, List.map_nil]); first | done | rfl | (simp only [List.length_drop, List.length_take]; rfl)) ?_; (with_reducible refine (polyglotref02_Bytes.calls kj8 (t320.size : Int) t328 t329 _ A18.out).mono ?_); rintro e w31 ⟨rfl, hb⟩; refine ⟨_, rfl, ?_⟩; have n0_ := Aside0.mk (Kd.R_below (by (with_reducible repeat (first | apply Kd.R_alloc | apply Kd.R_drewN | apply Kd.R_drew)); exact HO327.out) hb); have n1_ := Aside0.mk (below_step (by repeat (first | (with_reducible first | exact HB.out | apply below_alloc | apply pw_below_drewN | apply below_drew1) | exact HB.out)) hb); clear HO327; clear HB; have HO327 := n0_; have HB := n1_; clear n0_ n1_; (try clear hb); (try clear hb2); (try clear hk); (try clear hi)) | ((with_reducible refine gate_callee (f := 27) rfl ?_); refine goesL_ (some 62) rfl rfl Try.func27 (by kernel_rfl) rfl #[.int .i64 a0, .string ((t328 ++ (t320.extract 1 t320.size)) ++ (⟨#[0]⟩ : ByteArray))] rfl (by (try simp only [List.map_toArray, List.map_cons, List.map_nil]); first | done | rfl | (simp only [List.length_drop, List.length_take]; rfl)) ?_; (with_reducible refine (prop_Read.calls kj8 a0 ((t328 ++ (t320.extract 1 t320.size)) ++ (⟨#[0]⟩ : ByteArray)) t330 t331 t332 _ A22.out).mono ?_); rintro e w32 ⟨v333, rfl, ho0, hb⟩; refine ⟨_, rfl, ?_⟩; have n0_ := Aside0.mk (Kd.R_elder' (by (with_reducible repeat (first | apply Kd.R_alloc | apply Kd.R_drewN | apply Kd.R_drew)); exact HO327.out) (Kd.R_base ho0) hb); have n1_ := Aside0.mk (Kd.R_lower (Kd.R_new' ho0 (Kd.R_lt (by (with_reducible repeat (first | apply Kd.R_alloc | apply Kd.R_drewN | apply Kd.R_drew)); exact HO327.out))) (below_size (by repeat (first | (with_reducible first | exact HB.out | apply below_alloc | apply pw_below_drewN | apply below_drew1) | exact HB.out)))); have n2_ := Aside0.mk (below_step (by repeat (first | (with_reducible first | exact HB.out | apply below_alloc | apply pw_below_drewN | apply below_drew1) | exact HB.out)) hb); clear HO327; clear HB; have HO327 := n0_; have HO334 := n1_; have HB := n2_; clear n0_ n1_ n2_; (try clear hb); (try clear hb2); (try clear hk); (try clear hi); (try clear ho0)))
                              go_ret
                              exact ⟨by first | rfl | (simp [errW_none, errW_some] <;> rfl) | (simp [*, errW_none, errW_some] <;> rfl), by repeat (first | (with_reducible first | exact HB.out | apply below_alloc | apply pw_below_drewN | apply below_drew1) | exact HB.out)⟩
                            · rw [if_neg c29] at H
                              have c29b0 : (t331 == 0) = false := beq_eq_false_iff_ne.mpr c29
                              have c29b1 : (t331 != 0) = true := bne_iff_ne.mpr c29
                              obtain rfl := Option.some.inj H
                              go_wp2_with (first | ((with_reducible refine gate_callee (f := 12) rfl ?_); refine goesL_ (some 39) rfl rfl Try.func12 (by kernel_rfl) rfl #[.int .i64 a2, .int .i64 (t320.size : Int)] rfl (by (try simp only [List.map_toArray, List.map_cons, List.map_nil]); first | done | rfl | (simp only [List.length_drop, List.length_take]; rfl)) ?_; (with_reducible refine (polyglotkit_Pick.calls a2 (t320.size : Int) t322 _ A14.out).mono ?_); rintro e w' ⟨rfl, ⟨nd, rfl⟩⟩; refine ⟨_, rfl, ?_⟩) | ((with_reducible refine gate_callee (f := 27) rfl ?_); refine goesL_ (some 45) rfl rfl Try.func27 (by kernel_rfl) rfl #[.int .i64 a0, .string (t320.extract 0 (t322 : Int).toNat)] rfl (by (try simp only [List.map_toArray, List.map_cons, List.map_nil]); first | done | rfl | (simp only [List.length_drop, List.length_take]; rfl)) ?_; (with_reducible refine (prop_Read.calls kj8 a0 (t320.extract 0 (t322 : Int).toNat) t323 t324 t325 _ A17.out).mono ?_); rintro e w33 ⟨v326, rfl, ho0, hb⟩; refine ⟨_, rfl, ?_⟩; have n0_ := Aside0.mk (Kd.R_lower ho0 (below_size (by repeat (first | (with_reducible first | exact HB.out | apply below_alloc | apply pw_below_drewN | apply below_drew1) | exact HB.out)))); have n1_ := Aside0.mk (below_step (by repeat (first | (with_reducible first | exact HB.out | apply below_alloc | apply pw_below_drewN | apply below_drew1) | exact HB.out)) hb); clear HB; have HO327 := n0_; have HB := n1_; clear n0_ n1_; (try clear hb); (try clear hb2); (try clear hk); (try clear hi); (try clear ho0)) | ((with_reducible refine gate_callee (f := 28) rfl ?_); refine goesL_ (some 52) rfl rfl Try.func28 (by kernel_rfl) rfl #[.int .i64 (t320.size : Int)] rfl (by (try simp only [List.map_toArray, List.map_cons, List.map_nil]); first | done | rfl | (simp only [List.length_drop, List.length_take]; rfl)) ?_; (with_reducible refine (polyglotref02_Bytes.calls kj8 (t320.size : Int) t328 t329 _ A18.out).mono ?_); rintro e w34 ⟨rfl, hb⟩; refine ⟨_, rfl, ?_⟩; have n0_ := Aside0.mk (Kd.R_below (by (with_reducible repeat (first | apply Kd.R_alloc | apply Kd.R_drewN | apply Kd.R_drew)); exact HO327.out) hb); have n1_ := Aside0.mk (below_step (by repeat (first | (with_reducible first | exact HB.out | apply below_alloc | apply pw_below_drewN | apply below_drew1) | exact HB.out)) hb); clear HO327; clear HB; have HO327 := n0_; have HB := n1_; clear n0_ n1_; (try clear hb); (try clear hb2); (try clear hk); (try clear hi)) | ((with_reducible refine gate_callee (f := 27) rfl ?_); refine goesL_ (some 62) rfl rfl Try.func27 (by kernel_rfl) rfl #[.int .i64 a0, .string ((t328 ++ (t320.extract 1 t320.size)) ++ (⟨#[0]⟩ : ByteArray))] rfl (by (try simp only [List.map_toArray, List.map_cons, List.map_nil]); first | done | rfl | (simp only [List.length_drop, List.length_take]; rfl)) ?_; (with_reducible refine (prop_Read.calls kj8 a0 ((t328 ++ (t320.extract 1 t320.size)) ++ (⟨#[0]⟩ : ByteArray)) t330 t331 t332 _ A22.out).mono ?_); rintro e w35 ⟨v333, rfl, ho0, hb⟩; refine ⟨_, rfl, ?_⟩; have n0_ := Aside0.mk (Kd.R_elder' (by (with_reducible repeat (first | apply Kd.R_alloc | apply Kd.R_drewN | apply Kd.R_drew)); exact HO327.out) (Kd.R_base ho0) hb); have n1_ := Aside0.mk (Kd.R_lower (Kd.R_new' ho0 (Kd.R_lt (by (with_reducible repeat (first | apply Kd.R_alloc | apply Kd.R_drewN | apply Kd.R_drew)); exact HO327.out))) (below_size (by repeat (first | (with_reducible first | exact HB.out | apply below_alloc | apply pw_below_drewN | apply below_drew1) | exact HB.out)))); have n2_ := Aside0.mk (below_step (by repeat (first | (with_reducible first | exact HB.out | apply below_alloc | apply pw_below_drewN | apply below_drew1) | exact HB.out)) hb); clear HO327; clear HB; have HO327 := n0_; have HO334 := n1_; have HB := n2_; clear n0_ n1_ n2_; (try clear hb); (try clear hb2); (try clear hk); (try clear hi); (try clear ho0)))
                              go_ret
                              exact ⟨by first | rfl | (simp [errW_none, errW_some] <;> rfl) | (simp [*, errW_none, errW_some] <;> rfl), by repeat (first | (with_reducible first | exact HB.out | apply below_alloc | apply pw_below_drewN | apply below_drew1) | exact HB.out)⟩
                        · rw [if_neg c24] at H
                          have c24b0 : (t324 == 0) = false := beq_eq_false_iff_ne.mpr c24
                          have c24b1 : (t324 != 0) = true := bne_iff_ne.mpr c24
                          obtain rfl := Option.some.inj H
                          go_wp2_with (first | ((with_reducible refine gate_callee (f := 12) rfl ?_); refine goesL_ (some 39) rfl rfl Try.func12 (by kernel_rfl) rfl #[.int .i64 a2, .int .i64 (t320.size : Int)] rfl (by (try simp only [List.map_toArray, List.map_cons, List.map_nil]); first | done | rfl | (simp only [List.length_drop, List.length_take]; rfl)) ?_; (with_reducible refine (polyglotkit_Pick.calls a2 (t320.size : Int) t322 _ A14.out).mono ?_); rintro e w' ⟨rfl, ⟨nd, rfl⟩⟩; refine ⟨_, rfl, ?_⟩) | ((with_reducible refine gate_callee (f := 27) rfl ?_); refine goesL_ (some 45) rfl rfl Try.func27 (by kernel_rfl) rfl #[.int .i64 a0, .string (t320.extract 0 (t322 : Int).toNat)] rfl (by (try simp only [List.map_toArray, List.map_cons, List.map_nil]); first | done | rfl | (simp only [List.length_drop, List.length_take]; rfl)) ?_; (with_reducible refine (prop_Read.calls kj8 a0 (t320.extract 0 (t322 : Int).toNat) t323 t324 t325 _ A17.out).mono ?_); rintro e w36 ⟨v326, rfl, ho0, hb⟩; refine ⟨_, rfl, ?_⟩; have n0_ := Aside0.mk (Kd.R_lower ho0 (below_size (by repeat (first | (with_reducible first | exact HB.out | apply below_alloc | apply pw_below_drewN | apply below_drew1) | exact HB.out)))); have n1_ := Aside0.mk (below_step (by repeat (first | (with_reducible first | exact HB.out | apply below_alloc | apply pw_below_drewN | apply below_drew1) | exact HB.out)) hb); clear HB; have HO327 := n0_; have HB := n1_; clear n0_ n1_; (try clear hb); (try clear hb2); (try clear hk); (try clear hi); (try clear ho0)) | ((with_reducible refine gate_callee (f := 28) rfl ?_); refine goesL_ (some 52) rfl rfl Try.func28 (by kernel_rfl) rfl #[.int .i64 (t320.size : Int)] rfl (by (try simp only [List.map_toArray, List.map_cons, List.map_nil]); first | done | rfl | (simp only [List.length_drop, List.length_take]; rfl)) ?_; (with_reducible refine (polyglotref02_Bytes.calls kj8 (t320.size : Int) t328 t329 _ A18.out).mono ?_); rintro e w37 ⟨rfl, hb⟩; refine ⟨_, rfl, ?_⟩; have n0_ := Aside0.mk (Kd.R_below (by (with_reducible repeat (first | apply Kd.R_alloc | apply Kd.R_drewN | apply Kd.R_drew)); exact HO327.out) hb); have n1_ := Aside0.mk (below_step (by repeat (first | (with_reducible first | exact HB.out | apply below_alloc | apply pw_below_drewN | apply below_drew1) | exact HB.out)) hb); clear HO327; clear HB; have HO327 := n0_; have HB := n1_; clear n0_ n1_; (try clear hb); (try clear hb2); (try clear hk); (try clear hi)) | ((with_reducible refine gate_callee (f := 27) rfl ?_); refine goesL_ (some 62) rfl rfl Try.func27 (by kernel_rfl) rfl #[.int .i64 a0, .string ((t328 ++ (t320.extract 1 t320.size)) ++ (⟨#[0]⟩ : ByteArray))] rfl (by (try simp only [List.map_toArray, List.map_cons, List.map_nil]); first | done | rfl | (simp only [List.length_drop, List.length_take]; rfl)) ?_; (with_reducible refine (prop_Read.calls kj8 a0 ((t328 ++ (t320.extract 1 t320.size)) ++ (⟨#[0]⟩ : ByteArray)) t330 t331 t332 _ A22.out).mono ?_); rintro e w38 ⟨v333, rfl, ho0, hb⟩; refine ⟨_, rfl, ?_⟩; have n0_ := Aside0.mk (Kd.R_elder' (by (with_reducible repeat (first | apply Kd.R_alloc | apply Kd.R_drewN | apply Kd.R_drew)); exact HO327.out) (Kd.R_base ho0) hb); have n1_ := Aside0.mk (Kd.R_lower (Kd.R_new' ho0 (Kd.R_lt (by (with_reducible repeat (first | apply Kd.R_alloc | apply Kd.R_drewN | apply Kd.R_drew)); exact HO327.out))) (below_size (by repeat (first | (with_reducible first | exact HB.out | apply below_alloc | apply pw_below_drewN | apply below_drew1) | exact HB.out)))); have n2_ := Aside0.mk (below_step (by repeat (first | (with_reducible first | exact HB.out | apply below_alloc | apply pw_below_drewN | apply below_drew1) | exact HB.out)) hb); clear HO327; clear HB; have HO327 := n0_; have HO334 := n1_; have HB := n2_; clear n0_ n1_ n2_; (try clear hb); (try clear hb2); (try clear hk); (try clear hi); (try clear ho0)))
                          go_ret
                          exact ⟨by first | rfl | (simp [errW_none, errW_some] <;> rfl) | (simp [*, errW_none, errW_some] <;> rfl), by repeat (first | (with_reducible first | exact HB.out | apply below_alloc | apply pw_below_drewN | apply below_drew1) | exact HB.out)⟩
                      · rw [if_neg c23] at H
                        have c23b0 : (t325 == 3) = false := beq_eq_false_iff_ne.mpr c23
                        have c23b1 : (t325 != 3) = true := bne_iff_ne.mpr c23
                        obtain rfl := Option.some.inj H
                        go_wp2_with (first | ((with_reducible refine gate_callee (f := 12) rfl ?_); refine goesL_ (some 39) rfl rfl Try.func12 (by kernel_rfl) rfl #[.int .i64 a2, .int .i64 (t320.size : Int)] rfl (by (try simp only [List.map_toArray, List.map_cons, List.map_nil]); first | done | rfl | (simp only [List.length_drop, List.length_take]; rfl)) ?_; (with_reducible refine (polyglotkit_Pick.calls a2 (t320.size : Int) t322 _ A14.out).mono ?_); rintro e w' ⟨rfl, ⟨nd, rfl⟩⟩; refine ⟨_, rfl, ?_⟩) | ((with_reducible refine gate_callee (f := 27) rfl ?_); refine goesL_ (some 45) rfl rfl Try.func27 (by kernel_rfl) rfl #[.int .i64 a0, .string (t320.extract 0 (t322 : Int).toNat)] rfl (by (try simp only [List.map_toArray, List.map_cons, List.map_nil]); first | done | rfl | (simp only [List.length_drop, List.length_take]; rfl)) ?_; (with_reducible refine (prop_Read.calls kj8 a0 (t320.extract 0 (t322 : Int).toNat) t323 t324 t325 _ A17.out).mono ?_); rintro e w39 ⟨v326, rfl, ho0, hb⟩; refine ⟨_, rfl, ?_⟩; have n0_ := Aside0.mk (Kd.R_lower ho0 (below_size (by repeat (first | (with_reducible first | exact HB.out | apply below_alloc | apply pw_below_drewN | apply below_drew1) | exact HB.out)))); have n1_ := Aside0.mk (below_step (by repeat (first | (with_reducible first | exact HB.out | apply below_alloc | apply pw_below_drewN | apply below_drew1) | exact HB.out)) hb); clear HB; have HO327 := n0_; have HB := n1_; clear n0_ n1_; (try clear hb); (try clear hb2); (try clear hk); (try clear hi); (try clear ho0)) | ((with_reducible refine gate_callee (f := 28) rfl ?_); refine goesL_ (some 52) rfl rfl Try.func28 (by kernel_rfl) rfl #[.int .i64 (t320.size : Int)] rfl (by (try simp only [List.map_toArray, List.map_cons, List.map_nil]); first | done | rfl | (simp only [List.length_drop, List.length_take]; rfl)) ?_; (with_reducible refine (polyglotref02_Bytes.calls kj8 (t320.size : Int) t328 t329 _ A18.out).mono ?_); rintro e w40 ⟨rfl, hb⟩; refine ⟨_, rfl, ?_⟩; have n0_ := Aside0.mk (Kd.R_below (by (with_reducible repeat (first | apply Kd.R_alloc | apply Kd.R_drewN | apply Kd.R_drew)); exact HO327.out) hb); have n1_ := Aside0.mk (below_step (by repeat (first | (with_reducible first | exact HB.out | apply below_alloc | apply pw_below_drewN | apply below_drew1) | exact HB.out)) hb); clear HO327; clear HB; have HO327 := n0_; have HB := n1_; clear n0_ n1_; (try clear hb); (try clear hb2); (try clear hk); (try clear hi)) | ((with_reducible refine gate_callee (f := 27) rfl ?_); refine goesL_ (some 62) rfl rfl Try.func27 (by kernel_rfl) rfl #[.int .i64 a0, .string ((t328 ++ (t320.extract 1 t320.size)) ++ (⟨#[0]⟩ : ByteArray))] rfl (by (try simp only [List.map_toArray, List.map_cons, List.map_nil]); first | done | rfl | (simp only [List.length_drop, List.length_take]; rfl)) ?_; (with_reducible refine (prop_Read.calls kj8 a0 ((t328 ++ (t320.extract 1 t320.size)) ++ (⟨#[0]⟩ : ByteArray)) t330 t331 t332 _ A22.out).mono ?_); rintro e w41 ⟨v333, rfl, ho0, hb⟩; refine ⟨_, rfl, ?_⟩; have n0_ := Aside0.mk (Kd.R_elder' (by (with_reducible repeat (first | apply Kd.R_alloc | apply Kd.R_drewN | apply Kd.R_drew)); exact HO327.out) (Kd.R_base ho0) hb); have n1_ := Aside0.mk (Kd.R_lower (Kd.R_new' ho0 (Kd.R_lt (by (with_reducible repeat (first | apply Kd.R_alloc | apply Kd.R_drewN | apply Kd.R_drew)); exact HO327.out))) (below_size (by repeat (first | (with_reducible first | exact HB.out | apply below_alloc | apply pw_below_drewN | apply below_drew1) | exact HB.out)))); have n2_ := Aside0.mk (below_step (by repeat (first | (with_reducible first | exact HB.out | apply below_alloc | apply pw_below_drewN | apply below_drew1) | exact HB.out)) hb); clear HO327; clear HB; have HO327 := n0_; have HO334 := n1_; have HB := n2_; clear n0_ n1_ n2_; (try clear hb); (try clear hb2); (try clear hk); (try clear hi); (try clear ho0)))
                        go_ret
                        exact ⟨by first | rfl | (simp [errW_none, errW_some] <;> rfl) | (simp [*, errW_none, errW_some] <;> rfl), by repeat (first | (with_reducible first | exact HB.out | apply below_alloc | apply pw_below_drewN | apply below_drew1) | exact HB.out)⟩
                    · rw [if_neg c21] at H
                      exact absurd H (by simp)
                  · rw [if_neg c20] at H
                    exact absurd H (by simp)
                · rw [if_neg c19] at H
                  exact absurd H (by simp)
              · rw [if_neg c16] at H
                exact absurd H (by simp)
            · rw [if_neg c15] at H
              exact absurd H (by simp)
    · replace c7 := Bool.eq_false_iff.mpr c7
      subst c7
      have H1 : (some true) = some r := by rw [if_neg (show ¬ (false = true) by decide)] at H; exact H
      clear H
      have H := H1
      clear H1
      obtain rfl := Option.some.inj H
      go_enter Try.func8, Try.ntmps8
      go_wp2_with (first | ((with_reducible refine gate_callee (f := 11) rfl ?_); refine goesL_ (some 18) rfl rfl Try.func11 (by kernel_rfl) rfl #[] rfl (by (try simp only [List.map_toArray, List.map_cons, List.map_nil]); first | done | rfl | (simp only [List.length_drop, List.length_take]; rfl)) ?_; (with_reducible refine (polyglotlaw05_lives.calls  true _ A4.out).mono ?_); rintro e w42 ⟨rfl, hb⟩; refine ⟨_, rfl, ?_⟩; have n0_ := Aside0.mk (below_step (by repeat (first | (with_reducible first | exact HB.out | apply below_alloc | apply pw_below_drewN | apply below_drew1) | exact HB.out)) hb); clear HB; have HB := n0_; clear n0_; (try clear hb); (try clear hb2); (try clear hk); (try clear hi)) | ((with_reducible refine gate_callee (f := 15) rfl ?_); refine goesL_ (some 21) rfl rfl Try.func15 (by kernel_rfl) rfl #[.slice A1 l1.length c1] rfl (by (try simp only [List.map_toArray, List.map_cons, List.map_nil]); first | done | rfl | (simp only [List.length_drop, List.length_take]; rfl)) ?_; (with_reducible refine (polyglotkit_LightProps.calls k _ _ l1 false _ ?side1 ?side2 A6.out).mono ?_); (case side1 => repeat (first | exact (Kd.C_below HR1.out HB.out) | (with_reducible refine Kd.C_alloc ?_ _) | (with_reducible refine Kd.C_drewN ?_ _) | (with_reducible refine Kd.C_drew ?_))); (case side2 => exact HC1.out); rintro e w' ⟨rfl, ⟨nd, rfl⟩⟩; refine ⟨_, rfl, ?_⟩))
      go_ret
      exact ⟨by first | rfl | (simp [errW_none, errW_some] <;> rfl) | (simp [*, errW_none, errW_some] <;> rfl), by repeat (first | (with_reducible first | exact HB.out | apply below_alloc | apply pw_below_drewN | apply below_drew1) | exact HB.out)⟩
  · replace c5 := Bool.eq_false_iff.mpr c5
    subst c5
    have H1 : (some false) = some r := by rw [if_neg (show ¬ (false = true) by decide)] at H; exact H
    clear H
    have H := H1
    clear H1
    obtain rfl := Option.some.inj H
    go_enter Try.func8, Try.ntmps8
    go_wp2_with (first | ((with_reducible refine gate_callee (f := 11) rfl ?_); refine goesL_ (some 18) rfl rfl Try.func11 (by kernel_rfl) rfl #[] rfl (by (try simp only [List.map_toArray, List.map_cons, List.map_nil]); first | done | rfl | (simp only [List.length_drop, List.length_take]; rfl)) ?_; (with_reducible refine (polyglotlaw05_lives.calls  false _ A4.out).mono ?_); rintro e w43 ⟨rfl, hb⟩; refine ⟨_, rfl, ?_⟩; have n0_ := Aside0.mk (below_step (by repeat (first | (with_reducible first | exact HB.out | apply below_alloc | apply pw_below_drewN | apply below_drew1) | exact HB.out)) hb); clear HB; have HB := n0_; clear n0_; (try clear hb); (try clear hb2); (try clear hk); (try clear hi)))
    go_ret
    exact ⟨by first | rfl | (simp [errW_none, errW_some] <;> rfl) | (simp [*, errW_none, errW_some] <;> rfl), by repeat (first | (with_reducible first | exact HB.out | apply below_alloc | apply pw_below_drewN | apply below_drew1) | exact HB.out)⟩

end Go.Proofs.Ytngmipfobcaojaa.HA
end

-- YtngmipfobcaojaaHAhPutGet
section
/- What octet.Put has written, octet.Get takes back, and the other way round: one, two and four bytes. -/
-- FOR (*polyglot/octet.Cursor).Number
namespace Go.Proofs.Ytngmipfobcaojaa.HA
open Go.RowKit Go.Proofs.YtngmipfobcaojaaW.PrintWords Go.Proofs.YtngmipfobcaojaaW.PrintLast Go.Proofs.YtngmipfobcaojaaW.PrintMore
set_option linter.unusedVariables false
set_option linter.unusedSimpArgs false
theorem getF_eq (x b : Int) (hx : 0 ≤ x) (hx2 : x < 72057594037927936) (hb : 0 ≤ b) (hb2 : b < 256) : getF x b = x * 256 + b := by
  unfold getF
  rw [u64w (x * 256) (by omega) (by omega), u64w b (by omega) (by omega)]
  obtain ⟨a, rfl⟩ := Int.eq_ofNat_of_zero_le hx
  obtain ⟨c, rfl⟩ := Int.eq_ofNat_of_zero_le hb
  rw [show (a : Int) * 256 = ((a * 256 : Nat) : Int) by omega, bits_or_u64_nat _ _ (by omega) (by omega)]
  have : a * 256 ||| c = a * 256 + c := by
    rw [show a * 256 = 2 ^ 8 * a by omega, Nat.two_pow_add_eq_or_of_lt (show c < 2 ^ 8 by omega)]
  rw [this]
  omega
theorem bytes_nums (l : List Int) (h : ∀ x ∈ l, 0 ≤ x ∧ x < 256) : bytesOf (strOfNums l) = l := by
  unfold bytesOf
  rw [Go.strOfNums_data, List.map_map]
  conv => rhs; rw [← List.map_id l]
  apply List.map_congr_left
  intro x hx
  have := h x hx
  simp only [Function.comp, id]
  rw [UInt8.toNat_ofNat_of_lt' (by simp; omega)]
  omega
theorem nums_bytes (s : ByteArray) : strOfNums (bytesOf s) = s := by
  unfold strOfNums bytesOf
  rw [List.map_map]
  have : ((fun n : Int => UInt8.ofNat n.toNat) ∘ fun b : UInt8 => ((b.toNat : Nat) : Int)) = id := by
    funext b
    simp
  rw [this, List.map_id]
theorem put1 (n : Int) : putS n 1 = strOfNums [n % 256] := by simp [putS, putTo]
theorem put2 (n : Int) : putS n 2 = strOfNums [n / 256 % 256, n % 256] := by simp [putS, putTo]
theorem put4 (n : Int) : putS n 4 = strOfNums [n / 16777216 % 256, n / 65536 % 256, n / 256 % 256, n % 256] := by simp [putS, putTo]
theorem last_id (s : ByteArray) (h : s.size ≤ 8) : lastS s = s := by unfold lastS; rw [if_neg (by omega)]
theorem get1 (a : Int) (h : 0 ≤ a ∧ a < 256) : getS (strOfNums [a]) = a := by
  unfold getS
  rw [last_id _ (by rw [strOfNums_size]; simp), bytes_nums _ (by simpa using h)]
  simp only [List.foldl]
  rw [getF_eq _ _ (by omega) (by omega) h.1 h.2]
  omega
theorem get2 (a b : Int) (ha : 0 ≤ a ∧ a < 256) (hb : 0 ≤ b ∧ b < 256) : getS (strOfNums [a, b]) = a * 256 + b := by
  unfold getS
  rw [last_id _ (by rw [strOfNums_size]; simp), bytes_nums _ (by simp; exact ⟨ha, hb⟩)]
  simp only [List.foldl]
  rw [getF_eq 0 a (by omega) (by omega) ha.1 ha.2, getF_eq _ b (by omega) (by omega) hb.1 hb.2]
  omega
theorem get4 (a b c d : Int) (ha : 0 ≤ a ∧ a < 256) (hb : 0 ≤ b ∧ b < 256) (hc : 0 ≤ c ∧ c < 256) (hd : 0 ≤ d ∧ d < 256) : getS (strOfNums [a, b, c, d]) = a * 16777216 + b * 65536 + c * 256 + d := by
  unfold getS
  rw [last_id _ (by rw [strOfNums_size]; simp), bytes_nums _ (by simp; exact ⟨ha, hb, hc, hd⟩)]
  simp only [List.foldl]
  rw [getF_eq 0 a (by omega) (by omega) ha.1 ha.2, getF_eq _ b (by omega) (by omega) hb.1 hb.2, getF_eq _ c (by omega) (by omega) hc.1 hc.2, getF_eq _ d (by omega) (by omega) hd.1 hd.2]
  omega
theorem get_put1 (n : Int) (h : 0 ≤ n ∧ n < 256) : getS (putS n 1) = n := by rw [put1, get1 _ (by omega)]; omega
theorem get_put2 (n : Int) (h : 0 ≤ n ∧ n < 65536) : getS (putS n 2) = n := by rw [put2, get2 _ _ (by omega) (by omega)]; omega
theorem get_put4 (n : Int) (h : 0 ≤ n ∧ n < 4294967296) : getS (putS n 4) = n := by rw [put4, get4 _ _ _ _ (by omega) (by omega) (by omega) (by omega)]; omega
theorem bytesOf_range (s : ByteArray) : ∀ x ∈ bytesOf s, 0 ≤ x ∧ x < 256 := by
  intro x hx
  obtain ⟨b, _, rfl⟩ := List.mem_map.1 hx
  have := UInt8.toNat_lt b
  omega
theorem put_get1 (s : ByteArray) (h : s.size = 1) : putS (getS s) 1 = s ∧ 0 ≤ getS s ∧ getS s < 256 := by
  have hr := bytesOf_range s
  have hn := nums_bytes s
  have hl := bytesOf_length s
  generalize bytesOf s = l at *
  subst hn
  match l, hl.trans h with
  | [a], _ =>
    have ha := hr a (by simp)
    rw [get1 a ha, put1]
    refine ⟨?_, ha⟩
    rw [Int.emod_eq_of_lt ha.1 ha.2]
theorem put_get2 (s : ByteArray) (h : s.size = 2) : putS (getS s) 2 = s ∧ 0 ≤ getS s ∧ getS s < 65536 := by
  have hr := bytesOf_range s
  have hn := nums_bytes s
  have hl := bytesOf_length s
  generalize bytesOf s = l at *
  subst hn
  match l, hl.trans h with
  | [a, b], _ =>
    have ha := hr a (by simp)
    have hb := hr b (by simp)
    rw [get2 a b ha hb, put2]
    refine ⟨?_, by omega⟩
    rw [show (a * 256 + b) / 256 % 256 = a by omega, show (a * 256 + b) % 256 = b by omega]
theorem put_get4 (s : ByteArray) (h : s.size = 4) : putS (getS s) 4 = s ∧ 0 ≤ getS s ∧ getS s < 4294967296 := by
  have hr := bytesOf_range s
  have hn := nums_bytes s
  have hl := bytesOf_length s
  generalize bytesOf s = l at *
  subst hn
  match l, hl.trans h with
  | [a, b, c, d], _ =>
    have ha := hr a (by simp)
    have hb := hr b (by simp)
    have hc := hr c (by simp)
    have hd := hr d (by simp)
    rw [get4 a b c d ha hb hc hd, put4]
    refine ⟨?_, by omega⟩
    rw [show (a * 16777216 + b * 65536 + c * 256 + d) / 16777216 % 256 = a by omega, show (a * 16777216 + b * 65536 + c * 256 + d) / 65536 % 256 = b by omega, show (a * 16777216 + b * 65536 + c * 256 + d) / 256 % 256 = c by omega, show (a * 16777216 + b * 65536 + c * 256 + d) % 256 = d by omega]
end Go.Proofs.Ytngmipfobcaojaa.HA
end

-- YtngmipfobcaojaaHA49
section
-- Written by hp.py (a driver over the kit's print). Not trusted: Lean checks it.
namespace Go.Proofs.Ytngmipfobcaojaa.HA
open Go.RowKit Go.Proofs.YtngmipfobcaojaaW.PrintWords Go.Proofs.YtngmipfobcaojaaW.PrintLast Go.Proofs.YtngmipfobcaojaaW.PrintMore
attribute [local go_sem] max2_int min2_int max_two min_two max_three min_three max_four min_four   -- for this text's walks alone
set_option linter.unusedVariables false
set_option linter.unusedSimpArgs false

/-! ### polyglotref02_Read: function 42 -/
def polyglotref02_Read.l0 : Nat → ByteArray → Int → Int → Int → Option (Int × Int × Int)
  | 0, _, _, _, _ => none
  | k + 1, x0, x5, x6, x7 => if x7 < 4 then (if x7 ≥ (x0.size : Int) then (some (0, 0, 3)) else (if 0 ≤ x7 then (if x7 < (x0.size : Int) then (if (bt x0 x7) < 128 then (if x7 > 0 then (if (bt x0 x7) = 0 then (some (0, 0, 5)) else (some (wrap64 (x5 + (wrap64 ((wrap64 (Int.tmod (bt x0 x7) 128)) * x6))), wrap64 (x7 + 1), 0))) else (some (wrap64 (x5 + (wrap64 ((wrap64 (Int.tmod (bt x0 x7) 128)) * x6))), wrap64 (x7 + 1), 0))) else (polyglotref02_Read.l0 k x0 (wrap64 (x5 + (wrap64 ((wrap64 (Int.tmod (bt x0 x7) 128)) * x6)))) (wrap64 (x6 * 128)) (wrap64 (x7 + 1)))) else (none)) else (none))) else (some (0, 0, 5))
def polyglotref02_Read.f (k : Nat) (a0 : ByteArray) : Option (Int × Int × Int) := polyglotref02_Read.l0 k a0 0 1 0
theorem polyglotref02_Read.mono_l : ∀ k, (∀ y0 y1 y2 y3, LeO (polyglotref02_Read.l0 k y0 y1 y2 y3) (polyglotref02_Read.l0 (k + 1) y0 y1 y2 y3))
  | 0 => fun _ _ _ _ r h => by simp [polyglotref02_Read.l0] at h
  | k + 1 => by
    have ih0 := polyglotref02_Read.mono_l k
    · intro y0 y1 y2 y3
      unfold polyglotref02_Read.l0
      repeat' first
      | (with_reducible exact ih0 _ _ _ _)
      | (with_reducible exact LeO.refl _)
      | (with_reducible exact LeO.none _)
      | (with_reducible refine LeO.ite ?_ ?_)
      | (with_reducible refine LeO.bind ?_ (fun _ => ?_))
      | exact ih0 _ _ _ _
      | exact LeO.none _
      | refine LeO.ite ?_ ?_
      | refine LeO.bind ?_ (fun _ => ?_)
theorem polyglotref02_Read.mono : ∀ a0 k, LeO (polyglotref02_Read.f k a0) (polyglotref02_Read.f (k + 1) a0) := by
  intro a0 k
  have ih0 := polyglotref02_Read.mono_l k
  unfold polyglotref02_Read.f
  repeat' first
      | (with_reducible exact ih0 _ _ _ _)
      | (with_reducible exact LeO.refl _)
      | (with_reducible exact LeO.none _)
      | (with_reducible refine LeO.ite ?_ ?_)
      | (with_reducible refine LeO.bind ?_ (fun _ => ?_))
      | exact ih0 _ _ _ _
      | exact LeO.none _
      | refine LeO.ite ?_ ?_
      | refine LeO.bind ?_ (fun _ => ?_)
set_option maxHeartbeats 8000000 in
set_option maxRecDepth 100000 in
theorem polyglotref02_Read.calls (k : Nat) (a0 : ByteArray) (r1 : Int) (r2 : Int) (r3 : Int) (w : World) (h : polyglotref02_Read.f k a0 = some (r1, r2, r3)) :
    Calls Try.prog 42 #[.string a0] w fun e w' => e = .returned (.tuple #[.int .i64 r1, .int .i64 r2, .int .i64 r3]) ∧ Drawn0 w w' := by
  have H : (polyglotref02_Read.l0 k a0 0 1 0) = some (r1, r2, r3) := h
  clear h
  have H' := Aside0.mk H
  clear H
  go_enter Try.func42, Try.ntmps42
  go_wp2
  go_loopg [5, 6, 7] k (fun kq v5 v6 v7 w' => ∃ (x5_1 : Int) (x6_1 : Int) (x7_1 : Int), v5 = .int .i64 x5_1 ∧ v6 = .int .i64 x6_1 ∧ v7 = .int .i64 x7_1 ∧ Aside0 (polyglotref02_Read.l0 kq a0 x5_1 x6_1 x7_1 = some (r1, r2, r3)) ∧ Aside0 (kq ≤ k) ∧ Drawn0 w w')
  case atStart => exact ⟨(0), (1), (0), (by first | rfl | (simp; done) | (simp [*]; done) | (simp; exact bne_nil_isEmpty _) | exact bne_nil_isEmpty _ | (simp; exact (bne_nil_isEmpty _).symm) | (simp; exact bne_nil_isEmpty' _)), (by first | rfl | (simp; done) | (simp [*]; done) | (simp; exact bne_nil_isEmpty _) | exact bne_nil_isEmpty _ | (simp; exact (bne_nil_isEmpty _).symm) | (simp; exact bne_nil_isEmpty' _)), (by first | rfl | (simp; done) | (simp [*]; done) | (simp; exact bne_nil_isEmpty _) | exact bne_nil_isEmpty _ | (simp; exact (bne_nil_isEmpty _).symm) | (simp; exact bne_nil_isEmpty' _)), H', ⟨Nat.le_refl _⟩, by repeat (first | exact Drawn0.refl _ | apply Drawn0.step)⟩
  case round =>
    clear H'
    obtain ⟨x5_1, x6_1, x7_1, rfl, rfl, rfl, HA, HK1, ⟨m1, rfl⟩⟩ := hrel
    cases gk with
    | zero => exact absurd HA.out (by simp [polyglotref02_Read.l0])
    | succ k1 =>
      have H := HA.out
      clear HA
      simp only [polyglotref02_Read.l0] at H
      by_cases c2 : x7_1 < 4
      · rw [if_pos c2] at H
        have c2b0 : decide (x7_1 < 4) = true := decide_eq_true c2
        clear c2
        by_cases c3 : x7_1 ≥ (a0.size : Int)
        · rw [if_pos c3] at H
          have c3b0 : decide ((a0.size : Int) ≤ x7_1) = true := decide_eq_true c3
          clear c3
          simp only [Option.some.injEq, Prod.mk.injEq] at H
          obtain ⟨rfl, rfl, rfl⟩ := H
          go_wp2
          go_ret3
          exact ⟨by first | rfl | (simp; done) | (simp [*]; done) | (simp; exact bne_nil_isEmpty _) | exact bne_nil_isEmpty _ | (simp; exact (bne_nil_isEmpty _).symm) | (simp; exact bne_nil_isEmpty' _), by repeat (first | exact Drawn0.refl _ | apply Drawn0.step)⟩
        · rw [if_neg c3] at H
          have c3b0 : decide ((a0.size : Int) ≤ x7_1) = false := decide_eq_false c3
          clear c3
          by_cases c4 : 0 ≤ x7_1
          · rw [if_pos c4] at H
            have c4b0 : decide (0 ≤ x7_1) = true := decide_eq_true c4
            clear c4
            by_cases c5 : x7_1 < (a0.size : Int)
            · rw [if_pos c5] at H
              have c5b0 : decide (x7_1 < (a0.size : Int)) = true := decide_eq_true c5
              clear c5
              by_cases c8 : (bt a0 x7_1) < 128
              · rw [if_pos c8] at H
                have c8b0 : decide ((bt a0 x7_1) < 128) = true := decide_eq_true c8
                clear c8
                by_cases c9 : x7_1 > 0
                · rw [if_pos c9] at H
                  have c9b0 : decide (0 < x7_1) = true := decide_eq_true c9
                  clear c9
                  by_cases c11 : (bt a0 x7_1) = 0
                  · rw [if_pos c11] at H
                    have c11b0 : ((bt a0 x7_1) == 0) = true := beq_iff_eq.mpr c11
                    have c11b1 : ((bt a0 x7_1) != 0) = false := bne_eq_false_iff_eq.mpr c11
                    clear c11
                    simp only [Option.some.injEq, Prod.mk.injEq] at H
                    obtain ⟨rfl, rfl, rfl⟩ := H
                    have p6 : 0 ≤ (x7_1 : Int) := of_decide_eq_true (by first | (with_reducible assumption) | assumption)
                    have q6 : x7_1 < (a0.size : Int) := of_decide_eq_true (by first | (with_reducible assumption) | assumption)
                    have hx6 := bt_at a0 x7_1
                    replace p6 := eq_true p6
                    replace q6 := eq_true q6
                    have p7 : 0 ≤ (x7_1 : Int) := of_decide_eq_true (by first | (with_reducible assumption) | assumption)
                    have q7 : x7_1 < (a0.size : Int) := of_decide_eq_true (by first | (with_reducible assumption) | assumption)
                    have hx7 := bt_at a0 x7_1
                    replace p7 := eq_true p7
                    replace q7 := eq_true q7
                    have p10 : 0 ≤ (x7_1 : Int) := of_decide_eq_true (by first | (with_reducible assumption) | assumption)
                    have q10 : x7_1 < (a0.size : Int) := of_decide_eq_true (by first | (with_reducible assumption) | assumption)
                    have hx10 := bt_at a0 x7_1
                    replace p10 := eq_true p10
                    replace q10 := eq_true q10
                    go_wp2
                    go_ret3
                    exact ⟨by first | rfl | (simp; done) | (simp [*]; done) | (simp; exact bne_nil_isEmpty _) | exact bne_nil_isEmpty _ | (simp; exact (bne_nil_isEmpty _).symm) | (simp; exact bne_nil_isEmpty' _), by repeat (first | exact Drawn0.refl _ | apply Drawn0.step)⟩
                  · rw [if_neg c11] at H
                    have c11b0 : ((bt a0 x7_1) == 0) = false := beq_eq_false_iff_ne.mpr c11
                    have c11b1 : ((bt a0 x7_1) != 0) = true := bne_iff_ne.mpr c11
                    simp only [Option.some.injEq, Prod.mk.injEq] at H
                    obtain ⟨rfl, rfl, rfl⟩ := H
                    have p6 : 0 ≤ (x7_1 : Int) := of_decide_eq_true (by first | (with_reducible assumption) | assumption)
                    have q6 : x7_1 < (a0.size : Int) := of_decide_eq_true (by first | (with_reducible assumption) | assumption)
                    have hx6 := bt_at a0 x7_1
                    replace p6 := eq_true p6
                    replace q6 := eq_true q6
                    have p7 : 0 ≤ (x7_1 : Int) := of_decide_eq_true (by first | (with_reducible assumption) | assumption)
                    have q7 : x7_1 < (a0.size : Int) := of_decide_eq_true (by first | (with_reducible assumption) | assumption)
                    have hx7 := bt_at a0 x7_1
                    replace p7 := eq_true p7
                    replace q7 := eq_true q7
                    have p10 : 0 ≤ (x7_1 : Int) := of_decide_eq_true (by first | (with_reducible assumption) | assumption)
                    have q10 : x7_1 < (a0.size : Int) := of_decide_eq_true (by first | (with_reducible assumption) | assumption)
                    have hx10 := bt_at a0 x7_1
                    replace p10 := eq_true p10
                    replace q10 := eq_true q10
                    go_wp2
                    go_ret3
                    exact ⟨by first | rfl | (simp; done) | (simp [*]; done) | (simp; exact bne_nil_isEmpty _) | exact bne_nil_isEmpty _ | (simp; exact (bne_nil_isEmpty _).symm) | (simp; exact bne_nil_isEmpty' _), by repeat (first | exact Drawn0.refl _ | apply Drawn0.step)⟩
                · rw [if_neg c9] at H
                  have c9b0 : decide (0 < x7_1) = false := decide_eq_false c9
                  clear c9
                  simp only [Option.some.injEq, Prod.mk.injEq] at H
                  obtain ⟨rfl, rfl, rfl⟩ := H
                  have p6 : 0 ≤ (x7_1 : Int) := of_decide_eq_true (by first | (with_reducible assumption) | assumption)
                  have q6 : x7_1 < (a0.size : Int) := of_decide_eq_true (by first | (with_reducible assumption) | assumption)
                  have hx6 := bt_at a0 x7_1
                  replace p6 := eq_true p6
                  replace q6 := eq_true q6
                  have p7 : 0 ≤ (x7_1 : Int) := of_decide_eq_true (by first | (with_reducible assumption) | assumption)
                  have q7 : x7_1 < (a0.size : Int) := of_decide_eq_true (by first | (with_reducible assumption) | assumption)
                  have hx7 := bt_at a0 x7_1
                  replace p7 := eq_true p7
                  replace q7 := eq_true q7
                  go_wp2
                  go_ret3
                  exact ⟨by first | rfl | (simp; done) | (simp [*]; done) | (simp; exact bne_nil_isEmpty _) | exact bne_nil_isEmpty _ | (simp; exact (bne_nil_isEmpty _).symm) | (simp; exact bne_nil_isEmpty' _), by repeat (first | exact Drawn0.refl _ | apply Drawn0.step)⟩
              · rw [if_neg c8] at H
                have c8b0 : decide ((bt a0 x7_1) < 128) = false := decide_eq_false c8
                clear c8
                have H' := Aside0.mk H
                clear H
                have p6 : 0 ≤ (x7_1 : Int) := of_decide_eq_true (by first | (with_reducible assumption) | assumption)
                have q6 : x7_1 < (a0.size : Int) := of_decide_eq_true (by first | (with_reducible assumption) | assumption)
                have hx6 := bt_at a0 x7_1
                replace p6 := eq_true p6
                replace q6 := eq_true q6
                have p7 : 0 ≤ (x7_1 : Int) := of_decide_eq_true (by first | (with_reducible assumption) | assumption)
                have q7 : x7_1 < (a0.size : Int) := of_decide_eq_true (by first | (with_reducible assumption) | assumption)
                have hx7 := bt_at a0 x7_1
                replace p7 := eq_true p7
                replace q7 := eq_true q7
                go_wp2
                go_roundg k1
                case measure => have := HK1.out; omega
                case rel => exact ⟨(wrap64 (x5_1 + (wrap64 ((wrap64 (Int.tmod (bt a0 x7_1) 128)) * x6_1)))), (wrap64 (x6_1 * 128)), (wrap64 (x7_1 + 1)), (by first | rfl | (simp; done) | (simp [*]; done) | (simp; exact bne_nil_isEmpty _) | exact bne_nil_isEmpty _ | (simp; exact (bne_nil_isEmpty _).symm) | (simp; exact bne_nil_isEmpty' _)), (by first | rfl | (simp; done) | (simp [*]; done) | (simp; exact bne_nil_isEmpty _) | exact bne_nil_isEmpty _ | (simp; exact (bne_nil_isEmpty _).symm) | (simp; exact bne_nil_isEmpty' _)), (by first | rfl | (simp; done) | (simp [*]; done) | (simp; exact bne_nil_isEmpty _) | exact bne_nil_isEmpty _ | (simp; exact (bne_nil_isEmpty _).symm) | (simp; exact bne_nil_isEmpty' _)), H', ⟨by have := HK1.out; omega⟩, by repeat (first | exact Drawn0.refl _ | apply Drawn0.step)⟩
            · rw [if_neg c5] at H
              exact absurd H (by simp)
          · rw [if_neg c4] at H
            exact absurd H (by simp)
      · rw [if_neg c2] at H
        have c2b0 : decide (x7_1 < 4) = false := decide_eq_false c2
        clear c2
        simp only [Option.some.injEq, Prod.mk.injEq] at H
        obtain ⟨rfl, rfl, rfl⟩ := H
        go_wp2
        go_ret3
        exact ⟨by first | rfl | (simp; done) | (simp [*]; done) | (simp; exact bne_nil_isEmpty _) | exact bne_nil_isEmpty _ | (simp; exact (bne_nil_isEmpty _).symm) | (simp; exact bne_nil_isEmpty' _), by repeat (first | exact Drawn0.refl _ | apply Drawn0.step)⟩

end Go.Proofs.Ytngmipfobcaojaa.HA
end

-- YtngmipfobcaojaaHAhVarLaw
section
/- The document's reading of a variable number takes back what varint.Bytes has written. -/
-- FOR polyglot/polyglotref02.Read
namespace Go.Proofs.Ytngmipfobcaojaa.HA
open Go.RowKit Go.Proofs.YtngmipfobcaojaaW.PrintWords Go.Proofs.YtngmipfobcaojaaW.PrintLast Go.Proofs.YtngmipfobcaojaaW.PrintMore
set_option linter.unusedVariables false
set_option linter.unusedSimpArgs false
theorem bytesOf_append (a b : ByteArray) : bytesOf (a ++ b) = bytesOf a ++ bytesOf b := by
  unfold bytesOf
  simp [ByteArray.data_append]
theorem bytesOf_nums (l : List Int) (h : ∀ x ∈ l, 0 ≤ x ∧ x < 256) : bytesOf (strOfNums l) = l := by
  unfold bytesOf
  rw [Go.strOfNums_data, List.map_map]
  conv => rhs; rw [← List.map_id l]
  apply List.map_congr_left
  intro x hx
  have := h x hx
  simp only [Function.comp, id]
  rw [UInt8.toNat_ofNat_of_lt' (by simp; omega)]
  omega
theorem varTo_range : ∀ (d x : Nat), ∀ y ∈ varTo d x, 0 ≤ y ∧ y < 256 := by
  intro d
  induction d with
  | zero =>
    intro x y hy
    simp only [varTo, List.mem_singleton] at hy
    omega
  | succ d ih =>
    intro x y hy
    simp only [varTo] at hy
    split at hy
    · rcases List.mem_cons.1 hy with rfl | hy
      · rw [Go.u8_or128_right _ (by omega) (by omega)]; omega
      · exact ih _ y hy
    · simp only [List.mem_singleton] at hy
      omega
theorem varTo_len : ∀ (d x : Nat), 1 ≤ (varTo d x).length ∧ (varTo d x).length ≤ d + 1 := by
  intro d
  induction d with
  | zero => intro x; simp [varTo]
  | succ d ih =>
    intro x
    simp only [varTo]
    split
    · have := ih (x / 128); simp; omega
    · simp
theorem bt_drop (s : ByteArray) (l : List Int) (i : Nat) (h : (bytesOf s).drop i = l) (j : Nat) (hj : j < l.length) : bt s ((i + j : Nat) : Int) = l[j]'hj ∧ i + j < s.size := by
  have hl : i + j < (bytesOf s).length := by
    have := congrArg List.length h
    rw [List.length_drop] at this
    omega
  refine ⟨?_, by rw [bytesOf_length] at hl; exact hl⟩
  rw [← rd_bytesOf]
  unfold rd
  subst h
  rw [List.getD_eq_getElem?_getD, Int.toNat_natCast, List.getElem?_eq_getElem hl]
  simp
theorem read_l0 : ∀ (d k x acc M i : Nat) (s : ByteArray) (t : List Int), x < 128 ^ (d + 1) → i + d = 3 → acc + x * M < 268435456 → ((i = 0 ∧ M = 1) ∨ (i = 1 ∧ M = 128) ∨ (i = 2 ∧ M = 16384) ∨ (i = 3 ∧ M = 2097152)) → (i = 0 ∨ 0 < x) → (bytesOf s).drop i = varTo d x ++ t → d < k →
    polyglotref02_Read.l0 k s acc M i = some (((acc + x * M : Nat) : Int), ((i + (varTo d x).length : Nat) : Int), (0 : Int)) := by
  intro d
  induction d with
  | zero =>
    intro k x acc M i s t hx hi hX hM h0 hs hk
    obtain ⟨k, rfl⟩ : ∃ m, k = m + 1 := ⟨k - 1, by omega⟩
    obtain ⟨b0, b1⟩ := bt_drop s _ i hs 0 (by simp [varTo])
    have b0' : bt s (i : Int) = (x : Int) := by
      have e : (varTo 0 x ++ t)[0]'(by simp [varTo]) = (x : Int) % 256 := by simp [varTo]
      rw [Nat.add_zero] at b0
      rw [b0, e]; omega
    rw [polyglotref02_Read.l0.eq_def]
    simp only []
    have hxM : ((x * M : Nat) : Int) = (x : Int) * (M : Int) := by push_cast; rfl
    rw [if_pos (by omega), if_neg (by omega), if_pos (by omega), if_pos (by omega), b0', if_pos (by omega)]
    have em : Int.tmod (x : Int) 128 = x := by rw [Int.tmod_eq_emod_of_nonneg (by omega)]; omega
    rw [em, w64 (x : Int) (by omega) (by omega), ← hxM, w64 ((x * M : Nat) : Int) (by omega) (by omega), w64 _ (by omega) (by omega), w64 _ (by omega) (by omega)]
    have er : (some ((acc : Int) + ((x * M : Nat) : Int), (i : Int) + 1, (0 : Int))) = some (((acc + x * M : Nat) : Int), ((i + (varTo 0 x).length : Nat) : Int), 0) := by
      simp [varTo]
    by_cases hi0 : (i : Int) > 0
    · rw [if_pos hi0, if_neg (by omega)]
      exact er
    · rw [if_neg hi0]
      exact er
  | succ d ih =>
    intro k x acc M i s t hx hi hX hM h0 hs hk
    obtain ⟨k, rfl⟩ : ∃ m, k = m + 1 := ⟨k - 1, by omega⟩
    obtain ⟨b0, b1⟩ := bt_drop s _ i hs 0 (by have := varTo_len (d + 1) x; simp; omega)
    rw [Nat.add_zero] at b0
    rw [polyglotref02_Read.l0.eq_def]
    simp only []
    have hxM : ((x * M : Nat) : Int) = (x : Int) * (M : Int) := by push_cast; rfl
    rw [if_pos (by omega), if_neg (by omega), if_pos (by omega), if_pos (by omega)]
    by_cases hx8 : x ≥ 128
    · have ev : varTo (d + 1) x = (((x : Int) % 128) % 256 + 128) :: varTo d (x / 128) := by
        simp only [varTo]
        rw [if_pos hx8, Go.u8_or128_right _ (by omega) (by omega)]
      have b0' : bt s (i : Int) = (x : Int) % 128 + 128 := by
        rw [b0]
        simp only [ev, List.cons_append, List.getElem_cons_zero]
        omega
      rw [b0', if_neg (by omega)]
      have em : Int.tmod ((x : Int) % 128 + 128) 128 = ((x % 128 : Nat) : Int) := by rw [Int.tmod_eq_emod_of_nonneg (by omega)]; omega
      have hxm2 : ((x % 128 * M : Nat) : Int) = ((x % 128 : Nat) : Int) * (M : Int) := by push_cast; rfl
      have hsum : x % 128 * M + x / 128 * (M * 128) = x * M := by
        have := Nat.mod_add_div x 128
        calc x % 128 * M + x / 128 * (M * 128) = (x % 128 + 128 * (x / 128)) * M := by rw [Nat.add_mul]; congr 1; rw [Nat.mul_comm M 128, ← Nat.mul_assoc, Nat.mul_comm 128 (x / 128)]
          _ = x * M := by rw [this]
      rw [em, w64 ((x % 128 : Nat) : Int) (by omega) (by omega), ← hxm2, w64 ((x % 128 * M : Nat) : Int) (by omega) (by omega), w64 ((acc : Int) + _) (by omega) (by omega), w64 ((M : Int) * 128) (by omega) (by omega), w64 ((i : Int) + 1) (by omega) (by omega)]
      rw [show (acc : Int) + ((x % 128 * M : Nat) : Int) = ((acc + x % 128 * M : Nat) : Int) by omega, show (M : Int) * 128 = ((M * 128 : Nat) : Int) by omega, show (i : Int) + 1 = ((i + 1 : Nat) : Int) by omega]
      rw [ih k (x / 128) (acc + x % 128 * M) (M * 128) (i + 1) s t (by rw [Nat.pow_succ] at hx; omega) (by omega) (by omega) (by omega) (Or.inr (by omega)) (by
          rw [← List.drop_drop, hs, ev]; simp) (by omega)]
      rw [ev, List.length_cons]
      simp only [Option.some.injEq, Prod.mk.injEq]
      exact ⟨by omega, by omega, trivial⟩
    · have ev : varTo (d + 1) x = [(x : Int) % 256] := by
        simp only [varTo]
        rw [if_neg hx8]
      have b0' : bt s (i : Int) = (x : Int) := by
        rw [b0]
        simp only [ev, List.cons_append, List.getElem_cons_zero]
        omega
      rw [b0', if_pos (by omega)]
      have em : Int.tmod (x : Int) 128 = x := by rw [Int.tmod_eq_emod_of_nonneg (by omega)]; omega
      rw [em, w64 (x : Int) (by omega) (by omega), ← hxM, w64 ((x * M : Nat) : Int) (by omega) (by omega), w64 _ (by omega) (by omega), w64 _ (by omega) (by omega)]
      have er : (some ((acc : Int) + ((x * M : Nat) : Int), (i : Int) + 1, (0 : Int))) = some (((acc + x * M : Nat) : Int), ((i + (varTo (d + 1) x).length : Nat) : Int), 0) := by
        rw [ev]
        simp
      by_cases hi0 : (i : Int) > 0
      · rw [if_pos hi0, if_neg (by omega)]
        exact er
      · rw [if_neg hi0]
        exact er
theorem read_var (n : Nat) (h : n ≤ 268435455) (t : ByteArray) (k : Nat) (hk : 3 < k) :
    polyglotref02_Read.f k ((varS n).1 ++ t) = some ((n : Int), (((varS n).1.size : Nat) : Int), 0) := by
  have e : (varS n).1 = strOfNums (varTo 3 n) := by
    unfold varS
    rw [if_pos (by constructor <;> omega), Int.toNat_natCast]
  have := read_l0 3 k n 0 1 0 ((varS n).1 ++ t) (bytesOf t) (by omega) rfl (by omega) (Or.inl ⟨rfl, rfl⟩) (Or.inl rfl) (by
    rw [List.drop_zero, bytesOf_append, e, bytesOf_nums _ (varTo_range 3 n)]) hk
  unfold polyglotref02_Read.f
  rw [show ((0 : Nat) : Int) = 0 from rfl, show ((1 : Nat) : Int) = 1 from rfl] at this
  rw [this, e, strOfNums_size]
  simp
end Go.Proofs.Ytngmipfobcaojaa.HA
end

-- YtngmipfobcaojaaHAhVarBack
section
/- varint.Read takes back what varint.Bytes has written, and what it reads is written so. -/
-- FOR polyglot/varint.Read
namespace Go.Proofs.Ytngmipfobcaojaa.HA
open Go.RowKit Go.Proofs.YtngmipfobcaojaaW.PrintWords Go.Proofs.YtngmipfobcaojaaW.PrintLast Go.Proofs.YtngmipfobcaojaaW.PrintMore
set_option linter.unusedVariables false
set_option linter.unusedSimpArgs false
theorem byN_at (s : ByteArray) (l : List Int) (i : Nat) (h : (bytesOf s).drop i = l) (j : Nat) (hj : j < l.length) : (byN s (i + j) : Int) = l[j]'hj ∧ i + j < s.size := by
  obtain ⟨h1, h2⟩ := bt_drop s l i h j hj
  exact ⟨by rw [← (byN_eq s (i + j)).1]; exact h1, h2⟩
theorem rdV_back : ∀ (d x acc M i : Nat) (s : ByteArray) (t : List Int), x < 128 ^ (d + 1) → (i = 0 ∨ 0 < x) → (bytesOf s).drop i = varTo d x ++ t →
    rdV s (d + 1) i acc M = (((acc + x * M : Nat) : Int), ((i + (varTo d x).length : Nat) : Int), (0 : Int)) := by
  intro d
  induction d with
  | zero =>
    intro x acc M i s t hx h0 hs
    obtain ⟨b0, b1⟩ := byN_at s _ i hs 0 (by simp [varTo])
    have e : (varTo 0 x ++ t)[0]'(by simp [varTo]) = (x : Int) % 256 := by simp [varTo]
    rw [Nat.add_zero] at b0 b1
    have bx : byN s i = x := by rw [e] at b0; omega
    rw [rdV, if_neg (by omega), bx, if_pos (by omega), if_neg (by omega)]
    simp [varTo]
  | succ d ih =>
    intro x acc M i s t hx h0 hs
    obtain ⟨b0, b1⟩ := byN_at s _ i hs 0 (by have := varTo_len (d + 1) x; simp; omega)
    rw [Nat.add_zero] at b0 b1
    rw [rdV, if_neg (by omega)]
    by_cases hx8 : x ≥ 128
    · have ev : varTo (d + 1) x = (((x : Int) % 128) % 256 + 128) :: varTo d (x / 128) := by
        simp only [varTo]
        rw [if_pos hx8, Go.u8_or128_right _ (by omega) (by omega)]
      have bx : byN s i = x % 128 + 128 := by
        have : (byN s i : Int) = ((x : Int) % 128) % 256 + 128 := by
          rw [b0]; simp only [ev, List.cons_append, List.getElem_cons_zero]
        omega
      rw [bx, if_neg (by omega)]
      have hsum : x % 128 * M + x / 128 * (M * 128) = x * M := by
        have := Nat.mod_add_div x 128
        calc x % 128 * M + x / 128 * (M * 128) = (x % 128 + 128 * (x / 128)) * M := by rw [Nat.add_mul]; congr 1; rw [Nat.mul_comm M 128, ← Nat.mul_assoc, Nat.mul_comm 128 (x / 128)]
          _ = x * M := by rw [this]
      rw [show (x % 128 + 128) % 128 = x % 128 by omega, ih (x / 128) _ (M * 128) (i + 1) s t (by rw [Nat.pow_succ] at hx; omega) (Or.inr (by omega)) (by rw [← List.drop_drop, hs, ev]; simp)]
      rw [ev, List.length_cons]
      simp only [Prod.mk.injEq]
      exact ⟨by omega, by omega, trivial⟩
    · have ev : varTo (d + 1) x = [(x : Int) % 256] := by
        simp only [varTo]
        rw [if_neg hx8]
      have bx : byN s i = x := by
        have : (byN s i : Int) = (x : Int) % 256 := by
          rw [b0]; simp only [ev, List.cons_append, List.getElem_cons_zero]
        omega
      rw [bx, if_pos (by omega), if_neg (by omega), ev]
      simp
theorem readVar_back (n : Nat) (h : n ≤ 268435455) (t : ByteArray) : readVarS ((varS n).1 ++ t) = ((n : Int), (((varS n).1.size : Nat) : Int), 0) := by
  have e : (varS n).1 = strOfNums (varTo 3 n) := by
    unfold varS
    rw [if_pos (by constructor <;> omega), Int.toNat_natCast]
  have := rdV_back 3 n 0 1 0 ((varS n).1 ++ t) (bytesOf t) (by omega) (Or.inl rfl) (by
    rw [List.drop_zero, bytesOf_append, e, bytesOf_nums _ (varTo_range 3 n)])
  unfold readVarS
  rw [this, e, strOfNums_size]
  simp
theorem byN_drop (s : ByteArray) (i : Nat) (h : i < s.size) : (bytesOf s).drop i = (byN s i : Int) :: (bytesOf s).drop (i + 1) := by
  have hl : i < (bytesOf s).length := by rw [bytesOf_length]; exact h
  rw [List.drop_eq_getElem_cons hl]
  have := (byN_at s ((bytesOf s).drop i) i rfl 0 (by rw [List.length_drop]; omega)).1
  rw [Nat.add_zero] at this
  rw [this]
  simp
theorem rdV_inv (s : ByteArray) : ∀ (d i acc M : Nat) (n z : Int), rdV s (d + 1) i acc M = (n, z, 0) →
    ∃ x : Nat, x < 128 ^ (d + 1) ∧ n = ((acc + x * M : Nat) : Int) ∧ z = ((i + (varTo d x).length : Nat) : Int) ∧ (bytesOf s).drop i = varTo d x ++ (bytesOf s).drop (i + (varTo d x).length) ∧ (i = 0 ∨ 0 < x) := by
  intro d
  induction d with
  | zero =>
    intro i acc M n z h
    rw [rdV] at h
    by_cases h1 : s.size ≤ i
    · rw [if_pos h1] at h; simp at h
    rw [if_neg h1] at h
    obtain ⟨_, hb⟩ := byN_eq s i
    by_cases h2 : byN s i < 128
    · rw [if_pos h2] at h
      by_cases h3 : 0 < i ∧ byN s i = 0
      · rw [if_pos h3] at h; simp at h
      rw [if_neg h3] at h
      simp only [Prod.mk.injEq] at h
      have ev : varTo 0 (byN s i) = [(byN s i : Int)] := by simp only [varTo]; rw [Int.emod_eq_of_lt (by omega) (by omega)]
      refine ⟨byN s i, by omega, h.1.symm, by rw [ev]; simp; omega, ?_, by omega⟩
      rw [ev]
      exact byN_drop s i (by omega)
    · rw [if_neg h2, rdV] at h
      simp at h
  | succ d ih =>
    intro i acc M n z h
    rw [rdV] at h
    by_cases h1 : s.size ≤ i
    · rw [if_pos h1] at h; simp at h
    rw [if_neg h1] at h
    obtain ⟨_, hb⟩ := byN_eq s i
    by_cases h2 : byN s i < 128
    · rw [if_pos h2] at h
      by_cases h3 : 0 < i ∧ byN s i = 0
      · rw [if_pos h3] at h; simp at h
      rw [if_neg h3] at h
      simp only [Prod.mk.injEq] at h
      have ev : varTo (d + 1) (byN s i) = [(byN s i : Int)] := by
        simp only [varTo]
        rw [if_neg (by omega), Int.emod_eq_of_lt (by omega) (by omega)]
      refine ⟨byN s i, ?_, h.1.symm, by rw [ev]; simp; omega, ?_, by omega⟩
      · calc byN s i < 128 ^ 1 := by omega
          _ ≤ 128 ^ (d + 1 + 1) := Nat.pow_le_pow_right (by omega) (by omega)
      · rw [ev]
        exact byN_drop s i (by omega)
    · rw [if_neg h2] at h
      obtain ⟨x, hx, hn, hz, hs, h0⟩ := ih (i + 1) _ _ n z h
      have hx0 : 0 < x := by omega
      have e1 : (byN s i % 128 + 128 * x) % 128 = byN s i % 128 := by omega
      have e2 : (byN s i % 128 + 128 * x) / 128 = x := by omega
      have ev : varTo (d + 1) (byN s i % 128 + 128 * x) = (byN s i : Int) :: varTo d x := by
        simp only [varTo]
        rw [if_pos (by omega), Go.u8_or128_right _ (by omega) (by omega), e2]
        congr 1
        omega
      refine ⟨byN s i % 128 + 128 * x, ?_, ?_, ?_, ?_, Or.inr (by omega)⟩
      · rw [Nat.pow_succ]; omega
      · rw [hn]
        have : (byN s i % 128 + 128 * x) * M = byN s i % 128 * M + x * (M * 128) := by
          rw [Nat.add_mul]; congr 1; rw [Nat.mul_comm M 128, ← Nat.mul_assoc, Nat.mul_comm 128 x]
        rw [this]
        omega
      · rw [hz, ev, List.length_cons]; omega
      · rw [ev, byN_drop s i (by omega), hs]
        simp only [List.cons_append, List.length_cons]
        rw [show i + 1 + (varTo d x).length = i + ((varTo d x).length + 1) by omega]
theorem readVar_inv (s : ByteArray) (n z : Int) (h : readVarS s = (n, z, 0)) : 0 ≤ n ∧ n ≤ 268435455 ∧ z = (varS n).1.size ∧ ∃ t, s = (varS n).1 ++ t := by
  obtain ⟨x, hx, hn, hz, hs, _⟩ := rdV_inv s 3 0 0 1 n z h
  have hnx : n = (x : Int) := by rw [hn]; omega
  have e : (varS n).1 = strOfNums (varTo 3 x) := by
    unfold varS
    rw [if_pos (by constructor <;> omega), hnx, Int.toNat_natCast]
  refine ⟨by omega, by omega, by rw [hz, e, strOfNums_size]; omega, strOfNums ((bytesOf s).drop (varTo 3 x).length), ?_⟩
  rw [e]
  rw [List.drop_zero, Nat.zero_add] at hs
  apply ByteArray.ext
  apply Array.ext'
  rw [ByteArray.data_append, Array.toList_append, Go.strOfNums_data, Go.strOfNums_data, ← List.map_append, ← hs]
  unfold bytesOf
  rw [List.map_map]
  have : ((fun n : Int => UInt8.ofNat n.toNat) ∘ fun b : UInt8 => ((b.toNat : Nat) : Int)) = id := by
    funext b
    simp
  rw [this, List.map_id]
end Go.Proofs.Ytngmipfobcaojaa.HA
end

-- YtngmipfobcaojaaHAhBytesLaw
section
/- When prop.Bytes answers, and what: without its counts. -/
-- FOR polyglot/prop.Bytes
namespace Go.Proofs.Ytngmipfobcaojaa.HA
open Go.RowKit Go.Proofs.YtngmipfobcaojaaW.PrintWords Go.Proofs.YtngmipfobcaojaaW.PrintLast Go.Proofs.YtngmipfobcaojaaW.PrintMore
set_option linter.unusedVariables false
set_option linter.unusedSimpArgs false
abbrev PropT := S27
def cnt (i : Nat) (l : List PropT) : Nat := l.countP fun p => decide (p.f0.toNat = i)
def encP (p : PropT) : List Int := [p.f0 % 256] ++ bytesOf (valS (ruleOf p.f0).1 p)
def encL (l : List PropT) : List Int := (l.map encP).flatten
def goodC (kind : Int) (l : List PropT) (c : Nat → Int) : Prop :=
  (∀ p ∈ l, checkS (ruleOf p.f0) kind p = 0) ∧ (∀ p ∈ l, 1 < c p.f0.toNat + (cnt p.f0.toNat l : Int) → oftenB kind p.f0 = true)
theorem cnt_cons (i : Nat) (p : PropT) (l : List PropT) : cnt i (p :: l) = cnt i l + if p.f0.toNat = i then 1 else 0 := by
  unfold cnt
  rw [List.countP_cons]
  simp
theorem upd_eq (c : Nat → Int) (i : Nat) (v : Int) (j : Nat) : upd c i v j = if j = i then v else c j := by
  unfold upd
  rfl
theorem good_id {kind : Int} {l : List PropT} {c : Nat → Int} (h : goodC kind l c) : ∀ p ∈ l, 1 ≤ p.f0 ∧ p.f0 ≤ 42 := fun p hp => check_id kind p (h.1 p hp)
theorem good_cons (kind : Int) (p : PropT) (l : List PropT) (c : Nat → Int) (hc : ∀ i, 0 ≤ c i) :
    goodC kind (p :: l) c ↔ (checkS (ruleOf p.f0) kind p = 0 ∧ (1 < c p.f0.toNat + 1 → oftenB kind p.f0 = true) ∧ goodC kind l (upd c p.f0.toNat (c p.f0.toNat + 1))) := by
  have same : ∀ q : PropT, checkS (ruleOf p.f0) kind p = 0 → checkS (ruleOf q.f0) kind q = 0 → q.f0.toNat = p.f0.toNat → q.f0 = p.f0 := by
    intro q h1 h2 h3
    have := check_id kind p h1
    have := check_id kind q h2
    omega
  constructor
  · rintro ⟨h1, h2⟩
    have hp := h1 p List.mem_cons_self
    refine ⟨hp, fun h => h2 p List.mem_cons_self ?_, fun q hq => h1 q (List.mem_cons_of_mem _ hq), fun q hq h => h2 q (List.mem_cons_of_mem _ hq) ?_⟩
    · rw [cnt_cons, if_pos rfl]; omega
    · rw [upd_eq] at h
      rw [cnt_cons]
      by_cases e : q.f0.toNat = p.f0.toNat
      · rw [if_pos e] at h; rw [if_pos e.symm]; rw [e] at h ⊢; omega
      · rw [if_neg e] at h; rw [if_neg (fun x => e x.symm)]; omega
  · rintro ⟨h1, h2, h3, h4⟩
    refine ⟨fun q hq => ?_, fun q hq h => ?_⟩
    · rcases List.mem_cons.1 hq with rfl | hq
      · exact h1
      · exact h3 q hq
    · rcases List.mem_cons.1 hq with rfl | hq
      · by_cases e : ∃ x ∈ l, x.f0.toNat = q.f0.toNat
        · obtain ⟨x, hx, e⟩ := e
          have := h4 x hx (by
            rw [upd_eq, if_pos e, e]
            rw [cnt_cons, if_pos rfl] at h
            omega)
          rwa [same x h1 (h3 x hx) e] at this
        · have : cnt q.f0.toNat l = 0 := by
            unfold cnt
            rw [List.countP_eq_zero]
            intro x hx hh
            exact e ⟨x, hx, by simpa using hh⟩
          apply h2
          rw [cnt_cons, if_pos rfl, this] at h
          omega
      · apply h4 q hq
        rw [cnt_cons] at h
        rw [upd_eq]
        by_cases e : q.f0.toNat = p.f0.toNat
        · rw [if_pos e]; rw [if_pos e.symm] at h; rw [e] at h ⊢; omega
        · rw [if_neg e]; rw [if_neg (fun x => e x.symm)] at h; omega
theorem bytesTo_good (kind : Int) : ∀ (l : List PropT) (c : Nat → Int) (acc : List Int), (∀ i, 0 ≤ c i) → goodC kind l c →
    bytesTo kind l c acc = if decide (0 < c 22 + (cnt 22 l : Int)) && c 21 + (cnt 21 l : Int) == 0 then (⟨#[]⟩, 9)
      else if (varS (acc ++ encL l).length).2 = 0 then ((varS (acc ++ encL l).length).1 ++ strOfNums (acc ++ encL l), 0) else (⟨#[]⟩, 4) := by
  intro l
  induction l with
  | nil =>
    intro c acc hc _
    simp [bytesTo, encL, cnt]
  | cons p l ih =>
    intro c acc hc h
    obtain ⟨h1, h2, h3⟩ := (good_cons kind p l c hc).1 h
    rw [bytesTo, if_neg (by rw [h1]; simp)]
    have hb : (decide (1 < c p.f0.toNat + 1) && !oftenB kind p.f0) = false := by
      by_cases q : 1 < c p.f0.toNat + 1
      · rw [h2 q]; simp
      · simp [q]
    rw [hb]
    simp only [Bool.false_eq_true, if_false]
    rw [ih _ _ (fun i => by rw [upd_eq]; split; · have := hc p.f0.toNat; omega
                            · exact hc i) h3]
    have ea : acc ++ [p.f0 % 256] ++ bytesOf (valS (ruleOf p.f0).1 p) ++ encL l = acc ++ encL (p :: l) := by
      simp [encL, encP]
    have ec : ∀ i, upd c p.f0.toNat (c p.f0.toNat + 1) i + (cnt i l : Int) = c i + (cnt i (p :: l) : Int) := by
      intro i
      rw [upd_eq, cnt_cons]
      by_cases e : i = p.f0.toNat
      · subst e; simp; omega
      · rw [if_neg e, if_neg (fun x => e x.symm)]; omega
    rw [ea, ec, ec]
theorem bytesTo_bad (kind : Int) : ∀ (l : List PropT) (c : Nat → Int) (acc : List Int), (∀ i, 0 ≤ c i) → ¬ goodC kind l c → (bytesTo kind l c acc).2 ≠ 0 := by
  intro l
  induction l with
  | nil =>
    intro c acc hc h
    exact absurd ⟨fun _ q => by simp at q, fun _ q => by simp at q⟩ h
  | cons p l ih =>
    intro c acc hc h
    rw [bytesTo]
    by_cases h1 : checkS (ruleOf p.f0) kind p = 0
    · rw [if_neg (by rw [h1]; simp)]
      by_cases h2 : 1 < c p.f0.toNat + 1 → oftenB kind p.f0 = true
      · have hb : (decide (1 < c p.f0.toNat + 1) && !oftenB kind p.f0) = false := by
          by_cases q : 1 < c p.f0.toNat + 1
          · rw [h2 q]; simp
          · simp [q]
        rw [hb]
        simp only [Bool.false_eq_true, if_false]
        apply ih _ _ (fun i => by rw [upd_eq]; split; · have := hc p.f0.toNat; omega
                                  · exact hc i)
        intro h3
        exact h ((good_cons kind p l c hc).2 ⟨h1, h2, h3⟩)
      · have hb : (decide (1 < c p.f0.toNat + 1) && !oftenB kind p.f0) = true := by
          have q1 : 1 < c p.f0.toNat + 1 := Classical.byContradiction fun q => h2 fun x => absurd x q
          have q2 : oftenB kind p.f0 = false := by
            cases e : oftenB kind p.f0 with
            | false => rfl
            | true => exact absurd (fun _ => e) h2
          rw [q2]; simp [q1]
        rw [hb]
        simp
    · rw [if_pos h1]
      exact h1
/-- The list's own rule. -/
def good (kind : Int) (l : List PropT) : Prop := l.length ≤ 1000 ∧ goodC kind l (fun _ => 0)
def dataOk (l : List PropT) : Bool := !(decide (0 < cnt 22 l) && decide (cnt 21 l = 0))
theorem encP_len (p : PropT) : (encP p).length ≤ 131075 := by
  unfold encP
  have := valS_size (ruleOf p.f0).1 p
  simp [bytesOf]
  omega
theorem encL_len (l : List PropT) : (encL l).length ≤ 131075 * l.length := by
  induction l with
  | nil => simp [encL]
  | cons p l ih =>
    have : encL (p :: l) = encP p ++ encL l := by simp [encL]
    rw [this, List.length_append, List.length_cons]
    have := encP_len p
    omega
theorem bytes_good {kind : Int} {l : List PropT} (h : good kind l) :
    bytesS kind l = if dataOk l then ((varS (encL l).length).1 ++ strOfNums (encL l), 0) else (⟨#[]⟩, 9) := by
  unfold bytesS
  have h1 := h.1
  have hl := encL_len l
  rw [if_neg (by omega), bytesTo_good kind l (fun _ => 0) [] (fun _ => Int.le_refl 0) h.2]
  have hv : (varS ((encL l).length : Int)).2 = 0 := by
    unfold varS
    rw [if_pos (by constructor <;> omega)]
  simp only [List.nil_append, hv, if_true, Int.zero_add]
  unfold dataOk
  by_cases a : 0 < cnt 22 l <;> by_cases b : cnt 21 l = 0 <;> simp [a, b] <;> omega
theorem bytes_bad {kind : Int} {l : List PropT} (h : ¬ good kind l) : (bytesS kind l).2 ≠ 0 := by
  unfold bytesS
  by_cases h1 : l.length ≤ 1000
  · rw [if_neg (by omega)]
    exact bytesTo_bad kind l _ _ (fun _ => Int.le_refl 0) (fun q => h ⟨h1, q⟩)
  · rw [if_pos (by omega)]
    decide
theorem bytes_ok {kind : Int} {l : List PropT} : (bytesS kind l).2 = 0 ↔ good kind l ∧ dataOk l = true := by
  by_cases h : good kind l
  · rw [bytes_good h]
    cases dataOk l <;> simp [h]
  · simp [h, bytes_bad h]
theorem bytes_of {kind : Int} {l : List PropT} (h : (bytesS kind l).2 = 0) : bytesS kind l = ((varS (encL l).length).1 ++ strOfNums (encL l), 0) := by
  obtain ⟨h1, h2⟩ := bytes_ok.1 h
  rw [bytes_good h1, h2]
  rfl
/-- Only which properties there are, and how often, matters. -/
theorem cnt_perm {l m : List PropT} (h : l.Perm m) (i : Nat) : cnt i l = cnt i m := h.countP_eq _
theorem good_perm {kind : Int} {l m : List PropT} (h : l.Perm m) : good kind l → good kind m := by
  rintro ⟨h1, h2, h3⟩
  refine ⟨by rw [← h.length_eq]; exact h1, fun p hp => h2 p (h.mem_iff.2 hp), fun p hp hq => h3 p (h.mem_iff.2 hp) ?_⟩
  rw [cnt_perm h]
  exact hq
theorem data_perm {l m : List PropT} (h : l.Perm m) : dataOk l = dataOk m := by
  unfold dataOk
  rw [cnt_perm h, cnt_perm h]
theorem enc_perm {l m : List PropT} (h : l.Perm m) : (encL l).length = (encL m).length := by
  unfold encL
  exact ((h.map encP).flatten).length_eq
theorem good_sub {kind : Int} {l m : List PropT} (h : m.Sublist l) : good kind l → good kind m := by
  rintro ⟨h1, h2, h3⟩
  refine ⟨Nat.le_trans h.length_le h1, fun p hp => h2 p (h.subset hp), fun p hp hq => h3 p (h.subset hp) ?_⟩
  have : cnt p.f0.toNat m ≤ cnt p.f0.toNat l := List.Sublist.countP_le h
  simp only [Int.zero_add] at hq ⊢
  omega
end Go.Proofs.Ytngmipfobcaojaa.HA
end

-- YtngmipfobcaojaaHAhValBack
section
/- What prop.value has written, the source's methods read back. -/
-- FOR polyglot/prop.list
namespace Go.Proofs.Ytngmipfobcaojaa.HA
open Go.RowKit Go.Proofs.YtngmipfobcaojaaW.PrintWords Go.Proofs.YtngmipfobcaojaaW.PrintLast Go.Proofs.YtngmipfobcaojaaW.PrintMore
set_option linter.unusedVariables false
set_option linter.unusedSimpArgs false
theorem need_back (text a : ByteArray) (at_ : Nat) (rest : List Int) (hat : at_ ≤ text.size) (h : (bytesOf text).drop at_ = bytesOf a ++ rest) : needS text at_ 0 a.size = (a, ((at_ + a.size : Nat) : Int), 0) := by
  have hl := congrArg List.length h
  rw [List.length_drop, List.length_append, bytesOf_length, bytesOf_length] at hl
  have hsz : a.size = 0 ∨ at_ + a.size ≤ text.size := by omega
  unfold needS takeS
  by_cases hz : (a.size : Int) ≤ (text.size : Int) - at_
  · have hc : ¬ ((0 : Int) = 0 ∧ ((a.size : Int) < 0 ∨ (a.size : Int) > (text.size : Int) - at_)) := by omega
    rw [if_neg hc, if_pos rfl, if_pos ⟨by omega, hz⟩]
    have : text.extract at_ (at_ + a.size) = a := by
      have e : bytesOf (text.extract at_ (at_ + a.size)) = ((bytesOf text).drop at_).take a.size := by
        unfold bytesOf
        rw [ByteArray.data_extract, Array.toList_extract, List.extract_eq_take_drop, List.map_take, List.map_drop]
        congr 1
        omega
      rw [h, List.take_left' (bytesOf_length a)] at e
      have e2 := congrArg strOfNums e
      rwa [nums_bytes, nums_bytes] at e2
    rw [Int.toNat_natCast, show ((at_ : Int) + (a.size : Int)).toNat = at_ + a.size by omega, this]
    rfl
  · exfalso
    omega
theorem drop_more {text : ByteArray} {at_ : Nat} {A B : List Int} (h : (bytesOf text).drop at_ = A ++ B) : (bytesOf text).drop (at_ + A.length) = B := by
  rw [← List.drop_drop, h, List.drop_left]
theorem drop_le {text : ByteArray} {at_ : Nat} {A B : List Int} (h : (bytesOf text).drop at_ = A ++ B) (hat : at_ ≤ text.size) : at_ + A.length ≤ text.size := by
  have hl := congrArg List.length h
  rw [List.length_drop, List.length_append, bytesOf_length] at hl
  omega
theorem data_back (text a : ByteArray) (at_ : Nat) (rest : List Int) (hat : at_ ≤ text.size) (ha : a.size ≤ 65535) (h : (bytesOf text).drop at_ = bytesOf (binS a).1 ++ rest) :
    dataS text at_ 0 = (a, ((at_ + (binS a).1.size : Nat) : Int), 0) := by
  have eb : (binS a).1 = putS a.size 2 ++ a := by unfold binS; rw [if_neg (by omega)]
  rw [eb, bytesOf_append, List.append_assoc] at h
  have h1 := need_back text (putS a.size 2) at_ (bytesOf a ++ rest) hat h
  have hp : (putS (a.size : Int) 2).size = 2 := putS_size _ 2
  have h2 := drop_more h
  have hat2 := drop_le h hat
  rw [bytesOf_length, hp] at h2 hat2
  have h3 := need_back text a (at_ + 2) rest hat2 h2
  unfold dataS
  rw [hp] at h1
  rw [show ((2 : Nat) : Int) = 2 from rfl] at h1
  rw [h1]
  dsimp only
  rw [get_put2 _ (by omega), w64 _ (by omega) (by omega), h3, eb, ByteArray.size_append, hp, Nat.add_assoc]
theorem written_back (text a : ByteArray) (at_ : Nat) (rest : List Int) (hat : at_ ≤ text.size) (ha : validS a = true) (h : (bytesOf text).drop at_ = bytesOf (binS a).1 ++ rest) :
    writtenS text at_ 0 = (a, ((at_ + (binS a).1.size : Nat) : Int), 0) := by
  unfold writtenS
  rw [data_back text a at_ rest hat (valid_size ha) h]
  dsimp only
  rw [if_pos ha]
theorem rule_bounds (id kind : Int) (h : hasS (ruleOf id) kind = true) : 0 ≤ (ruleOf id).2.2.1 ∧ ((ruleOf id).1 = 1 → (ruleOf id).2.2.2 ≤ 255) ∧ ((ruleOf id).1 = 2 → (ruleOf id).2.2.2 ≤ 65535) ∧ ((ruleOf id).1 = 3 → (ruleOf id).2.2.2 ≤ 4294967295) ∧ ((ruleOf id).1 = 4 → (ruleOf id).2.2.2 ≤ 268435455) ∧ 1 ≤ (ruleOf id).1 ∧ (ruleOf id).1 ≤ 7 := by
  have hall : ∀ x ∈ ruleTab, 0 ≤ x.2.2.2.1 ∧ (x.2.1 = 1 → x.2.2.2.2 ≤ 255) ∧ (x.2.1 = 2 → x.2.2.2.2 ≤ 65535) ∧ (x.2.1 = 3 → x.2.2.2.2 ≤ 4294967295) ∧ (x.2.1 = 4 → x.2.2.2.2 ≤ 268435455) ∧ 1 ≤ x.2.1 ∧ x.2.1 ≤ 7 := by decide
  have hf : ∀ (l : List (Int × Int × Int × Int × Int)) (r : Int × Int × Int × Int), ruleFind l id = some r → ∃ x ∈ l, x.2 = r := by
    intro l
    induction l with
    | nil => intro r h; simp [ruleFind] at h
    | cons x l ih =>
      intro r h
      simp only [ruleFind] at h
      by_cases e : (id == x.1) = true
      · rw [if_pos e] at h
        exact ⟨x, List.mem_cons_self, Option.some.inj h⟩
      · rw [if_neg e] at h
        obtain ⟨y, hy, e2⟩ := ih r h
        exact ⟨y, List.mem_cons_of_mem _ hy, e2⟩
  cases hr : ruleFind ruleTab id with
  | some r =>
    obtain ⟨x, hx, e⟩ := hf ruleTab r hr
    have e2 : ruleOf id = x.2 := by unfold ruleOf; rw [hr, e]; rfl
    rw [e2]
    exact hall x hx
  | none =>
    exfalso
    obtain ⟨⟨f, hm⟩, h1, h2⟩ := rule_shape id kind h
    have e : ruleOf id = (0, 0, 0, 0) := by unfold ruleOf; rw [hr]; rfl
    rw [e] at hm
    simp [readTab] at hm
theorem nil_of (s : ByteArray) (h : s.toList = []) : s = ⟨#[]⟩ := by
  apply ByteArray.ext
  apply Array.ext'
  rw [Lib.toList_data] at h
  exact h
theorem check_has {ru : Int × Int × Int × Int} {kind : Int} {p : PropT} (h : checkS ru kind p = 0) : hasS ru kind = true := by
  cases e : hasS ru kind with
  | true => rfl
  | false => unfold checkS at h; rw [if_pos e] at h; omega
theorem u32r (n : Int) (h0 : 0 ≤ n) (h1 : n ≤ 4294967295) : n % 4294967296 = n := by omega
theorem value_back (text : ByteArray) (at_ : Nat) (rest : List Int) (kind : Int) (p : PropT) (hc : checkS (ruleOf p.f0) kind p = 0) (hat : at_ ≤ text.size)
    (h : (bytesOf text).drop at_ = bytesOf (valS (ruleOf p.f0).1 p) ++ rest) :
    valueS (ruleOf p.f0).1 text at_ = (p.f1, p.f2, p.f3, ((at_ + (valS (ruleOf p.f0).1 p).size : Nat) : Int), 0) := by
  have hh := check_has hc
  obtain ⟨b0, b1, b2, b3, b4, b5, b6⟩ := rule_bounds p.f0 kind hh
  generalize ruleOf p.f0 = ru at *
  unfold checkS at hc
  rw [if_neg (by rw [hh]; decide)] at hc
  by_cases h4 : ru.1 ≤ 4
  · rw [if_pos h4] at hc
    by_cases hn : ¬ p.f2.toList = [] ∨ ¬ p.f3.toList = []
    · rw [if_pos hn] at hc; omega
    rw [if_neg hn] at hc
    have e2 := nil_of p.f2 (Classical.byContradiction fun q => hn (Or.inl q))
    have e3 := nil_of p.f3 (Classical.byContradiction fun q => hn (Or.inr q))
    by_cases hr : p.f1 < ru.2.2.1 ∨ p.f1 > ru.2.2.2
    · rw [if_pos hr] at hc; omega
    rw [e2, e3]
    have hs : ru.1 = 1 ∨ ru.1 = 2 ∨ ru.1 = 3 ∨ ru.1 = 4 := by omega
    rcases hs with e | e | e | e
    · rw [e] at h ⊢
      have ev : valS 1 p = putS p.f1 1 := by unfold valS; rw [if_pos (Or.inl rfl), u64w _ (by omega) (by omega)]; rfl
      rw [ev] at h ⊢
      have hp : (putS p.f1 1).size = 1 := putS_size _ 1
      have := need_back text (putS p.f1 1) at_ rest hat h
      rw [hp, show ((1 : Nat) : Int) = 1 from rfl] at this
      unfold valueS oneS
      rw [if_pos rfl, this]
      dsimp only
      rw [get_put1 _ (by omega), u32r _ (by omega) (by omega), hp]
    · rw [e] at h ⊢
      have ev : valS 2 p = putS p.f1 2 := by unfold valS; rw [if_pos (Or.inr rfl), u64w _ (by omega) (by omega)]; rfl
      rw [ev] at h ⊢
      have hp : (putS p.f1 2).size = 2 := putS_size _ 2
      have := need_back text (putS p.f1 2) at_ rest hat h
      rw [hp, show ((2 : Nat) : Int) = 2 from rfl] at this
      unfold valueS twoS
      rw [if_neg (by decide), if_pos rfl, this]
      dsimp only
      rw [get_put2 _ (by omega), u32r _ (by omega) (by omega), hp]
    · rw [e] at h ⊢
      have ev : valS 3 p = putS p.f1 4 := by unfold valS; rw [if_neg (by decide), if_pos rfl, u64w _ (by omega) (by omega)]
      rw [ev] at h ⊢
      have hp : (putS p.f1 4).size = 4 := putS_size _ 4
      have := need_back text (putS p.f1 4) at_ rest hat h
      rw [hp, show ((4 : Nat) : Int) = 4 from rfl] at this
      unfold valueS fourS
      rw [if_neg (by decide), if_neg (by decide), if_pos rfl, this]
      dsimp only
      rw [get_put4 _ (by omega), u32r _ (by omega) (by omega), hp]
    · rw [e] at h ⊢
      have ev : valS 4 p = (varS p.f1).1 := by unfold valS; rw [if_neg (by decide), if_neg (by decide), if_pos rfl, w64 _ (by omega) (by omega)]
      rw [ev] at h ⊢
      have hle := drop_le h hat
      rw [bytesOf_length] at hle
      have er : restS text at_ = (varS p.f1).1 ++ strOfNums rest := by
        have e1 : bytesOf (restS text at_) = bytesOf (varS p.f1).1 ++ rest := by
          rw [← h]
          unfold restS bytesOf
          rw [ByteArray.data_extract, Array.toList_extract, List.extract_eq_take_drop, List.map_take, List.map_drop, Int.toNat_natCast]
          apply List.take_of_length_le
          simp
        have e2 := congrArg strOfNums e1
        rw [nums_bytes] at e2
        rw [e2]
        apply ByteArray.ext
        apply Array.ext'
        rw [ByteArray.data_append, Array.toList_append, Go.strOfNums_data, Go.strOfNums_data, List.map_append]
        congr 1
        have := congrArg (fun b : ByteArray => b.data.toList) (nums_bytes (varS p.f1).1)
        try dsimp only at this
        rw [Go.strOfNums_data] at this
        exact this
      have hv := readVar_back p.f1.toNat (by omega) (strOfNums rest)
      rw [show ((p.f1.toNat : Nat) : Int) = p.f1 by omega] at hv
      unfold valueS varyS varErr
      rw [if_neg (by decide), if_neg (by decide), if_neg (by decide), if_pos rfl, er, hv]
      dsimp only
      rw [if_pos rfl, u32r _ (by omega) (by omega)]
      unfold takeS
      rw [if_pos rfl, if_pos ⟨by omega, by omega⟩]
      simp only [Prod.mk.injEq]
      exact ⟨trivial, trivial, trivial, by omega, trivial⟩
  · rw [if_neg h4] at hc
    by_cases hn : ¬ p.f1 = 0 ∨ (¬ p.f3.toList = [] ∧ ¬ ru.1 = 7)
    · rw [if_pos hn] at hc; omega
    rw [if_neg hn] at hc
    have e1 : p.f1 = 0 := Classical.byContradiction fun q => hn (Or.inl q)
    by_cases h6 : ru.1 = 6
    · rw [if_pos h6] at hc
      have e3 := nil_of p.f3 (Classical.byContradiction fun q => hn (Or.inr ⟨q, by omega⟩))
      have hsz : p.f2.size ≤ 65535 := by
        by_cases q : (p.f2.size : Int) > 65535
        · rw [if_pos q] at hc; omega
        · omega
      rw [h6] at h ⊢
      have ev : valS 6 p = (binS p.f2).1 := by unfold valS; rw [if_neg (by decide), if_neg (by decide), if_neg (by decide), if_neg (by decide)]
      rw [ev] at h ⊢
      have := data_back text p.f2 at_ rest hat hsz h
      unfold valueS
      rw [if_neg (by decide), if_neg (by decide), if_neg (by decide), if_neg (by decide), if_neg (by decide), if_pos rfl, this, e1, e3]
    · rw [if_neg h6] at hc
      by_cases hv : validS p.f2 = false ∨ validS p.f3 = false
      · rw [if_pos hv] at hc; omega
      have v2 : validS p.f2 = true := by cases q : validS p.f2 with | true => rfl | false => exact absurd (Or.inl q) hv
      have v3 : validS p.f3 = true := by cases q : validS p.f3 with | true => rfl | false => exact absurd (Or.inr q) hv
      have hs : ru.1 = 5 ∨ ru.1 = 7 := by omega
      rcases hs with e | e
      · have e3 := nil_of p.f3 (Classical.byContradiction fun q => hn (Or.inr ⟨q, by omega⟩))
        rw [e] at h ⊢
        have ev : valS 5 p = (binS p.f2).1 := by unfold valS; rw [if_neg (by decide), if_neg (by decide), if_neg (by decide), if_neg (by decide)]
        rw [ev] at h ⊢
        have := written_back text p.f2 at_ rest hat v2 h
        unfold valueS
        rw [if_neg (by decide), if_neg (by decide), if_neg (by decide), if_neg (by decide), if_pos rfl, this, e1, e3]
      · rw [e] at h ⊢
        have ev : valS 7 p = (binS p.f2).1 ++ (binS p.f3).1 := by unfold valS; rw [if_neg (by decide), if_neg (by decide), if_neg (by decide), if_pos rfl]
        rw [ev, bytesOf_append, List.append_assoc] at h
        have w2 := written_back text p.f2 at_ _ hat v2 h
        have h3 := drop_more h
        have hat3 := drop_le h hat
        rw [bytesOf_length] at h3 hat3
        have w3 := written_back text p.f3 _ rest hat3 v3 h3
        unfold valueS pairS
        rw [if_neg (by decide), if_neg (by decide), if_neg (by decide), if_neg (by decide), if_neg (by decide), if_neg (by decide), w2]
        dsimp only
        rw [w3, e1, ev, ByteArray.size_append, Nat.add_assoc]
end Go.Proofs.Ytngmipfobcaojaa.HA
end

-- YtngmipfobcaojaaHAhListBack
section
/- prop.list takes back what a list's bytes are; what it reads is written so. -/
-- FOR polyglot/prop.list
namespace Go.Proofs.Ytngmipfobcaojaa.HA
open Go.RowKit Go.Proofs.YtngmipfobcaojaaW.PrintWords Go.Proofs.YtngmipfobcaojaaW.PrintLast Go.Proofs.YtngmipfobcaojaaW.PrintMore
set_option linter.unusedVariables false
set_option linter.unusedSimpArgs false
theorem take_back (text a : ByteArray) (at_ : Nat) (rest : List Int) (hat : at_ ≤ text.size) (h : (bytesOf text).drop at_ = bytesOf a ++ rest) : takeS text at_ 0 a.size = (a, ((at_ + a.size : Nat) : Int), 0) := by
  have hn := need_back text a at_ rest hat h
  have hl := drop_le h hat
  rw [bytesOf_length] at hl
  unfold needS at hn
  rwa [if_neg (by omega)] at hn
theorem id_back (text : ByteArray) (at_ : Nat) (id : Int) (rest : List Int) (h0 : 0 ≤ id) (h1 : id < 256) (hat : at_ ≤ text.size) (h : (bytesOf text).drop at_ = id :: rest) : idAt text at_ = id := by
  have hs : bytesOf (strOfNums [id]) = [id] := bytes_nums _ (by simpa using ⟨h0, h1⟩)
  have ht := take_back text (strOfNums [id]) at_ rest hat (by rw [hs]; exact h)
  rw [strOfNums_size] at ht
  unfold idAt
  rw [show ((1 : Int)) = (([id].length : Nat) : Int) from rfl, ht]
  dsimp only
  rw [get1 id ⟨h0, h1⟩, w64 _ (by omega) (by omega)]
theorem upd_nonneg (c : Nat → Int) (hc : ∀ i, 0 ≤ c i) (j : Nat) : ∀ i, 0 ≤ upd c j (c j + 1) i := by
  intro i
  rw [upd_eq]
  have := hc j
  have := hc i
  split <;> omega
theorem trip {α : Type} {x : α × Int × Int} (h : x.2.2 = 0) : x = (x.1, x.2.1, 0) := by
  rcases x with ⟨a, b, c⟩
  dsimp only at h
  rw [h]
theorem encL_cons (p : PropT) (l : List PropT) : encL (p :: l) = p.f0 % 256 :: (bytesOf (valS (ruleOf p.f0).1 p) ++ encL l) := by
  simp [encL, encP]
theorem list_step (kind : Int) (text : ByteArray) (hs : text.size ≤ 4000000000000000000) : ∀ (l : List PropT) (d at_ : Nat) (c : Nat → Int) (out : List PropT) (rest : List Int), (∀ i, 0 ≤ c i) → goodC kind l c → out.length + l.length ≤ 1000 → at_ ≤ text.size → (bytesOf text).drop at_ = encL l ++ rest → text.size - at_ ≤ d →
    ∃ d' : Nat, text.size - (at_ + (encL l).length) ≤ d' ∧ listTo kind text d at_ c out = listTo kind text d' ((at_ + (encL l).length : Nat) : Int) (fun i => c i + (cnt i l : Int)) (out ++ l) := by
  intro l
  induction l with
  | nil =>
    intro d at_ c out rest hc _ _ hat h hd
    refine ⟨d, by simpa [encL] using hd, ?_⟩
    have ec : (fun i => c i + (cnt i [] : Int)) = c := by funext i; simp [cnt]
    rw [ec, List.append_nil]
    simp [encL]
  | cons p l ih =>
    intro d at_ c out rest hc hg hlen hat h hd
    obtain ⟨h1, h2, h3⟩ := (good_cons kind p l c hc).1 hg
    rw [encL_cons] at h
    have hpos : at_ < text.size := by
      have := congrArg List.length h
      rw [List.length_drop, bytesOf_length, List.cons_append, List.length_cons] at this
      omega
    obtain ⟨d, rfl⟩ : ∃ m, d = m + 1 := ⟨d - 1, by omega⟩
    have hid := check_id kind p h1
    have e256 : p.f0 % 256 = p.f0 := by omega
    rw [e256, List.cons_append, List.append_assoc] at h
    have hidAt := id_back text at_ p.f0 _ (by omega) (by omega) hat h
    have hd1 : (bytesOf text).drop (at_ + 1) = bytesOf (valS (ruleOf p.f0).1 p) ++ (encL l ++ rest) := by
      rw [← List.drop_drop, h]; rfl
    have hv := value_back text (at_ + 1) (encL l ++ rest) kind p h1 (by omega) hd1
    have hd2 := drop_more hd1
    have hat2 := drop_le hd1 (by omega)
    rw [bytesOf_length] at hd2 hat2
    rw [listTo, if_neg (by omega), hidAt, check_has h1, if_neg (by decide), show (at_ : Int) + 1 = ((at_ + 1 : Nat) : Int) by omega, hv]
    dsimp only
    rw [if_neg (by simp)]
    have ep : (⟨p.f0, p.f1, p.f2, p.f3⟩ : S27) = p := rfl
    rw [ep, if_neg (by rw [h1]; simp)]
    have hb : (decide (1 < c p.f0.toNat + 1) && !oftenB kind p.f0) = false := by
      by_cases q : 1 < c p.f0.toNat + 1
      · rw [h2 q]; simp
      · simp [q]
    rw [List.length_cons] at hlen
    rw [hb, if_neg (by decide), if_neg (by omega)]
    obtain ⟨d', hd', e⟩ := ih d _ (upd c p.f0.toNat (c p.f0.toNat + 1)) (out ++ [p]) rest (upd_nonneg c hc _) h3 (by simp; omega) hat2 hd2 (by omega)
    have ec : (fun i => upd c p.f0.toNat (c p.f0.toNat + 1) i + (cnt i l : Int)) = fun i => c i + (cnt i (p :: l) : Int) := by
      funext i
      rw [upd_eq, cnt_cons]
      by_cases e : i = p.f0.toNat
      · subst e; simp; omega
      · rw [if_neg e, if_neg (fun x => e x.symm)]; omega
    have el : at_ + (encL (p :: l)).length = at_ + 1 + (valS (ruleOf p.f0).1 p).size + (encL l).length := by
      rw [encL_cons, List.length_cons, List.length_append, bytesOf_length]; omega
    refine ⟨d', by rw [el]; exact hd', ?_⟩
    rw [e, ec, el, List.append_assoc]
    rfl
theorem list_back (kind : Int) (text : ByteArray) (hs : text.size ≤ 4000000000000000000) (l : List PropT) (d at_ : Nat) (c : Nat → Int) (out : List PropT) (hc : ∀ i, 0 ≤ c i) (hg : goodC kind l c) (hlen : out.length + l.length ≤ 1000) (hat : at_ ≤ text.size) (h : (bytesOf text).drop at_ = encL l) (hd : text.size - at_ ≤ d) :
    listTo kind text d at_ c out = if decide (0 < c 22 + (cnt 22 l : Int)) && c 21 + (cnt 21 l : Int) == 0 then ([], 9) else (out ++ l, 0) := by
  obtain ⟨d', hd', e⟩ := list_step kind text hs l d at_ c out [] hc hg hlen hat (by rw [List.append_nil]; exact h) hd
  have hz : at_ + (encL l).length = text.size := by
    have := congrArg List.length h
    rw [List.length_drop, bytesOf_length] at this
    omega
  rw [e, hz]
  cases d' with
  | zero => rw [listTo]
  | succ d => rw [listTo, if_pos (by omega)]
/-- A byte that is no property's id behind a list. -/
theorem list_zero (kind : Int) (text : ByteArray) (hs : text.size ≤ 4000000000000000000) (l : List PropT) (hg : good kind l) (h : bytesOf text = encL l ++ [0]) : listS kind text = ([], 9) := by
  unfold listS
  obtain ⟨d', hd', e⟩ := list_step kind text hs l text.size 0 (fun _ => 0) [] [0] (fun _ => Int.le_refl 0) hg.2 (by simpa using hg.1) (by omega) (by rw [List.drop_zero]; exact h) (by omega)
  simp only [Int.natCast_zero] at e
  have hsz : text.size = (encL l).length + 1 := by
    have := congrArg List.length h
    rw [bytesOf_length, List.length_append] at this
    exact this
  have hdr : (bytesOf text).drop (0 + (encL l).length) = 0 :: [] := by rw [h, Nat.zero_add, List.drop_left]
  have hid := id_back text (0 + (encL l).length) 0 [] (by omega) (by omega) (by omega) hdr
  obtain ⟨d, rfl⟩ : ∃ m, d' = m + 1 := ⟨d' - 1, by omega⟩
  rw [e, listTo, if_neg (by omega), hid, if_pos]
  cases hh : hasS (ruleOf 0) kind with
  | false => rfl
  | true => have := (rule_shape 0 kind hh).2.1; omega
theorem encL_range (l : List PropT) : ∀ x ∈ encL l, 0 ≤ x ∧ x < 256 := by
  intro x hx
  unfold encL at hx
  obtain ⟨e, he, hx⟩ := List.mem_flatten.1 hx
  obtain ⟨p, _, rfl⟩ := List.mem_map.1 he
  unfold encP at hx
  rcases List.mem_append.1 hx with hx | hx
  · rw [List.mem_singleton.1 hx]; omega
  · exact bytesOf_range _ x hx
theorem list_of (kind : Int) (l : List PropT) (hg : good kind l) (hd : dataOk l = true) : listS kind (strOfNums (encL l)) = (l, 0) := by
  have hle := encL_len l
  have h1 := hg.1
  have hr : bytesOf (strOfNums (encL l)) = encL l := bytes_nums _ (encL_range l)
  unfold listS
  have hb := list_back kind (strOfNums (encL l)) (by rw [strOfNums_size]; omega) l (strOfNums (encL l)).size 0 (fun _ => 0) [] (fun _ => Int.le_refl 0) hg.2 (by simpa using h1) (by omega) (by rw [List.drop_zero]; exact hr) (by omega)
  simp only [Int.natCast_zero] at hb
  rw [hb]
  have e : (decide (0 < (0 : Int) + (cnt 22 l : Int)) && (0 : Int) + (cnt 21 l : Int) == 0) = false := by
    unfold dataOk at hd
    simp only [Bool.not_eq_true', Bool.and_eq_false_iff, decide_eq_false_iff_not] at hd ⊢
    rcases hd with hd | hd
    · left; omega
    · right; rw [beq_eq_false_iff_ne]; omega
  rw [e]
  simp
/- The other way round. -/
theorem need_inv (text a : ByteArray) (at_ : Nat) (m z : Int) (hat : at_ ≤ text.size) (h : needS text at_ 0 m = (a, z, 0)) :
    ∃ k : Nat, m = k ∧ a.size = k ∧ z = ((at_ + k : Nat) : Int) ∧ at_ + k ≤ text.size ∧ (bytesOf text).drop at_ = bytesOf a ++ (bytesOf text).drop (at_ + k) := by
  unfold needS at h
  by_cases hc : m < 0 ∨ m > (text.size : Int) - at_
  · rw [if_pos ⟨rfl, hc⟩] at h
    unfold takeS at h
    rw [if_neg (by decide)] at h
    simp at h
  · rw [if_neg (fun q => hc q.2)] at h
    unfold takeS at h
    rw [if_pos rfl, if_pos ⟨by omega, by omega⟩] at h
    obtain ⟨k, rfl⟩ : ∃ k : Nat, m = k := ⟨m.toNat, by omega⟩
    simp only [Prod.mk.injEq] at h
    obtain ⟨rfl, rfl, _⟩ := h
    rw [show ((at_ : Int) + (k : Int)).toNat = at_ + k by omega, Int.toNat_natCast]
    refine ⟨k, rfl, by rw [ByteArray.size_extract]; omega, by omega, by omega, ?_⟩
    have e : bytesOf (text.extract at_ (at_ + k)) = ((bytesOf text).drop at_).take k := by
      unfold bytesOf
      rw [ByteArray.data_extract, Array.toList_extract, List.extract_eq_take_drop, List.map_take, List.map_drop]
      congr 1
      omega
    rw [e, ← List.drop_drop, List.take_append_drop]
theorem need_err (text : ByteArray) (at_ err m : Int) (h : (needS text at_ err m).2.2 = 0) : err = 0 := by
  apply Classical.byContradiction
  intro he
  unfold needS at h
  rw [if_neg (fun q => he q.1)] at h
  unfold takeS at h
  rw [if_neg he] at h
  exact he h
theorem data_inv (text a : ByteArray) (at_ : Nat) (z : Int) (hat : at_ ≤ text.size) (h : dataS text at_ 0 = (a, z, 0)) :
    a.size ≤ 65535 ∧ z = ((at_ + (binS a).1.size : Nat) : Int) ∧ at_ + (binS a).1.size ≤ text.size ∧ (bytesOf text).drop at_ = bytesOf (binS a).1 ++ (bytesOf text).drop (at_ + (binS a).1.size) := by
  unfold dataS at h
  have he := need_err text _ _ _ (by rw [h])
  obtain ⟨b, z1, hb⟩ : ∃ b z1, needS text at_ 0 2 = (b, z1, 0) := ⟨_, _, trip he⟩
  rw [hb] at h
  obtain ⟨k, hk, hbs, rfl, hle, hdr⟩ := need_inv text b at_ 2 z1 hat hb
  obtain rfl : k = 2 := by omega
  dsimp only at h
  obtain ⟨hp, hg0, hg1⟩ := put_get2 b hbs
  rw [w64 _ (by omega) (by omega)] at h
  obtain ⟨j, hj, haj, rfl, hle2, hdr2⟩ := need_inv text a (at_ + 2) _ z hle h
  have eb : (binS a).1 = b ++ a := by
    unfold binS
    rw [if_neg (by omega), haj, ← hj, hp]
  rw [eb]
  simp only [ByteArray.size_append, hbs, haj]
  refine ⟨by omega, by omega, by omega, ?_⟩
  rw [hdr, hdr2, bytesOf_append, List.append_assoc, Nat.add_assoc]
theorem written_inv (text a : ByteArray) (at_ : Nat) (z : Int) (hat : at_ ≤ text.size) (h : writtenS text at_ 0 = (a, z, 0)) :
    validS a = true ∧ z = ((at_ + (binS a).1.size : Nat) : Int) ∧ at_ + (binS a).1.size ≤ text.size ∧ (bytesOf text).drop at_ = bytesOf (binS a).1 ++ (bytesOf text).drop (at_ + (binS a).1.size) := by
  unfold writtenS at h
  simp only [Prod.mk.injEq] at h
  obtain ⟨rfl, rfl, h3⟩ := h
  by_cases hv : validS (dataS text at_ 0).1 = true
  · rw [if_pos hv] at h3
    obtain ⟨_, h2⟩ := data_inv text (dataS text at_ 0).1 at_ (dataS text at_ 0).2.1 hat (trip h3)
    exact ⟨hv, h2⟩
  · rw [if_neg hv] at h3
    unfold failS at h3
    split at h3 <;> omega
theorem written_err (text : ByteArray) (at_ err : Int) (h : (writtenS text at_ err).2.2 = 0) : err = 0 := by
  apply Classical.byContradiction
  intro he
  have hd : (dataS text at_ err).2.2 ≠ 0 := fun q => he (need_err _ _ _ _ (by unfold dataS at q; exact need_err _ _ _ _ q))
  unfold writtenS at h
  dsimp only at h
  split at h
  · exact hd h
  · unfold failS at h
    rw [if_neg hd] at h
    exact hd h
theorem rest_bytes (text : ByteArray) (at_ : Nat) : bytesOf (restS text at_) = (bytesOf text).drop at_ := by
  unfold restS bytesOf
  rw [ByteArray.data_extract, Array.toList_extract, List.extract_eq_take_drop, List.map_take, List.map_drop, Int.toNat_natCast]
  apply List.take_of_length_le
  simp
theorem value_inv (text : ByteArray) (at_ : Nat) (sh id n : Int) (t v : ByteArray) (z : Int) (hsh : 1 ≤ sh ∧ sh ≤ 7) (hat : at_ ≤ text.size) (hs : text.size ≤ 4000000000000000000)
    (h : valueS sh text at_ = (n, t, v, z, 0)) :
    0 ≤ n ∧ n ≤ 4294967295 ∧ z = ((at_ + (valS sh ⟨id, n, t, v⟩).size : Nat) : Int) ∧ at_ + (valS sh ⟨id, n, t, v⟩).size ≤ text.size ∧ (bytesOf text).drop at_ = bytesOf (valS sh ⟨id, n, t, v⟩) ++ (bytesOf text).drop (at_ + (valS sh ⟨id, n, t, v⟩).size) := by
  have hcase : sh = 1 ∨ sh = 2 ∨ sh = 3 ∨ sh = 4 ∨ sh = 5 ∨ sh = 6 ∨ sh = 7 := by omega
  unfold valueS at h
  rcases hcase with rfl | rfl | rfl | rfl | rfl | rfl | rfl
  · rw [if_pos rfl] at h
    unfold oneS at h
    simp only [Prod.mk.injEq] at h
    obtain ⟨rfl, rfl, rfl, rfl, h3⟩ := h
    obtain ⟨k, hk, hbs, hz, hle, hdr⟩ := need_inv text (needS text at_ 0 1).1 at_ 1 (needS text at_ 0 1).2.1 hat (trip h3)
    obtain rfl : k = 1 := by omega
    obtain ⟨hp, hg0, hg1⟩ := put_get1 _ hbs
    have ev : valS 1 ⟨id, getS (needS text at_ 0 1).1 % 4294967296, ⟨#[]⟩, ⟨#[]⟩⟩ = (needS text at_ 0 1).1 := by
      unfold valS
      dsimp only
      rw [if_pos (Or.inl rfl), u32r _ (by omega) (by omega), u64w _ (by omega) (by omega)]
      exact hp
    rw [ev, hbs]
    exact ⟨by omega, by omega, hz, hle, hdr⟩
  · rw [if_neg (by decide), if_pos rfl] at h
    unfold twoS at h
    simp only [Prod.mk.injEq] at h
    obtain ⟨rfl, rfl, rfl, rfl, h3⟩ := h
    obtain ⟨k, hk, hbs, hz, hle, hdr⟩ := need_inv text (needS text at_ 0 2).1 at_ 2 (needS text at_ 0 2).2.1 hat (trip h3)
    obtain rfl : k = 2 := by omega
    obtain ⟨hp, hg0, hg1⟩ := put_get2 _ hbs
    have ev : valS 2 ⟨id, getS (needS text at_ 0 2).1 % 4294967296, ⟨#[]⟩, ⟨#[]⟩⟩ = (needS text at_ 0 2).1 := by
      unfold valS
      dsimp only
      rw [if_pos (Or.inr rfl), u32r _ (by omega) (by omega), u64w _ (by omega) (by omega)]
      exact hp
    rw [ev, hbs]
    exact ⟨by omega, by omega, hz, hle, hdr⟩
  · rw [if_neg (by decide), if_neg (by decide), if_pos rfl] at h
    unfold fourS at h
    simp only [Prod.mk.injEq] at h
    obtain ⟨rfl, rfl, rfl, rfl, h3⟩ := h
    obtain ⟨k, hk, hbs, hz, hle, hdr⟩ := need_inv text (needS text at_ 0 4).1 at_ 4 (needS text at_ 0 4).2.1 hat (trip h3)
    obtain rfl : k = 4 := by omega
    obtain ⟨hp, hg0, hg1⟩ := put_get4 _ hbs
    have ev : valS 3 ⟨id, getS (needS text at_ 0 4).1 % 4294967296, ⟨#[]⟩, ⟨#[]⟩⟩ = (needS text at_ 0 4).1 := by
      unfold valS
      dsimp only
      rw [if_neg (by decide), if_pos rfl, u32r _ (by omega) (by omega), u64w _ (by omega) (by omega)]
      exact hp
    rw [ev, hbs]
    exact ⟨by omega, by omega, hz, hle, hdr⟩
  · rw [if_neg (by decide), if_neg (by decide), if_neg (by decide), if_pos rfl] at h
    unfold varyS at h
    simp only [Prod.mk.injEq] at h
    obtain ⟨rfl, rfl, rfl, rfl, h3⟩ := h
    have hve : (readVarS (restS text at_)).2.2 = 0 := by
      apply Classical.byContradiction
      intro q
      unfold varErr at h3
      rw [if_neg q] at h3
      rw [show failS 0 5 = 5 from rfl] at h3
      unfold takeS at h3
      rw [if_neg (by decide)] at h3
      dsimp only at h3
      omega
    have hv0 : varErr text at_ 0 = 0 := by unfold varErr; rw [if_pos hve]
    rw [hv0]
    obtain ⟨b0, b1, bz, t2, ht2⟩ := readVar_inv (restS text at_) (readVarS (restS text at_)).1 (readVarS (restS text at_)).2.1 (trip hve)
    generalize readVarS (restS text at_) = rv at *
    have ev : valS 4 ⟨id, rv.1 % 4294967296, ⟨#[]⟩, ⟨#[]⟩⟩ = (varS rv.1).1 := by
      unfold valS
      dsimp only
      rw [if_neg (by decide), if_neg (by decide), if_pos rfl, u32r _ (by omega) (by omega), w64 _ (by omega) (by omega)]
    rw [ev]
    have hb := rest_bytes text at_
    rw [ht2, bytesOf_append] at hb
    have hle := drop_le hb.symm hat
    rw [bytesOf_length] at hle
    have hm := drop_more hb.symm
    rw [bytesOf_length] at hm
    refine ⟨by omega, by omega, ?_, hle, by rw [hm]; exact hb.symm⟩
    unfold takeS
    rw [if_pos rfl, if_pos ⟨by omega, by omega⟩]
    dsimp only
    omega
  · rw [if_neg (by decide), if_neg (by decide), if_neg (by decide), if_neg (by decide), if_pos rfl] at h
    simp only [Prod.mk.injEq] at h
    obtain ⟨rfl, rfl, rfl, rfl, h3⟩ := h
    obtain ⟨hv, hz, hle, hdr⟩ := written_inv text (writtenS text at_ 0).1 at_ (writtenS text at_ 0).2.1 hat (trip h3)
    have ev : valS 5 ⟨id, 0, (writtenS text at_ 0).1, ⟨#[]⟩⟩ = (binS (writtenS text at_ 0).1).1 := by unfold valS; rw [if_neg (by decide), if_neg (by decide), if_neg (by decide), if_neg (by decide)]
    rw [ev]
    exact ⟨by omega, by omega, hz, hle, hdr⟩
  · rw [if_neg (by decide), if_neg (by decide), if_neg (by decide), if_neg (by decide), if_neg (by decide), if_pos rfl] at h
    simp only [Prod.mk.injEq] at h
    obtain ⟨rfl, rfl, rfl, rfl, h3⟩ := h
    obtain ⟨hv, hz, hle, hdr⟩ := data_inv text (dataS text at_ 0).1 at_ (dataS text at_ 0).2.1 hat (trip h3)
    have ev : valS 6 ⟨id, 0, (dataS text at_ 0).1, ⟨#[]⟩⟩ = (binS (dataS text at_ 0).1).1 := by unfold valS; rw [if_neg (by decide), if_neg (by decide), if_neg (by decide), if_neg (by decide)]
    rw [ev]
    exact ⟨by omega, by omega, hz, hle, hdr⟩
  · rw [if_neg (by decide), if_neg (by decide), if_neg (by decide), if_neg (by decide), if_neg (by decide), if_neg (by decide)] at h
    unfold pairS at h
    simp only [Prod.mk.injEq] at h
    obtain ⟨rfl, h1, h2, hz2, h3⟩ := h
    have he := written_err text _ _ h3
    obtain ⟨hv, hz, hle, hdr⟩ := written_inv text (writtenS text at_ 0).1 at_ (writtenS text at_ 0).2.1 hat (trip he)
    rw [he, hz, h1] at h2 hz2 h3
    rw [h1] at hdr hle hv
    obtain ⟨hv2, hz3, hle2, hdr2⟩ := written_inv text v _ z hle (by
      rcases hw : writtenS text ((at_ + (binS t).1.size : Nat) : Int) 0 with ⟨p1, p2, p3⟩
      rw [hw] at h2 hz2 h3
      dsimp only at h2 hz2 h3
      rw [h2, hz2, h3])
    have ev : valS 7 ⟨id, 0, t, v⟩ = (binS t).1 ++ (binS v).1 := by unfold valS; rw [if_neg (by decide), if_neg (by decide), if_neg (by decide), if_pos rfl]
    rw [ev, ByteArray.size_append, ← Nat.add_assoc]
    exact ⟨by omega, by omega, hz3, hle2, by rw [hdr, hdr2, bytesOf_append, List.append_assoc]⟩
theorem id_at (text : ByteArray) (at_ : Nat) (h : at_ < text.size) : ∃ x : Int, 0 ≤ x ∧ x < 256 ∧ (bytesOf text).drop at_ = x :: (bytesOf text).drop (at_ + 1) ∧ idAt text at_ = x := by
  have hd := byN_drop text at_ h
  obtain ⟨_, hb⟩ := byN_eq text at_
  exact ⟨(byN text at_ : Int), by omega, by omega, hd, id_back text at_ _ _ (by omega) (by omega) (by omega) hd⟩
theorem list_inv (kind : Int) (text : ByteArray) (hs : text.size ≤ 4000000000000000000) : ∀ (d at_ : Nat) (c : Nat → Int) (out res : List PropT), (∀ i, 0 ≤ c i) → at_ ≤ text.size → text.size - at_ ≤ d → out.length ≤ 1000 → listTo kind text d at_ c out = (res, 0) →
    ∃ l, res = out ++ l ∧ goodC kind l c ∧ out.length + l.length ≤ 1000 ∧ (bytesOf text).drop at_ = encL l ∧ (decide (0 < c 22 + (cnt 22 l : Int)) && c 21 + (cnt 21 l : Int) == 0) = false ∧ ∀ x ∈ l, 0 ≤ x.f1 ∧ x.f1 ≤ 4294967295 := by
  intro d
  have fin : ∀ (at_ : Nat) (c : Nat → Int) (out res : List PropT), text.size ≤ at_ → out.length ≤ 1000 → (if decide (0 < c 22) && c 21 == 0 then (([] : List PropT), (9 : Int)) else (out, 0)) = (res, 0) →
      ∃ l, res = out ++ l ∧ goodC kind l c ∧ out.length + l.length ≤ 1000 ∧ (bytesOf text).drop at_ = encL l ∧ (decide (0 < c 22 + (cnt 22 l : Int)) && c 21 + (cnt 21 l : Int) == 0) = false ∧ ∀ x ∈ l, 0 ≤ x.f1 ∧ x.f1 ≤ 4294967295 := by
    intro at_ c out res hat hlen h
    cases hb : decide (0 < c 22) && c 21 == 0 with
    | true => rw [hb, if_pos rfl] at h; simp at h
    | false =>
      rw [hb, if_neg (by decide)] at h
      simp only [Prod.mk.injEq, and_true] at h
      refine ⟨[], by rw [h]; simp, ⟨fun _ q => by simp at q, fun _ q => by simp at q⟩, by simpa using hlen, ?_, by simpa [cnt] using hb, fun _ q => by simp at q⟩
      rw [List.drop_of_length_le (by rw [bytesOf_length]; exact hat)]
      rfl
  induction d with
  | zero =>
    intro at_ c out res hc hat hd hlen h
    rw [listTo] at h
    exact fin at_ c out res (by omega) hlen h
  | succ d ih =>
    intro at_ c out res hc hat hd hlen h
    rw [listTo] at h
    by_cases hgo : 0 < (text.size : Int) - at_
    rotate_left
    · rw [if_pos hgo] at h
      exact fin at_ c out res (by omega) hlen h
    rw [if_neg (fun q => q hgo)] at h
    obtain ⟨x, hx0, hx1, hdr, hid⟩ := id_at text at_ (by omega)
    rw [hid, show (at_ : Int) + 1 = ((at_ + 1 : Nat) : Int) by omega] at h
    cases hh : hasS (ruleOf x) kind with
    | false => rw [hh, if_pos rfl] at h; simp at h
    | true =>
      rw [hh, if_neg (by decide)] at h
      obtain ⟨_, hid0, hid1⟩ := rule_shape x kind hh
      obtain ⟨_, _, _, _, _, hsh0, hsh1⟩ := rule_bounds x kind hh
      rcases hva : valueS (ruleOf x).1 text ((at_ + 1 : Nat) : Int) with ⟨n, t, v, z, e⟩
      rw [hva] at h
      dsimp only at h
      by_cases he : e = 0
      rotate_left
      · rw [if_pos he] at h
        simp only [Prod.mk.injEq] at h
        exact absurd h.2 he
      subst he
      rw [if_neg (fun q => q rfl)] at h
      obtain ⟨hn0, hn1, hz, hle, hdr2⟩ := value_inv text (at_ + 1) (ruleOf x).1 x n t v z ⟨hsh0, hsh1⟩ (by omega) hs hva
      by_cases hck : checkS (ruleOf x) kind ⟨x, n, t, v⟩ = 0
      rotate_left
      · rw [if_pos hck] at h
        simp only [Prod.mk.injEq] at h
        exact absurd h.2 hck
      rw [if_neg (fun q => q hck)] at h
      cases hb : decide (1 < c x.toNat + 1) && !oftenB kind x with
      | true => rw [hb, if_pos rfl] at h; simp at h
      | false =>
        rw [hb, if_neg (by decide)] at h
        by_cases hl : out.length = 1000
        · rw [if_pos hl] at h; simp at h
        rw [if_neg hl, hz] at h
        obtain ⟨l, rfl, hg, hll, hdl, hdata, hf⟩ := ih _ (upd c x.toNat (c x.toNat + 1)) _ res (upd_nonneg c hc _) hle (by omega) (by simp; omega) h
        refine ⟨⟨x, n, t, v⟩ :: l, by simp, ?_, by simp at hll; simp; omega, ?_, ?_, ?_⟩
        · refine (good_cons kind ⟨x, n, t, v⟩ l c hc).2 ⟨hck, fun q => ?_, hg⟩
          dsimp only at q
          rw [decide_eq_true q] at hb
          simpa using hb
        · rw [encL_cons, hdr, hdr2, hdl]
          dsimp only
          rw [show x % 256 = x by omega]
        · have ec : ∀ i, upd c x.toNat (c x.toNat + 1) i + (cnt i l : Int) = c i + (cnt i ((⟨x, n, t, v⟩ : PropT) :: l) : Int) := by
            intro i
            rw [upd_eq, cnt_cons]
            dsimp only
            by_cases e : i = x.toNat
            · subst e; simp; omega
            · rw [if_neg e, if_neg (fun q => e q.symm)]; omega
          rw [ec, ec] at hdata
          exact hdata
        · intro y hy
          rcases List.mem_cons.1 hy with rfl | hy
          · exact ⟨hn0, hn1⟩
          · exact hf y hy
theorem listS_inv (kind : Int) (text : ByteArray) (hs : text.size ≤ 4000000000000000000) (l : List PropT) (h : listS kind text = (l, 0)) :
    good kind l ∧ dataOk l = true ∧ text = strOfNums (encL l) ∧ ∀ x ∈ l, 0 ≤ x.f1 ∧ x.f1 ≤ 4294967295 := by
  obtain ⟨m, rfl, hg, hlen, hdr, hdata, hf⟩ := list_inv kind text hs text.size 0 (fun _ => 0) [] l (fun _ => Int.le_refl 0) (by omega) (by omega) (by simp) h
  refine ⟨⟨by simpa using hlen, hg⟩, ?_, ?_, hf⟩
  · unfold dataOk
    simp only [Int.zero_add] at hdata
    simp only [Bool.not_eq_true', Bool.and_eq_false_iff, decide_eq_false_iff_not, beq_eq_false_iff_ne] at hdata ⊢
    omega
  · rw [List.drop_zero] at hdr
    rw [← hdr, nums_bytes]
theorem listTo_err (kind : Int) (text : ByteArray) : ∀ (d : Nat) (at_ : Int) (c : Nat → Int) (out : List PropT), (listTo kind text d at_ c out).2 ≠ 0 → (listTo kind text d at_ c out).1 = [] := by
  intro d
  induction d with
  | zero =>
    intro at_ c out h
    rw [listTo] at h ⊢
    split
    · rfl
    · rename_i q; rw [if_neg q] at h; exact absurd rfl h
  | succ d ih =>
    intro at_ c out h
    rw [listTo] at h ⊢
    split
    · rename_i q
      rw [if_pos q] at h
      split
      · rfl
      · rename_i q2; rw [if_neg q2] at h; exact absurd rfl h
    · rename_i q
      rw [if_neg q] at h
      split
      · rfl
      · rename_i q2
        rw [if_neg q2] at h
        split
        · rfl
        · rename_i q3
          rw [if_neg q3] at h
          split
          · rfl
          · rename_i q4
            rw [if_neg q4] at h
            split
            · rfl
            · rename_i q5
              rw [if_neg q5] at h
              split
              · rfl
              · rename_i q6
                rw [if_neg q6] at h
                exact ih _ _ _ h
end Go.Proofs.Ytngmipfobcaojaa.HA
end

-- YtngmipfobcaojaaHA1
section
-- Written by hp.py (a driver over the kit's print). Not trusted: Lean checks it.
namespace Go.Proofs.Ytngmipfobcaojaa.HA
open Go.RowKit Go.Proofs.YtngmipfobcaojaaW.PrintWords Go.Proofs.YtngmipfobcaojaaW.PrintLast Go.Proofs.YtngmipfobcaojaaW.PrintMore
attribute [local go_sem] max2_int min2_int max_two min_two max_three min_three max_four min_four   -- for this text's walks alone
set_option linter.unusedVariables false
set_option linter.unusedSimpArgs false

theorem eqA27 (d : Nat) (w : World) (x0 y0 : Int) (x1 y1 : Int) (x2 y2 : ByteArray) (x3 y3 : ByteArray) :
    (Op.equalIn (d + 2) 27 (.agg #[.int .i64 x0, .int .u32 x1, .string x2, .string x3]) (.agg #[.int .i64 y0, .int .u32 y1, .string y2, .string y3])).run Try.prog w = .ok (x0 == y0 && (x1 == y1 && (x2.toList == y2.toList && (x3.toList == y3.toList)))) w := by
  refine eqA_of Try.underlying27 (by kernel_rfl) ?_
  refine eqf_cons (by rfl) (by go_simp; rfl) (by go_simp; rfl) (by go_simp) ?_
  refine eqf_cons (by rfl) (by go_simp; rfl) (by go_simp; rfl) (by go_simp) ?_
  refine eqf_cons (by rfl) (by go_simp; rfl) (by go_simp; rfl) (by go_simp) ?_
  exact eqf_last (by rfl) (by go_simp; rfl) (by go_simp; rfl) (by go_simp)
end Go.Proofs.Ytngmipfobcaojaa.HA
end

-- YtngmipfobcaojaaHA81
section
-- Written by hp.py (a driver over the kit's print). Not trusted: Lean checks it.
namespace Go.Proofs.Ytngmipfobcaojaa.HA
open Go.RowKit Go.Proofs.YtngmipfobcaojaaW.PrintWords Go.Proofs.YtngmipfobcaojaaW.PrintLast Go.Proofs.YtngmipfobcaojaaW.PrintMore
attribute [local go_sem] max2_int min2_int max_two min_two max_three min_three max_four min_four   -- for this text's walks alone
set_option linter.unusedVariables false
set_option linter.unusedSimpArgs false

attribute [local go_sem high] eqA27
/-! ### prop_Same: function 30 -/
def prop_Same.l0 : Nat → List (S27) → List (S27) → Int → Int → Option (Bool)
  | 0, _, _, _, _ => none
  | k + 1, x0, x1, x12, x13 => if x13 < x12 then (if 0 ≤ x13 then (if x13 < (x0.length : Int) then (if x13 < (x1.length : Int) then (if (!(((rd_T27 x0 x13).f0) == ((rd_T27 x1 x13).f0)) || (!(((rd_T27 x0 x13).f1) == ((rd_T27 x1 x13).f1)) || (!((((rd_T27 x0 x13).f2).toList) == (((rd_T27 x1 x13).f2).toList)) || (!((((rd_T27 x0 x13).f3).toList) == (((rd_T27 x1 x13).f3).toList)))))) = true then (some false) else (prop_Same.l0 k x0 x1 x12 (wrap64 (x13 + 1)))) else (none)) else (none)) else (none)) else (some true)
def prop_Same.f (k : Nat) (l0 : List (S27)) (l1 : List (S27)) : Option (Bool) := if (l0.length : Int) = (l1.length : Int) then (prop_Same.l0 k l0 l1 (l0.length : Int) 0) else (some false)
theorem prop_Same.mono_l : ∀ k, (∀ y0 y1 y2 y3, LeO (prop_Same.l0 k y0 y1 y2 y3) (prop_Same.l0 (k + 1) y0 y1 y2 y3))
  | 0 => fun _ _ _ _ r h => by simp [prop_Same.l0] at h
  | k + 1 => by
    have ih0 := prop_Same.mono_l k
    · intro y0 y1 y2 y3
      unfold prop_Same.l0
      repeat' first
      | (with_reducible exact ih0 _ _ _ _)
      | (with_reducible exact LeO.refl _)
      | (with_reducible exact LeO.none _)
      | (with_reducible refine LeO.ite ?_ ?_)
      | (with_reducible refine LeO.bind ?_ (fun _ => ?_))
      | exact ih0 _ _ _ _
      | exact LeO.none _
      | refine LeO.ite ?_ ?_
      | refine LeO.bind ?_ (fun _ => ?_)
theorem prop_Same.mono : ∀ a0 a1 k, LeO (prop_Same.f k a0 a1) (prop_Same.f (k + 1) a0 a1) := by
  intro a0 a1 k
  have ih0 := prop_Same.mono_l k
  unfold prop_Same.f
  repeat' first
      | (with_reducible exact ih0 _ _ _ _)
      | (with_reducible exact LeO.refl _)
      | (with_reducible exact LeO.none _)
      | (with_reducible refine LeO.ite ?_ ?_)
      | (with_reducible refine LeO.bind ?_ (fun _ => ?_))
      | exact ih0 _ _ _ _
      | exact LeO.none _
      | refine LeO.ite ?_ ?_
      | refine LeO.bind ?_ (fun _ => ?_)
set_option maxHeartbeats 8000000 in
set_option maxRecDepth 100000 in
theorem prop_Same.calls (k : Nat) (A0 : Option Addr) (c0 : Nat) (l0 : List (S27)) (A1 : Option Addr) (c1 : Nat) (l1 : List (S27)) (r : Bool) (w : World) (hr0 : Kd.C k27 w A0 l0.length l0) (hc0 : l0.length ≤ c0) (hr1 : Kd.C k27 w A1 l1.length l1) (hc1 : l1.length ≤ c1) (h : prop_Same.f k l0 l1 = some r) :
    Calls Try.prog 30 #[.slice A0 l0.length c0, .slice A1 l1.length c1] w fun e w' => e = .returned (.bool r) ∧ Drawn0 w w' := by
  have hu27 := Try.underlying27
  have HR0 := Aside0.mk hr0
  have HC0 := Aside0.mk hc0
  clear hr0 hc0
  have HR1 := Aside0.mk hr1
  have HC1 := Aside0.mk hc1
  clear hr1 hc1
  have H : (if (l0.length : Int) = (l1.length : Int) then (prop_Same.l0 k l0 l1 (l0.length : Int) 0) else (some false)) = some r := h
  clear h
  by_cases c3 : (l0.length : Int) = (l1.length : Int)
  · rw [if_pos c3] at H
    have c3b0 : ((l0.length : Int) == (l1.length : Int)) = true := beq_iff_eq.mpr c3
    have c3b1 : ((l0.length : Int) != (l1.length : Int)) = false := bne_eq_false_iff_eq.mpr c3
    have c3b2 : (l0.length == l1.length) = true := by first | simpa using c3 | (simp at c3 ⊢; omega)
    clear c3
    have H' := Aside0.mk H
    clear H
    go_enter Try.func30, Try.ntmps30
    go_wp2
    repeat (go_quiet (fail); try go_wp2)
    go_loopg [13] k (fun kq v13 w' => ∃ (x13_1 : Int), v13 = .int .i64 x13_1 ∧ Aside0 (prop_Same.l0 kq l0 l1 (l0.length : Int) x13_1 = some r) ∧ Aside0 (kq ≤ k) ∧ Drawn0 w w')
    case atStart => exact ⟨(0), (by first | rfl | (simp; done) | (simp [*]; done) | (simp; exact bne_nil_isEmpty _) | exact bne_nil_isEmpty _ | (simp; exact (bne_nil_isEmpty _).symm) | (simp; exact bne_nil_isEmpty' _)), H', ⟨Nat.le_refl _⟩, by repeat (first | exact Drawn0.refl _ | apply Drawn0.step)⟩
    case round =>
      clear H'
      try clear c1
      try clear p2
      try clear c3
      try clear c3b0
      try clear c3b1
      try clear c3b2
      obtain ⟨x13_1, rfl, HA, HK1, ⟨m1, rfl⟩⟩ := hrel
      cases gk with
      | zero => exact absurd HA.out (by simp [prop_Same.l0])
      | succ k1 =>
        have H := HA.out
        clear HA
        simp only [prop_Same.l0] at H
        by_cases c4 : x13_1 < (l0.length : Int)
        · rw [if_pos c4] at H
          have c4b0 : decide (x13_1 < (l0.length : Int)) = true := decide_eq_true c4
          clear c4
          by_cases c5 : 0 ≤ x13_1
          · rw [if_pos c5] at H
            have c5b0 : decide (0 ≤ x13_1) = true := decide_eq_true c5
            clear c5
            by_cases c6 : x13_1 < (l0.length : Int)
            · rw [if_pos c6] at H
              have c6b0 : decide (x13_1 < (l0.length : Int)) = true := decide_eq_true c6
              clear c6
              by_cases c7 : x13_1 < (l1.length : Int)
              · rw [if_pos c7] at H
                have c7b0 : decide (x13_1 < (l1.length : Int)) = true := decide_eq_true c7
                clear c7
                by_cases c8 : (!(((rd_T27 l0 x13_1).f0) == ((rd_T27 l1 x13_1).f0)) || (!(((rd_T27 l0 x13_1).f1) == ((rd_T27 l1 x13_1).f1)) || (!((((rd_T27 l0 x13_1).f2).toList) == (((rd_T27 l1 x13_1).f2).toList)) || (!((((rd_T27 l0 x13_1).f3).toList) == (((rd_T27 l1 x13_1).f3).toList)))))) = true
                · rw [if_pos c8] at H
                  have c8b0 : (!(((rd_T27 l0 x13_1).f0) == ((rd_T27 l1 x13_1).f0)) || (!(((rd_T27 l0 x13_1).f1) == ((rd_T27 l1 x13_1).f1)) || (!((((rd_T27 l0 x13_1).f2).toList) == (((rd_T27 l1 x13_1).f2).toList)) || (!((((rd_T27 l0 x13_1).f3).toList) == (((rd_T27 l1 x13_1).f3).toList)))))) = true := c8
                  clear c8
                  obtain rfl := Option.some.inj H
                  have p337 : 0 ≤ (x13_1 : Int) := of_decide_eq_true (by first | (with_reducible assumption) | assumption)
                  have q337 : x13_1 < (l0.length : Int) := of_decide_eq_true (by first | (with_reducible assumption) | assumption)
                  obtain ⟨ad337, e337, hx337_0, hx337_1, hx337_2, hx337_3⟩ := at_T27 HR0.out x13_1 p337 q337
                  cases e337
                  replace p337 := eq_true p337
                  replace q337 := eq_true q337
                  have p338 : 0 ≤ (x13_1 : Int) := of_decide_eq_true (by first | (with_reducible assumption) | assumption)
                  have q338 : x13_1 < (l1.length : Int) := of_decide_eq_true (by first | (with_reducible assumption) | assumption)
                  obtain ⟨ad338, e338, hx338_0, hx338_1, hx338_2, hx338_3⟩ := at_T27 HR1.out x13_1 p338 q338
                  cases e338
                  replace p338 := eq_true p338
                  replace q338 := eq_true q338
                  go_wp2
                  repeat (go_quiet (fail); try go_wp2)
                  go_ret
                  exact ⟨by first | rfl | (simp; done) | (simp [*]; done) | (simp; exact bne_nil_isEmpty _) | exact bne_nil_isEmpty _ | (simp; exact (bne_nil_isEmpty _).symm) | (simp; exact bne_nil_isEmpty' _), by repeat (first | exact Drawn0.refl _ | apply Drawn0.step)⟩
                · rw [if_neg c8] at H
                  have c8b0 : (!(((rd_T27 l0 x13_1).f0) == ((rd_T27 l1 x13_1).f0)) || (!(((rd_T27 l0 x13_1).f1) == ((rd_T27 l1 x13_1).f1)) || (!((((rd_T27 l0 x13_1).f2).toList) == (((rd_T27 l1 x13_1).f2).toList)) || (!((((rd_T27 l0 x13_1).f3).toList) == (((rd_T27 l1 x13_1).f3).toList)))))) = false := by simpa using c8
                  clear c8
                  have H' := Aside0.mk H
                  clear H
                  have p337 : 0 ≤ (x13_1 : Int) := of_decide_eq_true (by first | (with_reducible assumption) | assumption)
                  have q337 : x13_1 < (l0.length : Int) := of_decide_eq_true (by first | (with_reducible assumption) | assumption)
                  obtain ⟨ad337, e337, hx337_0, hx337_1, hx337_2, hx337_3⟩ := at_T27 HR0.out x13_1 p337 q337
                  cases e337
                  replace p337 := eq_true p337
                  replace q337 := eq_true q337
                  have p338 : 0 ≤ (x13_1 : Int) := of_decide_eq_true (by first | (with_reducible assumption) | assumption)
                  have q338 : x13_1 < (l1.length : Int) := of_decide_eq_true (by first | (with_reducible assumption) | assumption)
                  obtain ⟨ad338, e338, hx338_0, hx338_1, hx338_2, hx338_3⟩ := at_T27 HR1.out x13_1 p338 q338
                  cases e338
                  replace p338 := eq_true p338
                  replace q338 := eq_true q338
                  go_wp2
                  repeat (go_quiet (fail); try go_wp2)
                  go_roundg k1
                  case measure => have := HK1.out; omega
                  case rel => exact ⟨(wrap64 (x13_1 + 1)), (by first | rfl | (simp; done) | (simp [*]; done) | (simp; exact bne_nil_isEmpty _) | exact bne_nil_isEmpty _ | (simp; exact (bne_nil_isEmpty _).symm) | (simp; exact bne_nil_isEmpty' _)), H', ⟨by have := HK1.out; omega⟩, by repeat (first | exact Drawn0.refl _ | apply Drawn0.step)⟩
              · rw [if_neg c7] at H
                exact absurd H (by simp)
            · rw [if_neg c6] at H
              exact absurd H (by simp)
          · rw [if_neg c5] at H
            exact absurd H (by simp)
        · rw [if_neg c4] at H
          have c4b0 : decide (x13_1 < (l0.length : Int)) = false := decide_eq_false c4
          clear c4
          obtain rfl := Option.some.inj H
          go_wp2
          repeat (go_quiet (fail); try go_wp2)
          go_ret
          exact ⟨by first | rfl | (simp; done) | (simp [*]; done) | (simp; exact bne_nil_isEmpty _) | exact bne_nil_isEmpty _ | (simp; exact (bne_nil_isEmpty _).symm) | (simp; exact bne_nil_isEmpty' _), by repeat (first | exact Drawn0.refl _ | apply Drawn0.step)⟩
  · rw [if_neg c3] at H
    have c3b0 : ((l0.length : Int) == (l1.length : Int)) = false := beq_eq_false_iff_ne.mpr c3
    have c3b1 : ((l0.length : Int) != (l1.length : Int)) = true := bne_iff_ne.mpr c3
    have c3b2 : (l0.length == l1.length) = false := by first | simpa using c3 | (simp at c3 ⊢; omega)
    obtain rfl := Option.some.inj H
    go_enter Try.func30, Try.ntmps30
    go_wp2
    repeat (go_quiet (fail); try go_wp2)
    go_ret
    exact ⟨by first | rfl | (simp; done) | (simp [*]; done) | (simp; exact bne_nil_isEmpty _) | exact bne_nil_isEmpty _ | (simp; exact (bne_nil_isEmpty _).symm) | (simp; exact bne_nil_isEmpty' _), by repeat (first | exact Drawn0.refl _ | apply Drawn0.step)⟩

end Go.Proofs.Ytngmipfobcaojaa.HA
end

-- YtngmipfobcaojaaHA80
section
-- Written by hp.py (a driver over the kit's print). Not trusted: Lean checks it.
namespace Go.Proofs.Ytngmipfobcaojaa.HA
open Go.RowKit Go.Proofs.YtngmipfobcaojaaW.PrintWords Go.Proofs.YtngmipfobcaojaaW.PrintLast Go.Proofs.YtngmipfobcaojaaW.PrintMore
attribute [local go_sem] max2_int min2_int max_two min_two max_three min_three max_four min_four   -- for this text's walks alone
set_option linter.unusedVariables false
set_option linter.unusedSimpArgs false

attribute [local go_sem high] eqA27
/-! ### api_Prop_29: function 29 -/
def api_Prop_29.l0 : Nat → List (S27) → List (S27) → Int → Option (Bool)
  | 0, _, _, _ => none
  | k + 1, x0, x1, x5 => if x5 < (x0.length : Int) then (if 0 ≤ x5 then (if x5 < (x1.length : Int) then (if (!(((rd_T27 x0 x5).f0) == ((rd_T27 x1 x5).f0)) || (!(((rd_T27 x0 x5).f1) == ((rd_T27 x1 x5).f1)) || (!((((rd_T27 x0 x5).f2).toList) == (((rd_T27 x1 x5).f2).toList)) || (!((((rd_T27 x0 x5).f3).toList) == (((rd_T27 x1 x5).f3).toList)))))) = true then (some false) else (api_Prop_29.l0 k x0 x1 (wrap64 (x5 + 1)))) else (none)) else (none)) else (some true)
def api_Prop_29.f (k : Nat) (l0 : List (S27)) (l1 : List (S27)) : Option (Bool) := if (l0.length : Int) = (l1.length : Int) then (api_Prop_29.l0 k l0 l1 0) else (some false)
theorem api_Prop_29.mono_l : ∀ k, (∀ y0 y1 y2, LeO (api_Prop_29.l0 k y0 y1 y2) (api_Prop_29.l0 (k + 1) y0 y1 y2))
  | 0 => fun _ _ _ r h => by simp [api_Prop_29.l0] at h
  | k + 1 => by
    have ih0 := api_Prop_29.mono_l k
    · intro y0 y1 y2
      unfold api_Prop_29.l0
      repeat' first
      | (with_reducible exact ih0 _ _ _)
      | (with_reducible exact LeO.refl _)
      | (with_reducible exact LeO.none _)
      | (with_reducible refine LeO.ite ?_ ?_)
      | (with_reducible refine LeO.bind ?_ (fun _ => ?_))
      | exact ih0 _ _ _
      | exact LeO.none _
      | refine LeO.ite ?_ ?_
      | refine LeO.bind ?_ (fun _ => ?_)
theorem api_Prop_29.mono : ∀ a0 a1 k, LeO (api_Prop_29.f k a0 a1) (api_Prop_29.f (k + 1) a0 a1) := by
  intro a0 a1 k
  have ih0 := api_Prop_29.mono_l k
  unfold api_Prop_29.f
  repeat' first
      | (with_reducible exact ih0 _ _ _)
      | (with_reducible exact LeO.refl _)
      | (with_reducible exact LeO.none _)
      | (with_reducible refine LeO.ite ?_ ?_)
      | (with_reducible refine LeO.bind ?_ (fun _ => ?_))
      | exact ih0 _ _ _
      | exact LeO.none _
      | refine LeO.ite ?_ ?_
      | refine LeO.bind ?_ (fun _ => ?_)
set_option maxHeartbeats 8000000 in
set_option maxRecDepth 100000 in
theorem api_Prop_29.calls (k : Nat) (A0 : Option Addr) (c0 : Nat) (l0 : List (S27)) (A1 : Option Addr) (c1 : Nat) (l1 : List (S27)) (r : Bool) (w : World) (hr0 : Kd.C k27 w A0 l0.length l0) (hc0 : l0.length ≤ c0) (hr1 : Kd.C k27 w A1 l1.length l1) (hc1 : l1.length ≤ c1) (h : api_Prop_29.f k l0 l1 = some r) :
    Calls Try.prog 29 #[.slice A0 l0.length c0, .slice A1 l1.length c1] w fun e w' => e = .returned (.bool r) ∧ Drawn0 w w' := by
  have hu27 := Try.underlying27
  have HR0 := Aside0.mk hr0
  have HC0 := Aside0.mk hc0
  clear hr0 hc0
  have HR1 := Aside0.mk hr1
  have HC1 := Aside0.mk hc1
  clear hr1 hc1
  have H : (if (l0.length : Int) = (l1.length : Int) then (api_Prop_29.l0 k l0 l1 0) else (some false)) = some r := h
  clear h
  by_cases c3 : (l0.length : Int) = (l1.length : Int)
  · rw [if_pos c3] at H
    have c3b0 : ((l0.length : Int) == (l1.length : Int)) = true := beq_iff_eq.mpr c3
    have c3b1 : ((l0.length : Int) != (l1.length : Int)) = false := bne_eq_false_iff_eq.mpr c3
    have c3b2 : (l0.length == l1.length) = true := by first | simpa using c3 | (simp at c3 ⊢; omega)
    clear c3
    have H' := Aside0.mk H
    clear H
    go_enter Try.func29, Try.ntmps29
    go_wp2
    repeat (go_quiet (fail); try go_wp2)
    go_loopg [5] k (fun kq v5 w' => ∃ (x5_1 : Int), v5 = .int .i64 x5_1 ∧ Aside0 (api_Prop_29.l0 kq l0 l1 x5_1 = some r) ∧ Aside0 (kq ≤ k) ∧ Drawn0 w w')
    case atStart => exact ⟨(0), (by first | rfl | (simp; done) | (simp [*]; done) | (simp; exact bne_nil_isEmpty _) | exact bne_nil_isEmpty _ | (simp; exact (bne_nil_isEmpty _).symm) | (simp; exact bne_nil_isEmpty' _)), H', ⟨Nat.le_refl _⟩, by repeat (first | exact Drawn0.refl _ | apply Drawn0.step)⟩
    case round =>
      clear H'
      try clear c1
      try clear c2
      try clear p2
      try clear c3
      try clear c3b0
      try clear c3b1
      try clear c3b2
      obtain ⟨x5_1, rfl, HA, HK1, ⟨m1, rfl⟩⟩ := hrel
      cases gk with
      | zero => exact absurd HA.out (by simp [api_Prop_29.l0])
      | succ k1 =>
        have H := HA.out
        clear HA
        simp only [api_Prop_29.l0] at H
        by_cases c4 : x5_1 < (l0.length : Int)
        · rw [if_pos c4] at H
          have c4b0 : decide (x5_1 < (l0.length : Int)) = true := decide_eq_true c4
          clear c4
          by_cases c5 : 0 ≤ x5_1
          · rw [if_pos c5] at H
            have c5b0 : decide (0 ≤ x5_1) = true := decide_eq_true c5
            clear c5
            by_cases c6 : x5_1 < (l1.length : Int)
            · rw [if_pos c6] at H
              have c6b0 : decide (x5_1 < (l1.length : Int)) = true := decide_eq_true c6
              clear c6
              by_cases c7 : (!(((rd_T27 l0 x5_1).f0) == ((rd_T27 l1 x5_1).f0)) || (!(((rd_T27 l0 x5_1).f1) == ((rd_T27 l1 x5_1).f1)) || (!((((rd_T27 l0 x5_1).f2).toList) == (((rd_T27 l1 x5_1).f2).toList)) || (!((((rd_T27 l0 x5_1).f3).toList) == (((rd_T27 l1 x5_1).f3).toList)))))) = true
              · rw [if_pos c7] at H
                have c7b0 : (!(((rd_T27 l0 x5_1).f0) == ((rd_T27 l1 x5_1).f0)) || (!(((rd_T27 l0 x5_1).f1) == ((rd_T27 l1 x5_1).f1)) || (!((((rd_T27 l0 x5_1).f2).toList) == (((rd_T27 l1 x5_1).f2).toList)) || (!((((rd_T27 l0 x5_1).f3).toList) == (((rd_T27 l1 x5_1).f3).toList)))))) = true := c7
                clear c7
                obtain rfl := Option.some.inj H
                have p335 : 0 ≤ (x5_1 : Int) := of_decide_eq_true (by first | (with_reducible assumption) | assumption)
                have q335 : x5_1 < (l0.length : Int) := of_decide_eq_true (by first | (with_reducible assumption) | assumption)
                obtain ⟨ad335, e335, hx335_0, hx335_1, hx335_2, hx335_3⟩ := at_T27 HR0.out x5_1 p335 q335
                cases e335
                replace p335 := eq_true p335
                replace q335 := eq_true q335
                have p336 : 0 ≤ (x5_1 : Int) := of_decide_eq_true (by first | (with_reducible assumption) | assumption)
                have q336 : x5_1 < (l1.length : Int) := of_decide_eq_true (by first | (with_reducible assumption) | assumption)
                obtain ⟨ad336, e336, hx336_0, hx336_1, hx336_2, hx336_3⟩ := at_T27 HR1.out x5_1 p336 q336
                cases e336
                replace p336 := eq_true p336
                replace q336 := eq_true q336
                go_wp2
                repeat (go_quiet (fail); try go_wp2)
                go_ret
                exact ⟨by first | rfl | (simp; done) | (simp [*]; done) | (simp; exact bne_nil_isEmpty _) | exact bne_nil_isEmpty _ | (simp; exact (bne_nil_isEmpty _).symm) | (simp; exact bne_nil_isEmpty' _), by repeat (first | exact Drawn0.refl _ | apply Drawn0.step)⟩
              · rw [if_neg c7] at H
                have c7b0 : (!(((rd_T27 l0 x5_1).f0) == ((rd_T27 l1 x5_1).f0)) || (!(((rd_T27 l0 x5_1).f1) == ((rd_T27 l1 x5_1).f1)) || (!((((rd_T27 l0 x5_1).f2).toList) == (((rd_T27 l1 x5_1).f2).toList)) || (!((((rd_T27 l0 x5_1).f3).toList) == (((rd_T27 l1 x5_1).f3).toList)))))) = false := by simpa using c7
                clear c7
                have H' := Aside0.mk H
                clear H
                have p335 : 0 ≤ (x5_1 : Int) := of_decide_eq_true (by first | (with_reducible assumption) | assumption)
                have q335 : x5_1 < (l0.length : Int) := of_decide_eq_true (by first | (with_reducible assumption) | assumption)
                obtain ⟨ad335, e335, hx335_0, hx335_1, hx335_2, hx335_3⟩ := at_T27 HR0.out x5_1 p335 q335
                cases e335
                replace p335 := eq_true p335
                replace q335 := eq_true q335
                have p336 : 0 ≤ (x5_1 : Int) := of_decide_eq_true (by first | (with_reducible assumption) | assumption)
                have q336 : x5_1 < (l1.length : Int) := of_decide_eq_true (by first | (with_reducible assumption) | assumption)
                obtain ⟨ad336, e336, hx336_0, hx336_1, hx336_2, hx336_3⟩ := at_T27 HR1.out x5_1 p336 q336
                cases e336
                replace p336 := eq_true p336
                replace q336 := eq_true q336
                go_wp2
                repeat (go_quiet (fail); try go_wp2)
                go_roundg k1
                case measure => have := HK1.out; omega
                case rel => exact ⟨(wrap64 (x5_1 + 1)), (by first | rfl | (simp; done) | (simp [*]; done) | (simp; exact bne_nil_isEmpty _) | exact bne_nil_isEmpty _ | (simp; exact (bne_nil_isEmpty _).symm) | (simp; exact bne_nil_isEmpty' _)), H', ⟨by have := HK1.out; omega⟩, by repeat (first | exact Drawn0.refl _ | apply Drawn0.step)⟩
            · rw [if_neg c6] at H
              exact absurd H (by simp)
          · rw [if_neg c5] at H
            exact absurd H (by simp)
        · rw [if_neg c4] at H
          have c4b0 : decide (x5_1 < (l0.length : Int)) = false := decide_eq_false c4
          clear c4
          obtain rfl := Option.some.inj H
          go_wp2
          repeat (go_quiet (fail); try go_wp2)
          go_ret
          exact ⟨by first | rfl | (simp; done) | (simp [*]; done) | (simp; exact bne_nil_isEmpty _) | exact bne_nil_isEmpty _ | (simp; exact (bne_nil_isEmpty _).symm) | (simp; exact bne_nil_isEmpty' _), by repeat (first | exact Drawn0.refl _ | apply Drawn0.step)⟩
  · rw [if_neg c3] at H
    have c3b0 : ((l0.length : Int) == (l1.length : Int)) = false := beq_eq_false_iff_ne.mpr c3
    have c3b1 : ((l0.length : Int) != (l1.length : Int)) = true := bne_iff_ne.mpr c3
    have c3b2 : (l0.length == l1.length) = false := by first | simpa using c3 | (simp at c3 ⊢; omega)
    obtain rfl := Option.some.inj H
    go_enter Try.func29, Try.ntmps29
    go_wp2
    repeat (go_quiet (fail); try go_wp2)
    go_ret
    exact ⟨by first | rfl | (simp; done) | (simp [*]; done) | (simp; exact bne_nil_isEmpty _) | exact bne_nil_isEmpty _ | (simp; exact (bne_nil_isEmpty _).symm) | (simp; exact bne_nil_isEmpty' _), by repeat (first | exact Drawn0.refl _ | apply Drawn0.step)⟩

end Go.Proofs.Ytngmipfobcaojaa.HA
end

-- YtngmipfobcaojaaHAhReadLaw
section
/- prop.Read, told without rounds; lists are the same: told plainly. -/
-- FOR polyglot/prop.Read
namespace Go.Proofs.Ytngmipfobcaojaa.HA
open Go.RowKit Go.Proofs.YtngmipfobcaojaaW.PrintWords Go.Proofs.YtngmipfobcaojaaW.PrintLast Go.Proofs.YtngmipfobcaojaaW.PrintMore
set_option linter.unusedVariables false
set_option linter.unusedSimpArgs false
def readS (kind : Int) (s : ByteArray) : List PropT × Int × Int :=
  if (readVarS s).2.2 = 0 then
    (if (readVarS s).1 > (s.size : Int) - (readVarS s).2.1 then ([], 0, 3)
    else if (listS kind (s.extract (readVarS s).2.1.toNat ((readVarS s).2.1 + (readVarS s).1).toNat)).2 = 0 then
      ((listS kind (s.extract (readVarS s).2.1.toNat ((readVarS s).2.1 + (readVarS s).1).toNat)).1, (readVarS s).2.1 + (readVarS s).1, 0)
    else ([], 0, (listS kind (s.extract (readVarS s).2.1.toNat ((readVarS s).2.1 + (readVarS s).1).toNat)).2))
  else ([], 0, (readVarS s).2.2)
theorem read5_f (k : Nat) (kind : Int) (s : ByteArray) (hk : 4 < k) (hs : s.size ≤ 4000000000000) : prop_Read.f k kind s = some (readS kind s) := by
  unfold prop_Read.f readS
  rw [varread_f k s hk]
  simp only [Option.bind_some]
  have hz := readVar_size s
  by_cases he : (readVarS s).2.2 = 0
  · rw [if_pos he, if_pos he]
    obtain ⟨h0, h1, _⟩ := readVar_inv s (readVarS s).1 (readVarS s).2.1 (trip he)
    generalize readVarS s = v at *
    rw [w64 _ (by omega) (by omega), w64 _ (by omega) (by omega)]
    by_cases hl : v.1 > (s.size : Int) - v.2.1
    · rw [if_pos hl, if_pos hl]
    · rw [if_neg hl, if_neg hl, if_pos hz.1, if_pos (by omega), if_pos (by omega)]
      unfold prop_list.f
      rw [if_pos (by rw [ByteArray.size_extract]; omega)]
      simp only [Option.bind_some]
      split <;> rfl
  · rw [if_neg he, if_neg he]
theorem strNums_append (a b : List Int) : strOfNums (a ++ b) = strOfNums a ++ strOfNums b := by
  apply ByteArray.ext
  apply Array.ext'
  rw [ByteArray.data_append, Array.toList_append, Go.strOfNums_data, Go.strOfNums_data, Go.strOfNums_data, List.map_append]
theorem extract_mid (a b c : ByteArray) : (a ++ b ++ c).extract a.size (a.size + b.size) = b := by
  apply ByteArray.ext
  apply Array.ext'
  rw [ByteArray.data_extract, Array.toList_extract, List.extract_eq_take_drop, ByteArray.data_append, ByteArray.data_append, Array.toList_append, Array.toList_append]
  have ha : a.data.toList.length = a.size := by simp
  have hb : b.data.toList.length = b.size := by simp
  rw [List.append_assoc, ← ha, List.drop_left, List.take_left' (by omega)]
theorem extract_front (a b : ByteArray) : (a ++ b).extract 0 a.size = a := by
  apply ByteArray.ext
  apply Array.ext'
  rw [ByteArray.data_extract, Array.toList_extract, List.extract_eq_take_drop, ByteArray.data_append, Array.toList_append]
  have ha : a.data.toList.length = a.size := by simp
  rw [List.drop_zero, List.take_left' (by omega)]
theorem read_of (kind : Int) (text behind : ByteArray) (h : text.size ≤ 268435455) : readS kind ((varS text.size).1 ++ text ++ behind) =
    (if (listS kind text).2 = 0 then ((listS kind text).1, (((varS text.size).1 ++ text).size : Int), 0) else ([], 0, (listS kind text).2)) := by
  have hr := readVar_back text.size h (text ++ behind)
  rw [← ByteArray.append_assoc] at hr
  unfold readS
  rw [hr]
  dsimp only
  rw [if_pos rfl, if_neg (by simp only [ByteArray.size_append]; omega), Int.toNat_natCast, show (((varS text.size).1.size : Int) + (text.size : Int)).toNat = (varS text.size).1.size + text.size by omega, extract_mid]
  rw [show ((varS text.size).1.size : Int) + (text.size : Int) = (((varS text.size).1 ++ text).size : Int) by simp only [ByteArray.size_append]; omega]
theorem read_back (kind : Int) (l : List PropT) (behind : ByteArray) (h : (bytesS kind l).2 = 0) : readS kind ((bytesS kind l).1 ++ behind) = (l, ((bytesS kind l).1.size : Int), 0) := by
  obtain ⟨hg, hd⟩ := bytes_ok.1 h
  have hle := encL_len l
  have h1 := hg.1
  have := read_of kind (strOfNums (encL l)) behind (by rw [strOfNums_size]; omega)
  rw [strOfNums_size, list_of kind l hg hd, if_pos rfl] at this
  rw [bytes_of h]
  exact this
theorem read_inv (kind : Int) (s : ByteArray) (hs : s.size ≤ 4000000000000) (h : (readS kind s).2.2 = 0) :
    (bytesS kind (readS kind s).1).2 = 0 ∧ (∃ t, s = (bytesS kind (readS kind s).1).1 ++ t) ∧ (readS kind s).2.1 = ((bytesS kind (readS kind s).1).1.size : Int) ∧ ∀ x ∈ (readS kind s).1, 0 ≤ x.f1 ∧ x.f1 ≤ 4294967295 := by
  unfold readS at h ⊢
  have hz := readVar_size s
  by_cases he : (readVarS s).2.2 = 0
  rotate_left
  · rw [if_neg he] at h; exact absurd h he
  rw [if_pos he] at h ⊢
  obtain ⟨h0, h1, hzz, t, ht⟩ := readVar_inv s (readVarS s).1 (readVarS s).2.1 (trip he)
  generalize readVarS s = v at *
  by_cases hl : v.1 > (s.size : Int) - v.2.1
  · rw [if_pos hl] at h; simp at h
  rw [if_neg hl] at h ⊢
  by_cases hle : (listS kind (s.extract v.2.1.toNat (v.2.1 + v.1).toNat)).2 = 0
  rotate_left
  · rw [if_neg hle] at h; exact absurd h hle
  rw [if_pos hle]
  dsimp only
  have hxs : (s.extract v.2.1.toNat (v.2.1 + v.1).toNat).size = v.1.toNat := by rw [ByteArray.size_extract]; omega
  obtain ⟨hg, hd, htx, hf⟩ := listS_inv kind (s.extract v.2.1.toNat (v.2.1 + v.1).toNat) (by omega) (listS kind (s.extract v.2.1.toNat (v.2.1 + v.1).toNat)).1 (by rcases hq : listS kind (s.extract v.2.1.toNat (v.2.1 + v.1).toNat) with ⟨q1, q2⟩; rw [hq] at hle; dsimp only at hle; rw [hle])
  have hok := bytes_ok.2 ⟨hg, hd⟩
  have hb := bytes_of hok
  have hlen : ((encL (listS kind (s.extract v.2.1.toNat (v.2.1 + v.1).toNat)).1).length : Int) = v.1 := by
    have := congrArg ByteArray.size htx
    rw [strOfNums_size, hxs] at this
    omega
  rw [hlen, ← htx] at hb
  rw [hb]
  refine ⟨rfl, ⟨s.extract (v.2.1 + v.1).toNat s.size, ?_⟩, ?_, hf⟩
  · apply ByteArray.ext
    apply Array.ext'
    have hs1 : s.data.toList.length = s.size := by simp
    have e1 : (varS v.1).1.data.toList = s.data.toList.take v.2.1.toNat := by
      have hv : (varS v.1).1.data.toList.length = v.2.1.toNat := by
        have : (varS v.1).1.data.toList.length = (varS v.1).1.size := by simp
        omega
      have := congrArg (fun b : ByteArray => b.data.toList) ht
      try dsimp only at this
      rw [this, ByteArray.data_append, Array.toList_append, List.take_left' hv]
    dsimp only
    rw [ByteArray.data_append, ByteArray.data_append, Array.toList_append, Array.toList_append, e1, ByteArray.data_extract, ByteArray.data_extract, Array.toList_extract, Array.toList_extract, List.extract_eq_take_drop, List.extract_eq_take_drop]
    rw [List.take_of_length_le (l := s.data.toList.drop (v.2.1 + v.1).toNat) (by rw [List.length_drop]; omega)]
    rw [show (v.2.1 + v.1).toNat - v.2.1.toNat = v.1.toNat by omega]
    have e3 : s.data.toList.take v.2.1.toNat ++ (s.data.toList.drop v.2.1.toNat).take v.1.toNat = s.data.toList.take (v.2.1 + v.1).toNat := by
      rw [show (v.2.1 + v.1).toNat = v.2.1.toNat + v.1.toNat by omega, List.take_add]
    rw [e3, List.take_append_drop]
  · dsimp only
    rw [ByteArray.size_append, hxs]
    omega
theorem read_err (kind : Int) (s : ByteArray) (h : (readS kind s).2.2 ≠ 0) : (readS kind s).1 = [] ∧ (readS kind s).2.1 = 0 := by
  unfold readS at h ⊢
  by_cases he : (readVarS s).2.2 = 0
  · rw [if_pos he] at h ⊢
    by_cases hl : (readVarS s).1 > (s.size : Int) - (readVarS s).2.1
    · rw [if_pos hl]; exact ⟨rfl, rfl⟩
    · rw [if_neg hl] at h ⊢
      by_cases hle : (listS kind (s.extract (readVarS s).2.1.toNat ((readVarS s).2.1 + (readVarS s).1).toNat)).2 = 0
      · rw [if_pos hle] at h; exact absurd rfl h
      · rw [if_neg hle]; exact ⟨rfl, rfl⟩
  · rw [if_neg he]; exact ⟨rfl, rfl⟩
/- Lists are the same. -/
def neP (a b : PropT) : Bool := (!(a.f0 == b.f0) || (!(a.f1 == b.f1) || (!((a.f2.toList) == (b.f2.toList)) || (!((a.f3.toList) == (b.f3.toList))))))
theorem str_eq (a b : ByteArray) : a.toList = b.toList ↔ a = b := by
  constructor
  · intro h
    rw [Lib.toList_data, Lib.toList_data] at h
    apply ByteArray.ext
    exact Array.ext' h
  · rintro rfl; rfl
theorem neP_false (a b : PropT) : neP a b = false ↔ a = b := by
  obtain ⟨a0, a1, a2, a3⟩ := a
  obtain ⟨b0, b1, b2, b3⟩ := b
  unfold neP
  simp only [Bool.or_eq_false_iff, Bool.not_eq_false', beq_iff_eq, str_eq]
  constructor
  · rintro ⟨rfl, rfl, rfl, rfl⟩; rfl
  · intro h; cases h; exact ⟨rfl, rfl, rfl, rfl⟩
theorem rd_get (l : List PropT) (i : Nat) (h : i < l.length) : rd_T27 l (i : Int) = l[i] := by
  unfold rd_T27
  rw [List.getD_eq_getElem?_getD, Int.toNat_natCast, List.getElem?_eq_getElem h]
  rfl
theorem kitSame_l0 (a b : List PropT) (hl : a.length = b.length) (hm : a.length ≤ 1000000) : ∀ (d k i : Nat), i + d = a.length → d < k → ∃ r, api_Prop_29.l0 k a b i = some r ∧ (r = true ↔ a.drop i = b.drop i) := by
  intro d
  induction d with
  | zero =>
    intro k i hi hk
    obtain ⟨k, rfl⟩ : ∃ m, k = m + 1 := ⟨k - 1, by omega⟩
    rw [api_Prop_29.l0.eq_def]
    simp only []
    rw [if_neg (by omega)]
    exact ⟨true, rfl, by rw [List.drop_of_length_le (by omega), List.drop_of_length_le (by omega)]; simp⟩
  | succ d ih =>
    intro k i hi hk
    obtain ⟨k, rfl⟩ : ∃ m, k = m + 1 := ⟨k - 1, by omega⟩
    rw [api_Prop_29.l0.eq_def]
    simp only []
    rw [if_pos (by omega), if_pos (by omega), if_pos (by omega)]
    show ∃ r, (if neP (rd_T27 a i) (rd_T27 b i) = true then some false else api_Prop_29.l0 k a b (wrap64 ((i : Int) + 1))) = some r ∧ _
    rw [rd_get a i (by omega), rd_get b i (by omega)]
    have ed : (a.drop i = b.drop i) ↔ (a[i] = b[i] ∧ a.drop (i + 1) = b.drop (i + 1)) := by
      rw [List.drop_eq_getElem_cons (show i < a.length by omega), List.drop_eq_getElem_cons (show i < b.length by omega), List.cons.injEq]
    by_cases e : a[i] = b[i]
    · rw [(neP_false _ _).2 e, if_neg (by decide), w64 _ (by omega) (by omega), show (i : Int) + 1 = ((i + 1 : Nat) : Int) by omega]
      obtain ⟨r, hr, h⟩ := ih k (i + 1) (by omega) (by omega)
      exact ⟨r, hr, by rw [ed, h]; exact ⟨fun q => ⟨e, q⟩, fun q => q.2⟩⟩
    · have : neP a[i] b[i] = true := by
        cases q : neP a[i] b[i] with
        | true => rfl
        | false => exact absurd ((neP_false _ _).1 q) e
      rw [this, if_pos rfl]
      exact ⟨false, rfl, by rw [ed]; simp [e]⟩
theorem kitSame_f (k : Nat) (a b : List PropT) (hk : a.length < k) (hm : a.length ≤ 1000000) : ∃ r, api_Prop_29.f k a b = some r ∧ (r = true ↔ a = b) := by
  unfold api_Prop_29.f
  by_cases hl : a.length = b.length
  · rw [if_pos (by omega)]
    have := kitSame_l0 a b hl hm a.length k 0 (by omega) hk
    rwa [show ((0 : Nat) : Int) = 0 from rfl, List.drop_zero, List.drop_zero] at this
  · rw [if_neg (by omega)]
    exact ⟨false, rfl, by simp; rintro rfl; exact hl rfl⟩
theorem propSame_l0 (a b : List PropT) (hl : a.length = b.length) (hm : a.length ≤ 1000000) : ∀ (d k i : Nat), i + d = a.length → d < k → ∃ r, prop_Same.l0 k a b a.length i = some r ∧ (r = true ↔ a.drop i = b.drop i) := by
  intro d
  induction d with
  | zero =>
    intro k i hi hk
    obtain ⟨k, rfl⟩ : ∃ m, k = m + 1 := ⟨k - 1, by omega⟩
    rw [prop_Same.l0.eq_def]
    simp only []
    rw [if_neg (by omega)]
    exact ⟨true, rfl, by rw [List.drop_of_length_le (by omega), List.drop_of_length_le (by omega)]; simp⟩
  | succ d ih =>
    intro k i hi hk
    obtain ⟨k, rfl⟩ : ∃ m, k = m + 1 := ⟨k - 1, by omega⟩
    rw [prop_Same.l0.eq_def]
    simp only []
    rw [if_pos (by omega), if_pos (by omega), if_pos (by omega), if_pos (by omega)]
    show ∃ r, (if neP (rd_T27 a i) (rd_T27 b i) = true then some false else prop_Same.l0 k a b a.length (wrap64 ((i : Int) + 1))) = some r ∧ _
    rw [rd_get a i (by omega), rd_get b i (by omega)]
    have ed : (a.drop i = b.drop i) ↔ (a[i] = b[i] ∧ a.drop (i + 1) = b.drop (i + 1)) := by
      rw [List.drop_eq_getElem_cons (show i < a.length by omega), List.drop_eq_getElem_cons (show i < b.length by omega), List.cons.injEq]
    by_cases e : a[i] = b[i]
    · rw [(neP_false _ _).2 e, if_neg (by decide), w64 _ (by omega) (by omega), show (i : Int) + 1 = ((i + 1 : Nat) : Int) by omega]
      obtain ⟨r, hr, h⟩ := ih k (i + 1) (by omega) (by omega)
      exact ⟨r, hr, by rw [ed, h]; exact ⟨fun q => ⟨e, q⟩, fun q => q.2⟩⟩
    · have : neP a[i] b[i] = true := by
        cases q : neP a[i] b[i] with
        | true => rfl
        | false => exact absurd ((neP_false _ _).1 q) e
      rw [this, if_pos rfl]
      exact ⟨false, rfl, by rw [ed]; simp [e]⟩
theorem propSame_f (k : Nat) (a b : List PropT) (hk : a.length < k) (hm : a.length ≤ 1000000) : ∃ r, prop_Same.f k a b = some r ∧ (r = true ↔ a = b) := by
  unfold prop_Same.f
  by_cases hl : a.length = b.length
  · rw [if_pos (by omega)]
    have := propSame_l0 a b hl hm a.length k 0 (by omega) hk
    rwa [show ((0 : Nat) : Int) = 0 from rfl, List.drop_zero, List.drop_zero] at this
  · rw [if_neg (by omega)]
    exact ⟨false, rfl, by simp; rintro rfl; exact hl rfl⟩
end Go.Proofs.Ytngmipfobcaojaa.HA
end

-- YtngmipfobcaojaaHA43
section
-- Written by hp.py (a driver over the kit's print). Not trusted: Lean checks it.
namespace Go.Proofs.Ytngmipfobcaojaa.HA
open Go.RowKit Go.Proofs.YtngmipfobcaojaaW.PrintWords Go.Proofs.YtngmipfobcaojaaW.PrintLast Go.Proofs.YtngmipfobcaojaaW.PrintMore
attribute [local go_sem] max2_int min2_int max_two min_two max_three min_three max_four min_four   -- for this text's walks alone
set_option linter.unusedVariables false
set_option linter.unusedSimpArgs false

/-! ### prop_Valid: function 16 -/
def prop_Valid.f (a0 : Int) (l1 : List (S27)) : Option (Int) := (prop_Bytes.f a0 l1).bind fun bt159 => (some bt159.2)
set_option maxHeartbeats 8000000 in
set_option maxRecDepth 100000 in
theorem prop_Valid.calls (a0 : Int) (A1 : Option Addr) (c1 : Nat) (l1 : List (S27)) (r : Int) (w : World) (hr1 : Kd.C k27 w A1 l1.length l1) (hc1 : l1.length ≤ c1) (h : prop_Valid.f a0 l1 = some r) :
    Calls Try.prog 16 #[.int .i64 a0, .slice A1 l1.length c1] w fun e w' => e = .returned (.int .i64 r) ∧ Below w.heap.size w w' := by
  have HR1 := Aside0.mk hr1
  have HC1 := Aside0.mk hc1
  clear hr1 hc1
  have HB := Aside0.mk (Below.refl w.heap.size w)
  have H : ((prop_Bytes.f a0 l1).bind fun bt159 => (some bt159.2)) = some r := h
  clear h
  replace H := Option.bind_eq_some_iff.mp H
  obtain ⟨⟨t159, t160⟩, A30, H⟩ := H
  replace H : (some t160) = some r := H
  have A3 := Aside0.mk A30
  clear A30
  obtain rfl := Option.some.inj H
  go_enter Try.func16, Try.ntmps16
  go_wp2_with (first | ((with_reducible refine gate_callee (f := 18) rfl ?_); refine goesL_ (some 10) rfl rfl Try.func18 (by kernel_rfl) rfl #[.int .i64 a0, .slice A1 l1.length c1] rfl (by (try simp only [List.map_toArray, List.map_cons, List.map_nil]); first | done | rfl | (simp only [List.length_drop, List.length_take]; rfl)) ?_; (with_reducible refine (prop_Bytes.calls a0 _ _ l1 t159 t160 _ ?side1 ?side2 A3.out).mono ?_); (case side1 => repeat (first | exact HR1.out | (with_reducible refine Kd.C_alloc ?_ _) | (with_reducible refine Kd.C_drewN ?_ _) | (with_reducible refine Kd.C_drew ?_))); (case side2 => exact HC1.out); rintro e w4 ⟨rfl, hb⟩; refine ⟨_, rfl, ?_⟩; have n0_ := Aside0.mk (below_step (by repeat (first | (with_reducible first | exact HB.out | apply below_alloc | apply pw_below_drewN | apply below_drew1) | exact HB.out)) hb); clear HB; have HB := n0_; clear n0_; (try clear hb); (try clear hb2); (try clear hk); (try clear hi)))
  go_ret
  exact ⟨by first | rfl | (simp [errW_none, errW_some] <;> rfl) | (simp [*, errW_none, errW_some] <;> rfl), by repeat (first | (with_reducible first | exact HB.out | apply below_alloc | apply pw_below_drewN | apply below_drew1) | exact HB.out)⟩

end Go.Proofs.Ytngmipfobcaojaa.HA
end

-- YtngmipfobcaojaaHA46
section
-- Written by hp.py (a driver over the kit's print). Not trusted: Lean checks it.
namespace Go.Proofs.Ytngmipfobcaojaa.HA
open Go.RowKit Go.Proofs.YtngmipfobcaojaaW.PrintWords Go.Proofs.YtngmipfobcaojaaW.PrintLast Go.Proofs.YtngmipfobcaojaaW.PrintMore
attribute [local go_sem] max2_int min2_int max_two min_two max_three min_three max_four min_four   -- for this text's walks alone
set_option linter.unusedVariables false
set_option linter.unusedSimpArgs false

/-! ### prop_Many: function 19 -/
def prop_Many.f (a0 : Int) (a1 : Int) : Option (Bool) := (prop_often.f a0 a1).bind fun t167 => (if t167 = true then ((prop_May.f a0 a1).bind fun t168 => (some t168)) else (some false))
set_option maxHeartbeats 8000000 in
set_option maxRecDepth 100000 in
theorem prop_Many.calls (a0 : Int) (a1 : Int) (r : Bool) (w : World) (h : prop_Many.f a0 a1 = some r) :
    Calls Try.prog 19 #[.int .i64 a0, .int .i64 a1] w fun e w' => e = .returned (.bool r) ∧ Below w.heap.size w w' := by
  have HB := Aside0.mk (Below.refl w.heap.size w)
  have H : ((prop_often.f a0 a1).bind fun t167 => (if t167 = true then ((prop_May.f a0 a1).bind fun t168 => (some t168)) else (some false))) = some r := h
  clear h
  replace H := Option.bind_eq_some_iff.mp H
  obtain ⟨t167, A30, H⟩ := H
  replace H : (if t167 = true then ((prop_May.f a0 a1).bind fun t168 => (some t168)) else (some false)) = some r := H
  have A3 := Aside0.mk A30
  clear A30
  by_cases c4 : t167 = true
  · subst c4
    have H1 : ((prop_May.f a0 a1).bind fun t168 => (some t168)) = some r := by rw [if_pos rfl] at H; exact H
    clear H
    have H := H1
    clear H1
    replace H := Option.bind_eq_some_iff.mp H
    obtain ⟨t168, A50, H⟩ := H
    replace H : (some t168) = some r := H
    have A5 := Aside0.mk A50
    clear A50
    obtain rfl := Option.some.inj H
    go_enter Try.func19, Try.ntmps19
    go_wp2_with (first | ((with_reducible refine gate_callee (f := 41) rfl ?_); refine goesL_ (some 7) rfl rfl Try.func41 (by kernel_rfl) rfl #[.int .i64 a0, .int .i64 a1] rfl (by (try simp only [List.map_toArray, List.map_cons, List.map_nil]); first | done | rfl | (simp only [List.length_drop, List.length_take]; rfl)) ?_; (with_reducible refine (prop_often.calls a0 a1 true _ A3.out).mono ?_); rintro e w' ⟨rfl, ⟨nd, rfl⟩⟩; refine ⟨_, rfl, ?_⟩) | (go_at_call 32; (with_reducible refine (prop_May.calls a0 a1 t168 _ A5.out).mono ?_); rintro e w6 ⟨rfl, hb⟩; have n0_ := Aside0.mk (below_step (by repeat (first | (with_reducible first | exact HB.out | apply below_alloc | apply pw_below_drewN | apply below_drew1) | exact HB.out)) hb); clear HB; have HB := n0_; clear n0_; (try clear hb); (try clear hb2); (try clear hk); (try clear hi)))
    go_ret
    exact ⟨by first | rfl | (simp [errW_none, errW_some] <;> rfl) | (simp [*, errW_none, errW_some] <;> rfl), by repeat (first | (with_reducible first | exact HB.out | apply below_alloc | apply pw_below_drewN | apply below_drew1) | exact HB.out)⟩
  · replace c4 := Bool.eq_false_iff.mpr c4
    subst c4
    have H1 : (some false) = some r := by rw [if_neg (show ¬ (false = true) by decide)] at H; exact H
    clear H
    have H := H1
    clear H1
    obtain rfl := Option.some.inj H
    go_enter Try.func19, Try.ntmps19
    go_wp2_with (first | ((with_reducible refine gate_callee (f := 41) rfl ?_); refine goesL_ (some 7) rfl rfl Try.func41 (by kernel_rfl) rfl #[.int .i64 a0, .int .i64 a1] rfl (by (try simp only [List.map_toArray, List.map_cons, List.map_nil]); first | done | rfl | (simp only [List.length_drop, List.length_take]; rfl)) ?_; (with_reducible refine (prop_often.calls a0 a1 false _ A3.out).mono ?_); rintro e w' ⟨rfl, ⟨nd, rfl⟩⟩; refine ⟨_, rfl, ?_⟩))
    go_ret
    exact ⟨by first | rfl | (simp [errW_none, errW_some] <;> rfl) | (simp [*, errW_none, errW_some] <;> rfl), by repeat (first | (with_reducible first | exact HB.out | apply below_alloc | apply pw_below_drewN | apply below_drew1) | exact HB.out)⟩

end Go.Proofs.Ytngmipfobcaojaa.HA
end

-- YtngmipfobcaojaaHA44
section
-- Written by hp.py (a driver over the kit's print). Not trusted: Lean checks it.
namespace Go.Proofs.Ytngmipfobcaojaa.HA
open Go.RowKit Go.Proofs.YtngmipfobcaojaaW.PrintWords Go.Proofs.YtngmipfobcaojaaW.PrintLast Go.Proofs.YtngmipfobcaojaaW.PrintMore
attribute [local go_sem] max2_int min2_int max_two min_two max_three min_three max_four min_four   -- for this text's walks alone
set_option linter.unusedVariables false
set_option linter.unusedSimpArgs false

/-! ### api_Prop_17: function 17 -/
def api_Prop_17.f (l0 : List (S27)) : Option ((List (S27))) := (some (([] : List (S27)) : List (S27))).bind fun y161 => (if y161.length + l0.length < 2932031007402 then (some (y161 ++ l0)) else (none))
set_option maxHeartbeats 8000000 in
set_option maxRecDepth 100000 in
theorem api_Prop_17.calls (A0 : Option Addr) (c0 : Nat) (l0 : List (S27)) (r : List (S27)) (w : World) (hr0 : Kd.C k27 w A0 l0.length l0) (hc0 : l0.length ≤ c0) (h : api_Prop_17.f l0 = some r) :
    Calls Try.prog 17 #[.slice A0 l0.length c0] w fun e w' => ∃ v0_ : Value, e = .returned (v0_) ∧ Kd.R k27 27 w' w.heap.size (fun _ => True) v0_ r ∧ Below w.heap.size w w' := by
  have HR0 := Aside0.mk hr0
  have HC0 := Aside0.mk hc0
  clear hr0 hc0
  have HB := Aside0.mk (Below.refl w.heap.size w)
  have H : ((some (([] : List (S27)) : List (S27))).bind fun y161 => (if y161.length + l0.length < 2932031007402 then (some (y161 ++ l0)) else (none))) = some r := h
  clear h
  obtain ⟨y161, hy161⟩ : ∃ y_ : List (S27), y_ = (([] : List (S27))) := ⟨_, rfl⟩
  replace H : (if y161.length + l0.length < 2932031007402 then (some (y161 ++ l0)) else (none)) = some r := by first | (rw [hy161]; with_reducible exact H) | (have H2_ := (Option.bind_some _ _).symm.trans H; rw [hy161]; with_reducible exact H2_) | (have H2_ := (Option.bind_some _ _).symm.trans H; with_reducible exact H2_) | with_reducible exact H | (rw [hy161]; exact H) | exact H
  have Ny161 := Aside0.mk hy161
  clear hy161
  by_cases c2 : y161.length + l0.length < 2932031007402
  · rw [if_pos c2] at H
    have LMc2 := Aside0.mk c2
    clear c2
    obtain ⟨y164, hy164⟩ : ∃ y_ : List (S27), y_ = (y161 ++ l0) := ⟨_, rfl⟩
    replace H : (some y164) = some r := by first | (rw [hy164]; with_reducible exact H) | (have H2_ := (Option.bind_some _ _).symm.trans H; rw [hy164]; with_reducible exact H2_) | (have H2_ := (Option.bind_some _ _).symm.trans H; with_reducible exact H2_) | with_reducible exact H | (rw [hy164]; exact H) | exact H
    have Ny164 := Aside0.mk hy164
    clear hy164
    obtain rfl := Option.some.inj H
    go_enter Try.func17, Try.ntmps17
    go_wp2_with (first | ((with_reducible refine gate_dst (N := 3) rfl ?_); refine Kd.R_lit k27 _ 27 ?hg (N := 3) ?hd (xs := ([] : List (S27))) (inner := []) (ok := fun _ => True) (okp := fun _ => True) ?hr ?hp (fun _ hk => hk) trivial (Below.refl _ _) (Nat.le_refl _) (by simp) ?_; (case hd => rfl); (case hg => rfl); (case hr => first | (go_simp; done) | (go_simp; rfl)); (case hp => exact (Reps.none _ _)); intro v162 w3 ho4 hb hg_ hnew_; clear hg_ hnew_; (first | rw [← Ny161.out] at ho4 | (simp only [Int.reduceToNat] at ho4; rw [← Ny161.out] at ho4)); have n0_ := Aside0.mk (Kd.R_lower ho4 (below_size (by repeat (first | (with_reducible first | exact HB.out | apply below_alloc | apply pw_below_drewN | apply below_drew1) | exact HB.out)))); have n1_ := Aside0.mk (below_step (by repeat (first | (with_reducible first | exact HB.out | apply below_alloc | apply pw_below_drewN | apply below_drew1) | exact HB.out)) hb); clear HB; have HO163 := n0_; have HB := n1_; clear n0_ n1_; clear hb ho4) | ((with_reducible refine gate_builtin (b := .append) (xs := #[.tmp 3, .tmp 4]) rfl ?_); at_builtin; refine Kd.R_append_rows k27 (w0 := w) w.heap.size rfl (.tmp 3) (.tmp 4) 32 27 (.agg #[(.int .i64 0), (.int .u32 0), (.string ⟨#[]⟩), (.string ⟨#[]⟩)]) 48 rfl Try.underlying32 info27 rfl (by decide) (by omega) v162 y161 l0 _ _ _ (fun _ => True) (fun _ => False) rfl rfl ?aO ?aR (fun _ _ h => h) (fun _ h => h.elim) ?aF ?aB ?aS ?aL ?_; (case aR => repeat (first | exact (Kd.C_below HR0.out HB.out) | (with_reducible refine Kd.C_alloc ?_ _) | (with_reducible refine Kd.C_drewN ?_ _) | (with_reducible refine Kd.C_drew ?_))); (case aB => exact (by repeat (first | (with_reducible first | exact HB.out | apply below_alloc | apply pw_below_drewN | apply below_drew1) | exact HB.out))); (case aF => exact (fun _ _ => trivial)); (case aO => exact (by (with_reducible repeat (first | apply Kd.R_alloc | apply Kd.R_drewN | apply Kd.R_drew)); exact HO163.out)); (case aS => exact (below_size (by repeat (first | (with_reducible first | exact HB.out | apply below_alloc | apply pw_below_drewN | apply below_drew1) | exact HB.out)))); (case aL => have := LMc2.out; omega); intro v165 w5 ho hb hg hat; rw [← Ny164.out] at ho; have n0_ := Aside0.mk (hb); have n1_ := Aside0.mk (ho); clear HB; clear HO163; have HB := n0_; have HO166 := n1_; clear n0_ n1_; clear ho hb hg hat))
    go_ret
    exact ⟨_, by first | rfl | (simp [errW_none, errW_some] <;> rfl) | (simp [*, errW_none, errW_some] <;> rfl), by (with_reducible repeat (first | apply Kd.R_alloc | apply Kd.R_drewN | apply Kd.R_drew)); exact HO166.out, by repeat (first | (with_reducible first | exact HB.out | apply below_alloc | apply pw_below_drewN | apply below_drew1) | exact HB.out)⟩
  · rw [if_neg c2] at H
    exact absurd H (by simp)

end Go.Proofs.Ytngmipfobcaojaa.HA
end

-- YtngmipfobcaojaaHAhListLaw
section
/- prop.Get, prop.Many and a list's own copy, told plainly. -/
-- FOR polyglot/prop.Valid
namespace Go.Proofs.Ytngmipfobcaojaa.HA
open Go.RowKit Go.Proofs.YtngmipfobcaojaaW.PrintWords Go.Proofs.YtngmipfobcaojaaW.PrintLast Go.Proofs.YtngmipfobcaojaaW.PrintMore
set_option linter.unusedVariables false
set_option linter.unusedSimpArgs false
theorem own_f (l : List PropT) (h : l.length ≤ 1010) : api_Prop_17.f l = some l := by
  unfold api_Prop_17.f
  simp
  omega
theorem valid5_f (kind : Int) (l : List PropT) : prop_Valid.f kind l = some (bytesS kind l).2 := rfl
theorem many_f (kind : Int) (p : PropT) (h : checkS (ruleOf p.f0) kind p = 0) : prop_Many.f kind p.f0 = some (oftenB kind p.f0) := by
  unfold prop_Many.f prop_May.f
  have hh : hasS (ruleOf p.f0) kind = true := by
    cases e : hasS (ruleOf p.f0) kind with
    | true => rfl
    | false => unfold checkS at h; rw [if_pos e] at h; omega
  rw [often_f, has_f]
  simp only [Option.bind_some]
  rw [hh]
  cases oftenB kind p.f0 <;> simp
theorem rd_mem (l : List PropT) (t : Int) (h0 : 0 ≤ t) (h1 : t < l.length) : rd_T27 l t ∈ l := by
  unfold rd_T27
  rw [List.getD_eq_getElem?_getD, List.getElem?_eq_getElem (show t.toNat < l.length by omega)]
  exact List.getElem_mem _
end Go.Proofs.Ytngmipfobcaojaa.HA
end

-- YtngmipfobcaojaaHAhLightLaw
section
/- The bound of the laws' lists, and a list's own copy. -/
-- FOR polyglot/polyglotkit.LightProps
namespace Go.Proofs.Ytngmipfobcaojaa.HA
open Go.RowKit Go.Proofs.YtngmipfobcaojaaW.PrintWords Go.Proofs.YtngmipfobcaojaaW.PrintLast Go.Proofs.YtngmipfobcaojaaW.PrintMore
set_option linter.unusedVariables false
set_option linter.unusedSimpArgs false
theorem weight_f (l : List S27) (hl : l.length ≤ 1010) : ∀ (d k : Nat) (i : Nat) (n : Int), i + d = l.length → ∃ w, polyglotkit_weight.l0 (k + d + 1) l n i = some w := by
  intro d
  induction d with
  | zero =>
    intro k i n hi
    rw [polyglotkit_weight.l0.eq_def]
    simp only []
    rw [if_neg (by omega)]
    exact ⟨_, rfl⟩
  | succ d ih =>
    intro k i n hi
    rw [show k + (d + 1) + 1 = (k + d + 1) + 1 by omega, polyglotkit_weight.l0.eq_def]
    simp only []
    rw [if_pos (by omega), if_pos (by omega), w64 ((i : Int) + 1) (by omega) (by omega), show (i : Int) + 1 = ((i + 1 : Nat) : Int) by omega]
    exact ih k (i + 1) _ (by omega)
theorem light_f (k : Nat) (l : List S27) (hk : 1012 ≤ k) : polyglotkit_LightProps.f k l = some false ∨ (polyglotkit_LightProps.f k l = some true ∧ l.length ≤ 1010) := by
  unfold polyglotkit_LightProps.f
  by_cases h : (l.length : Int) ≤ 1010
  · rw [if_pos h]
    obtain ⟨w, hw⟩ := weight_f l (by omega) l.length (k - l.length - 1) 0 0 (by omega)
    rw [show k - l.length - 1 + l.length + 1 = k by omega] at hw
    unfold polyglotkit_weight.f
    rw [show ((0 : Nat) : Int) = 0 from rfl] at hw
    rw [hw]
    by_cases hw2 : w ≤ 140000
    · exact Or.inr ⟨by simp [hw2], by omega⟩
    · exact Or.inl (by simp [hw2])
  · rw [if_neg h]
    exact Or.inl rfl
end Go.Proofs.Ytngmipfobcaojaa.HA
end

-- YtngmipfobcaojaaHAhLives5
section
/- The example of the chapter is so. -/
-- FOR polyglot/polyglotlaw05.lives
namespace Go.Proofs.Ytngmipfobcaojaa.HA
open Go.RowKit Go.Proofs.YtngmipfobcaojaaW.PrintWords Go.Proofs.YtngmipfobcaojaaW.PrintLast Go.Proofs.YtngmipfobcaojaaW.PrintMore
set_option linter.unusedVariables false
set_option linter.unusedSimpArgs false
set_option maxRecDepth 100000 in
theorem lives5_f : polyglotlaw05_lives.f = some true := by
  unfold polyglotlaw05_lives.f prop_Bytes.f
  kernel_rfl
end Go.Proofs.Ytngmipfobcaojaa.HA
end

-- YtngmipfobcaojaaHAhPick
section
/- Pick answers a place of the list. -/
-- FOR polyglot/polyglotkit.Pick
namespace Go.Proofs.Ytngmipfobcaojaa.HA
open Go.RowKit Go.Proofs.YtngmipfobcaojaaW.PrintWords Go.Proofs.YtngmipfobcaojaaW.PrintLast Go.Proofs.YtngmipfobcaojaaW.PrintMore
set_option linter.unusedVariables false
set_option linter.unusedSimpArgs false
theorem pick_f (a n : Int) (h1 : -9223372036854775808 ≤ a) (h2 : a ≤ 9223372036854775807) (n1 : 1 ≤ n) (n2 : n ≤ 9223372036854775807) :
    ∃ t, polyglotkit_Pick.f a n = some t ∧ 0 ≤ t ∧ t < n := by
  unfold polyglotkit_Pick.f
  rw [if_neg (by omega), if_neg (by omega)]
  have e : Int.tmod a n = a - n * Int.tdiv a n := by have := Int.mul_tdiv_add_tmod a n; omega
  have hb : Int.tmod a n < n := Int.tmod_lt_of_pos a (by omega)
  have hb2 : - n < Int.tmod a n := by
    by_cases h : 0 ≤ a
    · have := Int.tmod_nonneg n h; omega
    · have h3 : Int.tmod a n = - Int.tmod (-a) n := by rw [Int.neg_tmod]; omega
      have := Int.tmod_lt_of_pos (-a) (show 0 < n by omega)
      omega
  by_cases hn : Int.tmod a n < 0
  · rw [if_pos hn]
    refine ⟨_, rfl, ?_⟩
    unfold wrap64
    omega
  · rw [if_neg hn]
    exact ⟨_, rfl, by omega, hb⟩
theorem wf_i64 {a : Int} (h : (Lit.int .i64 a).wf = true) : -9223372036854775808 ≤ a ∧ a ≤ 9223372036854775807 := by
  simp only [Lit.wf, Bool.and_eq_true, decide_eq_true_eq] at h
  have e1 : IntKind.i64.min = -9223372036854775808 := by decide
  have e2 : IntKind.i64.max = 9223372036854775807 := by decide
  omega
end Go.Proofs.Ytngmipfobcaojaa.HA
end

-- YtngmipfobcaojaaHAhOpenProps
section
/- An argument that is a list of properties, opened: the list behind it. -/
-- FOR polyglot/prop.Check
namespace Go.Proofs.Ytngmipfobcaojaa.HA
open Go.RowKit Go.Proofs.YtngmipfobcaojaaW.PrintWords Go.Proofs.YtngmipfobcaojaaW.PrintLast Go.Proofs.YtngmipfobcaojaaW.PrintMore
set_option linter.unusedVariables false
set_option linter.unusedSimpArgs false
open Go.ChangeShapes Go.WideShapes Go.ChangeAt Go.Joins Go.Deep
structure OkP (x : S27) : Prop where
  i0 : (Lit.int .i64 x.f0).wf = true
  i1 : (Lit.int .u32 x.f1).wf = true
  s2 : x.f2.size ≤ maxLen
  s3 : x.f3.size ≤ maxLen
theorem list4 {α : Type} (cs : List α) (h : cs.length = 4) : ∃ v0 v1 v2 v3, cs = [v0, v1, v2, v3] := by
  rcases cs with _ | ⟨v0, _ | ⟨v1, _ | ⟨v2, _ | ⟨v3, _ | ⟨v4, l⟩⟩⟩⟩⟩
  · simp at h
  · simp at h
  · simp at h
  · simp at h
  · exact ⟨v0, v1, v2, v3, rfl⟩
  · simp at h
theorem open_prop_cells {H : Type} {enc : TypeId × Value → H} {W : World} {base : Nat} {spare : Nat → Bool} {held : Bool} {n : Nat} {cs : List Value} {y : DataW H × List MemPlace}
    (h : DataW.trod enc Try.prog W base spare held n 27 cs = some y) :
    ∃ x : S27, cs = [.int .i64 x.f0, .int .u32 x.f1, .string x.f2, .string x.f3] ∧ OkP x := by
  obtain ⟨y0, y1, y2, y3, n', _, hlen, h0, h1, h2, h3⟩ := trod_struct4 Try.underlying27 h
  have hl : cs.length = 4 := hlen.trans (by kernel_rfl)
  obtain ⟨v0, v1, v2, v3, rfl⟩ := list4 cs hl
  have e0 : Try.prog.cellsOf 3 = 1 := by kernel_rfl
  have e1 : Try.prog.cellsOf 25 = 1 := by kernel_rfl
  have e2 : Try.prog.cellsOf 9 = 1 := by kernel_rfl
  rw [show Try.prog.cellsOf _ = 1 from e0] at h0
  rw [show Try.prog.cellsOf _ = 1 from e1] at h1
  rw [show Try.prog.cellsOf _ = 1 from e2] at h2 h3
  obtain ⟨x0, q0, _, w0⟩ := DataW.trod_int Try.underlying3 h0
  obtain ⟨x1, q1, _, w1⟩ := DataW.trod_int Try.underlying25 h1
  obtain ⟨x2, q2, _, w2⟩ := DataW.trod_string Try.underlying9 h2
  obtain ⟨x3, q3, _, w3⟩ := DataW.trod_string Try.underlying9 h3
  simp at q0 q1 q2 q3
  subst q0 q1 q2 q3
  exact ⟨⟨x0, x1, x2, x3⟩, rfl, ⟨w0, w1, w2, w3⟩⟩
theorem open_props {H : Type} {enc : TypeId × Value → H} {W : World} {base : Nat} {spare : Nat → Bool} {held : Bool} {a : Option Addr} {len cap : Nat} {d : DataW H} {ps : List MemPlace}
    (h : DataW.Trod enc Try.prog W base spare held 32 (.slice a len cap) d ps) :
    ∃ l : List S27, Kd.C k27 W a l.length l ∧ l.length = len ∧ len ≤ cap ∧ l.length ≤ maxLen ∧ ∀ x ∈ l, OkP x := by
  obtain ⟨fuel, hf⟩ := h
  have hmax : (maxLen : Nat) ≤ 9223372036854775807 := by decide
  rcases open_slice Try.underlying32 hf with ⟨hcs, _⟩ | ⟨x, l, c, m, n, D, Pl, hcs, _, hl, hm, hmm, _, hx⟩
  · simp [Value.cells] at hcs
    obtain ⟨rfl, rfl, rfl⟩ := hcs
    exact ⟨[], ⟨rfl, by decide, fun q => absurd q (by simp)⟩, rfl, Nat.le_refl _, Nat.zero_le _, fun _ q => by simp at q⟩
  · simp [Value.cells] at hcs
    obtain ⟨rfl, rfl, rfl⟩ := hcs
    have hlm : len ≤ m := by rw [hmm]; split <;> omega
    have e4 : Try.prog.cellsOf 27 = 4 := by kernel_rfl
    haveI : Inhabited S27 := ⟨z27⟩
    obtain ⟨f, hfx⟩ := choose_lt (α := S27) (n := len) (p := fun i y => (∀ j u, ([.int .i64 y.f0, .int .u32 y.f1, .string y.f2, .string y.f3] : List Value)[j]? = some u → W.cell? (x.add (i * 4 + j)) = some u) ∧ OkP y) (fun i hi => by
      obtain ⟨cs', h1, h2⟩ := hx i (by omega)
      obtain ⟨y, rfl, hy⟩ := open_prop_cells h2
      refine ⟨y, fun j u hu => ?_, hy⟩
      obtain ⟨_, _, hc⟩ := World.cells?_some h1
      have hj : j < 4 := by
        by_cases q : j < 4
        · exact q
        · rw [List.getElem?_eq_none (by simpa using q)] at hu; exact absurd hu (by simp)
      have := hc j (by rw [e4]; exact hj)
      rw [e4, hu, Go.Deep.add_add] at this
      exact this)
    refine ⟨(List.range len).map f, ⟨rfl, by simp; omega, fun _ => ⟨x, rfl, fun j p hj => ?_⟩⟩, by simp, hl, by simp; omega, fun y hy => ?_⟩
    · have hjl : j < len := by
        by_cases q : j < len
        · exact q
        · rw [List.getElem?_eq_none (by simpa using q)] at hj; exact absurd hj (by simp)
      rw [List.getElem?_map, List.getElem?_range hjl] at hj
      obtain rfl : f j = p := by simpa using hj
      exact ⟨_, rfl, k27_mk W (f j), (hfx j hjl).1⟩
    · obtain ⟨i, hi, rfl⟩ := List.mem_map.1 hy
      exact (hfx i (List.mem_range.1 hi)).2
end Go.Proofs.Ytngmipfobcaojaa.HA
end

-- YtngmipfobcaojaaPurePropShort
section
/- The plain law of PropShort: no program in sight. -/
-- FOR polyglot/polyglotlaw05.PropShort
namespace Go.Proofs.Ytngmipfobcaojaa.HA
open Go.RowKit Go.Proofs.YtngmipfobcaojaaW.PrintWords Go.Proofs.YtngmipfobcaojaaW.PrintLast Go.Proofs.YtngmipfobcaojaaW.PrintMore
set_option linter.unusedVariables false
set_option linter.unusedSimpArgs false
theorem ref_small (n : Int) (h0 : 0 ≤ n) (h1 : n < 128) (k : Nat) (hk : 3 < k) : polyglotref02_Bytes.f k n = some ((varS n).1, 0) := by
  obtain ⟨k, rfl⟩ : ∃ m, k = m + 1 + 1 := ⟨k - 2, by omega⟩
  unfold polyglotref02_Bytes.f polyglotref02_Size.f
  rw [if_neg (by omega), decide_eq_false (show ¬ n > 268435455 by omega), polyglotref02_Size.j0.eq_def]
  simp only [Bool.false_eq_true, if_false]
  rw [if_pos h1]
  simp only [Option.bind_some]
  rw [if_neg (by decide), polyglotref02_Bytes.l0.eq_def]
  simp only []
  rw [if_pos (by decide), w64 _ (by omega) (by omega), if_neg (by decide), if_pos (by decide), polyglotref02_Bytes.l0.eq_def]
  simp only []
  rw [if_neg (by decide)]
  have e1 : Int.tmod n 128 = n := by rw [Int.tmod_eq_emod_of_nonneg h0]; omega
  obtain ⟨m, rfl⟩ := Int.eq_ofNat_of_zero_le h0
  have e2 : (varS (m : Int)).1 = strOfNums [(m : Int) % 256] := by
    unfold varS
    rw [if_pos (by omega), Int.toNat_natCast]
    show strOfNums (varTo 3 m) = _
    rw [varTo, if_neg (by omega)]
  rw [e1, e2]
  rfl
theorem varS_small (n : Nat) (h1 : n < 128) : (varS n).1.size = 1 := by
  unfold varS
  rw [if_pos (by omega), Int.toNat_natCast, strOfNums_size]
  show (varTo 3 n).length = 1
  rw [varTo, if_neg (by omega)]
  rfl
theorem readVar_empty (s : ByteArray) (h : s.size = 0) : readVarS s = (0, 0, 3) := by
  unfold readVarS
  rw [rdV, if_pos (by omega)]
end Go.Proofs.Ytngmipfobcaojaa.HA
namespace Go.Proofs.Ytngmipfobcaojaa.Pure
open Go.Proofs.Ytngmipfobcaojaa.HA
open Go.RowKit Go.Proofs.YtngmipfobcaojaaW.PrintWords Go.Proofs.YtngmipfobcaojaaW.PrintLast Go.Proofs.YtngmipfobcaojaaW.PrintMore
set_option linter.unusedVariables false
set_option linter.unusedSimpArgs false
theorem PropShort : ∀ (a0 : Int) (l1 : List PropT) (a2 : Int), (Lit.int .i64 a0).wf = true → l1.length ≤ maxLen → (∀ x ∈ l1, OkP x) → (Lit.int .i64 a2).wf = true →
    ∃ k, polyglotlaw05_PropShort.f k a0 l1 a2 = some true := by
  intro a0 l1 a2 _ _ _ hw2
  have hwf := wf_i64 hw2
  refine ⟨2000, ?_⟩
  unfold polyglotlaw05_PropShort.f
  rw [lives5_f]
  simp only [Option.bind_some, if_true]
  rcases light_f 2000 l1 (by omega) with hl | ⟨hl, hlen⟩
  · rw [hl]
    simp only [Option.bind_some, Bool.false_eq_true, if_false]
  rw [hl]
  simp only [Option.bind_some, if_true]
  have hj0 : ∀ s, polyglotlaw05_PropShort.j0 2000 a0 a2 s true = some true := by
    intro s
    rw [show (2000 : Nat) = 1999 + 1 from rfl, polyglotlaw05_PropShort.j0.eq_def]
    simp only [if_true]
  unfold prop_Bytes.f
  simp only [Option.bind_some]
  by_cases he : (bytesS a0 l1).2 = 0
  rotate_left
  · rw [if_neg he]; exact hj0 _
  rw [if_pos he]
  by_cases h127 : ((bytesS a0 l1).1.size : Int) > 127
  · rw [decide_eq_true h127]; exact hj0 _
  rw [decide_eq_false h127]
  obtain ⟨hg, hd⟩ := bytes_ok.1 he
  have hb := bytes_of he
  generalize hbs : bytesS a0 l1 = bs at *
  have hb1 : bs.1 = (varS (encL l1).length).1 ++ strOfNums (encL l1) := by rw [hb]
  have hsz : bs.1.size = (varS (encL l1).length).1.size + (encL l1).length := by rw [hb1, ByteArray.size_append, strOfNums_size]
  have hm : (encL l1).length < 128 := by omega
  rw [varS_small _ hm] at hsz
  rw [show (2000 : Nat) = 1999 + 1 from rfl, polyglotlaw05_PropShort.j0.eq_def]
  simp only [Bool.false_eq_true, if_false]
  obtain ⟨t, ht, ht0, ht1⟩ := pick_f a2 (bs.1.size : Int) hwf.1 hwf.2 (by omega) (by omega)
  rw [ht]
  simp only [Option.bind_some]
  rw [if_pos ht0, if_pos (by omega), read5_f 1999 a0 _ (by omega) (by rw [ByteArray.size_extract]; omega), ref_small _ (by omega) (by omega) 1999 (by omega)]
  simp only [Option.bind_some]
  have hm2 := varS_small bs.1.size (by omega)
  have e1 : bs.1.extract 1 bs.1.size = strOfNums (encL l1) := by
    have := extract_mid (varS (encL l1).length).1 (strOfNums (encL l1)) ⟨#[]⟩
    rw [varS_small _ hm, strOfNums_size, show (varS (encL l1).length).1 ++ strOfNums (encL l1) ++ ⟨#[]⟩ = bs.1 by rw [hb1]; exact ByteArray.append_empty, show 1 + (encL l1).length = bs.1.size by omega] at this
    exact this
  rw [e1]
  rw [if_pos (by omega), if_pos (by rw [hm2, strOfNums_size]; omega), if_pos (by rw [ByteArray.size_append, hm2, strOfNums_size]; omega)]
  rw [read5_f 1999 a0 _ (by omega) (by simp only [ByteArray.size_append, hm2, strOfNums_size]; have : (⟨#[0]⟩ : ByteArray).size = 1 := rfl; omega)]
  simp only [Option.bind_some]
  have hfirst : readS a0 (bs.1.extract 0 t.toNat) = ([], 0, 3) := by
    by_cases hz : t = 0
    · subst hz
      unfold readS
      rw [readVar_empty _ (by rw [ByteArray.size_extract]; simp)]
      rfl
    · have es : bs.1.extract 0 t.toNat = (varS (encL l1).length).1 ++ (strOfNums (encL l1)).extract 0 (t.toNat - 1) := by
        apply ByteArray.ext
        apply Array.ext'
        have hv : (varS (encL l1).length).1.data.toList.length = 1 := by
          have : (varS (encL l1).length).1.data.toList.length = (varS (encL l1).length).1.size := by simp
          rw [this, varS_small _ hm]
        rw [ByteArray.data_extract, Array.toList_extract, List.extract_eq_take_drop, hb1, ByteArray.data_append, Array.toList_append, ByteArray.data_append, Array.toList_append, ByteArray.data_extract, Array.toList_extract, List.extract_eq_take_drop]
        rw [List.drop_zero, List.drop_zero, List.take_append, hv, List.take_of_length_le (l := (varS (encL l1).length).1.data.toList) (by omega)]
        rfl
      have hr := readVar_back (encL l1).length (by omega) ((strOfNums (encL l1)).extract 0 (t.toNat - 1))
      rw [← es] at hr
      unfold readS
      rw [hr]
      dsimp only
      rw [if_pos rfl, if_pos (by rw [ByteArray.size_extract, varS_small _ hm]; omega)]
  have hzero : readS a0 ((varS bs.1.size).1 ++ strOfNums (encL l1) ++ (⟨#[0]⟩ : ByteArray)) = ([], 0, 9) := by
    have e0 : (⟨#[0]⟩ : ByteArray) = strOfNums [0] := rfl
    rw [e0, ByteArray.append_assoc, ← strNums_append]
    have hr := read_of a0 (strOfNums (encL l1 ++ [0])) ⟨#[]⟩ (by rw [strOfNums_size, List.length_append, List.length_singleton]; omega)
    rw [strOfNums_size, List.length_append, List.length_singleton, show (encL l1).length + 1 = bs.1.size by omega, show ∀ x : ByteArray, x ++ (⟨#[]⟩ : ByteArray) = x from fun _ => ByteArray.append_empty] at hr
    rw [hr, list_zero a0 _ (by rw [strOfNums_size, List.length_append, List.length_singleton]; omega) l1 hg]
    · rfl
    · apply bytes_nums
      intro x hx
      rcases List.mem_append.1 hx with hx | hx
      · exact encL_range l1 x hx
      · rw [List.mem_singleton.1 hx]; omega
  rw [hfirst, hzero]
  rfl
end Go.Proofs.Ytngmipfobcaojaa.Pure
end

-- YtngmipfobcaojaaLawPropShort
section
/- The row of the law PropShort, out of its plain law and the walk of its function. -/
namespace Go.Proofs.Ytngmipfobcaojaa.propShort
open Go.ChangeShapes Go.WideShapes Go.ChangeAt Go.RowKit Go.Proofs.Ytngmipfobcaojaa.HA
open Go.ChangeMaps (open_string shut_string)
set_option linter.unusedVariables false
theorem own : ownKnob Try.prog.godebug = none := by kernel_rfl
theorem laidOut : laidOutB Try.prog = true := by kernel_rfl
set_option maxRecDepth 100000 in
theorem lifted (os : Os) (started : os.Started) (H : Type) (enc : TypeId × Value → H) :
    ReturnsInHanded {} Try.checked os 8 .any (Rows.propShortSpec.pre6 enc Try.prog Try.f8 Rows.propShortRow.domain false) (Rows.propShortSpec.post enc Try.prog Try.f8 false true false false) := by
  refine returnsInHanded_of_change_sized (C := Try.checked) own started (by kernel_rfl) Try.func8
    (ChangeSpec.witness6 (enc := enc) (C := Try.checked) false ⟨#[], #[.int .i64 0, .slice none 0 0, .int .i64 0], []⟩ 8 (by kernel_rfl) (by kernel_rfl) (by kernel_rfl) (by kernel_rfl)) ?_
  intro W base args ds gs before hval0 hW hcnd hsz0 _
  have hsz : (DataW.weightsEach Try.prog (Try.f8.params.toList ++ Rows.propShortSpec.plain.varTypes Try.prog) (ds ++ gs)).all (· ≤ reachBytes) = true := hsz0
  have hval : ∀ (j : Nat) t v, Try.f8.params[j]? = some t → args[j]? = some v → Value.okWide Try.prog W .any base t v := hval0
  have hW' := hW
  obtain ⟨p, q, hA0, hV, rfl, hfz, hnd⟩ := hW
  have hA : DataW.TrodAll enc Try.prog W 0 (fun _ => true) true Try.f8.params.toList args.toList ds p := hA0
  rw [Try.params8] at hA hval hsz
  obtain ⟨v0, vs0, d0, ds0, p0, q0, hargs, rfl, rfl, h0, r0⟩ := trodAll_cons hA
  obtain ⟨v1, vs1, d1, ds1, p1, q1, rfl, rfl, rfl, h1, r1⟩ := trodAll_cons r0
  obtain ⟨v2, vs2, d2, ds2, p2, q2, rfl, rfl, rfl, h2, r2⟩ := trodAll_cons r1
  obtain ⟨rfl, rfl, rfl⟩ := trodAll_nil r2
  obtain rfl : args = #[v0, v1, v2] := by cases args; simp_all
  obtain ⟨rfl, rfl⟩ := trodVars_none hV
  obtain ⟨a0, rfl, rfl, rfl, w0⟩ := open_int Try.underlying3 (hval 0 3 v0 rfl rfl) h0
  obtain ⟨a1, len1, cap1, rfl⟩ := okWide_slice Try.underlying32 (hval 1 32 v1 rfl rfl)
  have k1 := h1
  have lt1 : ∀ x ∈ p1, x.block < W.heap.size := by obtain ⟨m, hm⟩ := k1; exact DataW.trod_lt m _ _ _ hm
  obtain ⟨l1, hC1, rfl, hc1, m1, ok1⟩ := open_props h1
  obtain ⟨a2, rfl, rfl, rfl, w2⟩ := open_int Try.underlying3 (hval 2 3 v2 rfl rfl) h2
  clear hA0 hval0 hsz0 hsz
  obtain ⟨k, hk⟩ := Pure.PropShort a0 l1 a2 w0 m1 ok1 w2
  refine (polyglotlaw05_PropShort.calls k a0 a1 cap1 l1 a2 true W hC1 hc1 hk).mono fun e W' ⟨he, bel⟩ => ?_
  subst he
  exact ⟨_, rfl, _, _, _, [], _, [], hW', trodAll_mk1 (shut_bool Try.underlying4 _), (trodAll_cons_mk (shut_int Try.underlying3 w0) (trodAll_cons_mk (Below.trod laidOut (by kernel_rfl) (of_decide_eq_true (by kernel_rfl)) k1 bel lt1) (trodAll_cons_mk (shut_int Try.underlying3 w2) trodAll_mk0))), rfl, bel.frame _, fun h => by cases h⟩
theorem over : Rows.propShortRow.holds Try.pinned (OpenSpec.ofChange Rows.propShortSpec) :=
  OpenClaim.holds_of_wide 8 Try.f8 rfl rfl rfl rfl rfl rfl rfl ⟨rfl, rfl, rfl, rfl, rfl⟩ rfl rfl rfl rfl rfl (by kernel_rfl) Try.func8 (by kernel_rfl)
    (of_decide_eq_true (by kernel_rfl)) (by unfold Func.isWrapper; first | (rw [if_pos (by decide +kernel)]; kernel_rfl) | (rw [if_neg (by decide +kernel)]; exact ⟨rfl, rfl⟩))
    (fun os started H enc _ => lifted os started H enc)
theorem proved : Rows.PropShortSaid := over
#print axioms proved
end Go.Proofs.Ytngmipfobcaojaa.propShort
namespace Go.Proofs.Ytngmipfobcaojaa
/-- The row, under a short name, for the claim. -/
theorem propShort_holds : Rows.PropShortSaid := propShort.proved
end Go.Proofs.Ytngmipfobcaojaa
end
