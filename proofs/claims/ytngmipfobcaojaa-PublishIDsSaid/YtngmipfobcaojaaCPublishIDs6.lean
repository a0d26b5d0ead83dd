/- An id is in the body of a publish packet only with QoS 1 or 2, after the topic, and without it the body is two bytes shorter: for every topic and payload of at most 300 bytes, every id and QoS. -/
import Derived.Test.YtngmipfobcaojaaCPublishIDs1
import Derived.Test.YtngmipfobcaojaaCPublishIDs5
import Derived.Test.YtngmipfobcaojaaCPublishIDs2
import Derived.Test.YtngmipfobcaojaaCPublishIDs4
import Derived.Test.YtngmipfobcaojaaRows
import Derived.WalkKit
import Derived.ProofKit
import Derived.OpenShut
import Derived.ShutString
import Derived.ChangeOld
import Derived.Below
import Derived.SizedLaws

-- YtngmipfobcaojaaHA63
section
namespace Go.Proofs.Ytngmipfobcaojaa.HA
open Go.RowKit Go.Proofs.YtngmipfobcaojaaW.PrintWords Go.Proofs.YtngmipfobcaojaaW.PrintLast Go.Proofs.YtngmipfobcaojaaW.PrintMore
attribute [local go_sem] max2_int min2_int max_two min_two max_three min_three max_four min_four
set_option linter.unusedVariables false
set_option linter.unusedSimpArgs false

theorem polyglotlaw09_PublishIDs.gl {P : Program} {ops : Array Oper} {rest : List Oper} {o : Oper} {a : Act} {Q : Exit → Act → World → Prop} {W : World} {x : Operand} (_ho : o.op = .load 48 x) (h : wpList P ops Q (o :: rest) a W) : wpList P ops Q (o :: rest) a W := h
def polyglotlaw09_PublishIDs.j0 : Nat → ByteArray → ByteArray → Int → Int → Bool → Option (Bool)
  | 0, _, _, _, _, _ => none
  | k + 1, x0, x1, x2, x3, x28 => if x28 = true then (some true) else ((polyglotkit_Pick.f x3 3).bind fun t330 => ((publish_Body.f k 4 3 false false t330 (wrap64 (x2)) x0 x1 false 0 (⟨#[]⟩ : ByteArray) false (⟨#[]⟩ : ByteArray) false (⟨#[]⟩ : ByteArray) false (⟨#[]⟩ : ByteArray) (⟨#[]⟩ : ByteArray) 0 false ([] : List (S27)) false 0 ([] : List Int) ([] : List (S119)) ([] : List (S27))).bind fun bt332 => (if ((bt332.2 == 0) != ((decide (t330 > 0)) == (decide (x2 > 0)))) = true then (some false) else (if (((decide (t330 > 0)) == (decide (x2 > 0))) = true) then (if t330 > 0 then ((some (([(x2 / 256) % 256, (x2) % 256] : List Int) : List Int)).bind fun y334 => (if x0.size + (strOfNums y334).size ≤ 9223372036854775807 then (if (bt332.1.size : Int) ≥ 2 then (if 2 ≤ (bt332.1.size : Int) then (if (x0 ++ (strOfNums y334)).size + x1.size ≤ 9223372036854775807 then (some ((bt332.1.extract 2 bt332.1.size).toList == ((x0 ++ (strOfNums y334)) ++ x1).toList)) else (none)) else (none)) else (some false)) else (none))) else (if (bt332.1.size : Int) ≥ 2 then (if 2 ≤ (bt332.1.size : Int) then (if x0.size + x1.size ≤ 9223372036854775807 then (some ((bt332.1.extract 2 bt332.1.size).toList == (x0 ++ x1).toList)) else (none)) else (none)) else (some false))) else (some (bt332.1.toList == ([] : List UInt8)))))))
def polyglotlaw09_PublishIDs.f (k : Nat) (a0 : ByteArray) (a1 : ByteArray) (a2 : Int) (a3 : Int) : Option (Bool) := (polyglotlaw09_lives.f k).bind fun t328 => (if t328 = true then (if (a0.size : Int) > 300 then (polyglotlaw09_PublishIDs.j0 k a0 a1 a2 a3 true) else (if (a1.size : Int) > 300 then (polyglotlaw09_PublishIDs.j0 k a0 a1 a2 a3 true) else ((polyglotref04_Name.f k a0).bind fun t329 => (polyglotlaw09_PublishIDs.j0 k a0 a1 a2 a3 (!t329))))) else (some false))
set_option maxHeartbeats 8000000 in
set_option maxRecDepth 100000 in
theorem polyglotlaw09_PublishIDs.calls (k : Nat) (a0 : ByteArray) (a1 : ByteArray) (a2 : Int) (a3 : Int) (r : Bool) (w : World) (h : polyglotlaw09_PublishIDs.f k a0 a1 a2 a3 = some r) (ht_ : r = true := by rfl) :
    Calls Try.prog 7 #[.string a0, .string a1, .int .u16 a2, .int .i64 a3] w fun e w' => e = .returned (.bool r) ∧ Below w.heap.size w w' := by
  have HT_ := Aside0.mk ht_
  clear ht_
  have hu48 := Try.underlying48
  have HB := Aside0.mk (Below.refl w.heap.size w)
  have H : ((polyglotlaw09_lives.f k).bind fun t328 => (if t328 = true then (if (a0.size : Int) > 300 then (polyglotlaw09_PublishIDs.j0 k a0 a1 a2 a3 true) else (if (a1.size : Int) > 300 then (polyglotlaw09_PublishIDs.j0 k a0 a1 a2 a3 true) else ((polyglotref04_Name.f k a0).bind fun t329 => (polyglotlaw09_PublishIDs.j0 k a0 a1 a2 a3 (!t329))))) else (some false))) = some r := h
  clear h
  replace H := Option.bind_eq_some_iff.mp H
  obtain ⟨t328, A50, H⟩ := H
  replace H : (if t328 = true then (if (a0.size : Int) > 300 then (polyglotlaw09_PublishIDs.j0 k a0 a1 a2 a3 true) else (if (a1.size : Int) > 300 then (polyglotlaw09_PublishIDs.j0 k a0 a1 a2 a3 true) else ((polyglotref04_Name.f k a0).bind fun t329 => (polyglotlaw09_PublishIDs.j0 k a0 a1 a2 a3 (!t329))))) else (some false)) = some r := H
  have A5 := Aside0.mk A50
  clear A50
  by_cases c6 : t328 = true
  · subst c6
    have H1 : (if (a0.size : Int) > 300 then (polyglotlaw09_PublishIDs.j0 k a0 a1 a2 a3 true) else (if (a1.size : Int) > 300 then (polyglotlaw09_PublishIDs.j0 k a0 a1 a2 a3 true) else ((polyglotref04_Name.f k a0).bind fun t329 => (polyglotlaw09_PublishIDs.j0 k a0 a1 a2 a3 (!t329))))) = some r := by rw [if_pos rfl] at H; exact H
    clear H
    have H := H1
    clear H1
    have HC7 := Aside0.mk H
    clear H
    go_enter Try.func7, Try.ntmps7
    go_upto_region 3 with (first | ((with_reducible refine gate_callee (f := 22) rfl ?_); refine goesL_ (some 14) rfl rfl Try.func22 (by kernel_rfl) rfl #[] rfl (by (try simp only [List.map_toArray, List.map_cons, List.map_nil]); first | done | rfl | (simp only [List.length_drop, List.length_take]; rfl)) ?_; (with_reducible refine (polyglotlaw09_lives.calls k  true _ A5.out).mono ?_); rintro e w8 ⟨rfl, hb⟩; refine ⟨_, rfl, ?_⟩; have n0_ := Aside0.mk (below_step (by repeat (first | (with_reducible first | exact HB.out | apply below_alloc | apply pw_below_drewN | apply below_drew1) | exact HB.out)) hb); clear HB; have HB := n0_; clear n0_; (try clear hb); (try clear hb2); (try clear hk); (try clear hi)))
    (try simp only [Act.put, List.setIfInBounds_toArray, List.set_cons_zero, List.set_cons_succ])
    go_cut [28] (fun v28 wc => ∃ (kq : Nat) (x28_6 : Bool), v28 = .bool x28_6 ∧ Aside0 (polyglotlaw09_PublishIDs.j0 kq a0 a1 a2 a3 x28_6 = some r) ∧ Aside0 (kq ≤ k) ∧ Aside0 (Below w.heap.size w wc))
    case first =>
      have H := HC7.out
      clear HC7
      by_cases c9 : (a0.size : Int) > 300
      · rw [if_pos c9] at H
        have c9b0 : decide (300 < (a0.size : Int)) = true := decide_eq_true c9
        have c9b1 : decide (300 < a0.size) = true := decide_eq_true (by omega)
        clear c9
        (first | rw [c9b0] | (simp only [i64_w, i32_w]; rw [c9b0]) | skip)
        have H' := Aside0.mk H
        clear H
        go_wp2_with (first | ((with_reducible refine polyglotlaw09_PublishIDs.gl rfl ?_); refine wpList_load_row rfl 48 _ rfl _ (by rfl) 48 _ _ _ (Aside0.out (by with_reducible assumption)) Try.underlying48 rfl (by kernel_rfl) ?_))
        go_meet
        case rel => exact ⟨_, (true), (by first | rfl | (simp; done) | (simp [*]; done) | (simp; exact bne_nil_isEmpty _) | exact bne_nil_isEmpty _ | (simp; exact (bne_nil_isEmpty _).symm) | (simp; exact bne_nil_isEmpty' _)), H', ⟨by first | omega | exact Nat.le_refl _⟩, ⟨by repeat (first | (with_reducible first | exact HB.out | apply below_alloc | apply pw_below_drewN | apply below_drew1) | exact HB.out)⟩⟩
      · rw [if_neg c9] at H
        have c9b0 : decide (300 < (a0.size : Int)) = false := decide_eq_false c9
        have c9b1 : decide (300 < a0.size) = false := decide_eq_false (by omega)
        clear c9
        (first | rw [c9b0] | (simp only [i64_w, i32_w]; rw [c9b0]) | skip)
        by_cases c10 : (a1.size : Int) > 300
        · rw [if_pos c10] at H
          have c10b0 : decide (300 < (a1.size : Int)) = true := decide_eq_true c10
          have c10b1 : decide (300 < a1.size) = true := decide_eq_true (by omega)
          clear c10
          have H' := Aside0.mk H
          clear H
          go_wp2_with (first | ((with_reducible refine polyglotlaw09_PublishIDs.gl rfl ?_); refine wpList_load_row rfl 48 _ rfl _ (by rfl) 48 _ _ _ (Aside0.out (by with_reducible assumption)) Try.underlying48 rfl (by kernel_rfl) ?_))
          go_meet
          case rel => exact ⟨_, (true), (by first | rfl | (simp; done) | (simp [*]; done) | (simp; exact bne_nil_isEmpty _) | exact bne_nil_isEmpty _ | (simp; exact (bne_nil_isEmpty _).symm) | (simp; exact bne_nil_isEmpty' _)), H', ⟨by first | omega | exact Nat.le_refl _⟩, ⟨by repeat (first | (with_reducible first | exact HB.out | apply below_alloc | apply pw_below_drewN | apply below_drew1) | exact HB.out)⟩⟩
        · rw [if_neg c10] at H
          have c10b0 : decide (300 < (a1.size : Int)) = false := decide_eq_false c10
          have c10b1 : decide (300 < a1.size) = false := decide_eq_false (by omega)
          clear c10
          replace H := Option.bind_eq_some_iff.mp H
          obtain ⟨t329, A110, H⟩ := H
          replace H : (polyglotlaw09_PublishIDs.j0 k a0 a1 a2 a3 (!t329)) = some r := H
          have A11 := Aside0.mk A110
          clear A110
          have H' := Aside0.mk H
          clear H
          go_wp2_with (first | ((with_reducible refine polyglotlaw09_PublishIDs.gl rfl ?_); refine wpList_load_row rfl 48 _ rfl _ (by rfl) 48 _ _ _ (Aside0.out (by with_reducible assumption)) Try.underlying48 rfl (by kernel_rfl) ?_) | (go_at_call 23; (with_reducible refine (polyglotref04_Name.calls k a0 t329 _ A11.out).mono ?_); rintro e w' ⟨rfl, ⟨nd, rfl⟩⟩))
          go_meet
          case rel => exact ⟨_, (!t329), (by first | rfl | (simp; done) | (simp [*]; done) | (simp; exact bne_nil_isEmpty _) | exact bne_nil_isEmpty _ | (simp; exact (bne_nil_isEmpty _).symm) | (simp; exact bne_nil_isEmpty' _)), H', ⟨by first | omega | exact Nat.le_refl _⟩, ⟨by repeat (first | (with_reducible first | exact HB.out | apply below_alloc | apply pw_below_drewN | apply below_drew1) | exact HB.out)⟩⟩
    case rest =>
      clear HC7
      try clear c1
      try clear c2
      try clear p2
      try clear c6
      try clear c7
      try clear c9
      try clear c9b0
      try clear c9b1
      try clear c10
      try clear c10b0
      try clear c10b1
      obtain ⟨kq, x28_6, rfl, HA, HJ6, HB⟩ := hcut
      cases kq with
      | zero => exact absurd HA.out (by simp [polyglotlaw09_PublishIDs.j0])
      | succ kj6 =>
        have H := HA.out
        clear HA
        simp only [polyglotlaw09_PublishIDs.j0] at H
        by_cases c12 : x28_6 = true
        · subst c12
          have H1 : (some true) = some r := by rw [if_pos rfl] at H; exact H
          clear H
          have H := H1
          clear H1
          obtain rfl := Option.some.inj H
          go_wp2_with (first | ((with_reducible refine polyglotlaw09_PublishIDs.gl rfl ?_); refine wpList_load_row rfl 48 _ rfl _ (by rfl) 48 _ _ _ (Aside0.out (by with_reducible assumption)) Try.underlying48 rfl (by kernel_rfl) ?_))
          go_ret
          exact ⟨by first | rfl | (simp [errW_none, errW_some] <;> rfl) | (simp [*, errW_none, errW_some] <;> rfl), by repeat (first | (with_reducible first | exact HB.out | apply below_alloc | apply pw_below_drewN | apply below_drew1) | exact HB.out)⟩
        · replace c12 := Bool.eq_false_iff.mpr c12
          subst c12
          have H1 : ((polyglotkit_Pick.f a3 3).bind fun t330 => ((publish_Body.f kj6 4 3 false false t330 (wrap64 (a2)) a0 a1 false 0 (⟨#[]⟩ : ByteArray) false (⟨#[]⟩ : ByteArray) false (⟨#[]⟩ : ByteArray) false (⟨#[]⟩ : ByteArray) (⟨#[]⟩ : ByteArray) 0 false ([] : List (S27)) false 0 ([] : List Int) ([] : List (S119)) ([] : List (S27))).bind fun bt332 => (if ((bt332.2 == 0) != ((decide (t330 > 0)) == (decide (a2 > 0)))) = true then (some false) else (if (((decide (t330 > 0)) == (decide (a2 > 0))) = true) then (if t330 > 0 then ((some (([(a2 / 256) % 256, (a2) % 256] : List Int) : List Int)).bind fun y334 => (if a0.size + (strOfNums y334).size ≤ 9223372036854775807 then (if (bt332.1.size : Int) ≥ 2 then (if 2 ≤ (bt332.1.size : Int) then (if (a0 ++ (strOfNums y334)).size + a1.size ≤ 9223372036854775807 then (some ((bt332.1.extract 2 bt332.1.size).toList == ((a0 ++ (strOfNums y334)) ++ a1).toList)) else (none)) else (none)) else (some false)) else (none))) else (if (bt332.1.size : Int) ≥ 2 then (if 2 ≤ (bt332.1.size : Int) then (if a0.size + a1.size ≤ 9223372036854775807 then (some ((bt332.1.extract 2 bt332.1.size).toList == (a0 ++ a1).toList)) else (none)) else (none)) else (some false))) else (some (bt332.1.toList == ([] : List UInt8))))))) = some r := by rw [if_neg (show ¬ (false = true) by decide)] at H; exact H
          clear H
          have H := H1
          clear H1
          replace H := Option.bind_eq_some_iff.mp H
          obtain ⟨t330, A130, H⟩ := H
          replace H : ((publish_Body.f kj6 4 3 false false t330 (wrap64 (a2)) a0 a1 false 0 (⟨#[]⟩ : ByteArray) false (⟨#[]⟩ : ByteArray) false (⟨#[]⟩ : ByteArray) false (⟨#[]⟩ : ByteArray) (⟨#[]⟩ : ByteArray) 0 false ([] : List (S27)) false 0 ([] : List Int) ([] : List (S119)) ([] : List (S27))).bind fun bt332 => (if ((bt332.2 == 0) != ((decide (t330 > 0)) == (decide (a2 > 0)))) = true then (some false) else (if (((decide (t330 > 0)) == (decide (a2 > 0))) = true) then (if t330 > 0 then ((some (([(a2 / 256) % 256, (a2) % 256] : List Int) : List Int)).bind fun y334 => (if a0.size + (strOfNums y334).size ≤ 9223372036854775807 then (if (bt332.1.size : Int) ≥ 2 then (if 2 ≤ (bt332.1.size : Int) then (if (a0 ++ (strOfNums y334)).size + a1.size ≤ 9223372036854775807 then (some ((bt332.1.extract 2 bt332.1.size).toList == ((a0 ++ (strOfNums y334)) ++ a1).toList)) else (none)) else (none)) else (some false)) else (none))) else (if (bt332.1.size : Int) ≥ 2 then (if 2 ≤ (bt332.1.size : Int) then (if a0.size + a1.size ≤ 9223372036854775807 then (some ((bt332.1.extract 2 bt332.1.size).toList == (a0 ++ a1).toList)) else (none)) else (none)) else (some false))) else (some (bt332.1.toList == ([] : List UInt8)))))) = some r := H
          have A13 := Aside0.mk A130
          clear A130
          replace H := Option.bind_eq_some_iff.mp H
          obtain ⟨⟨t332, t333⟩, A140, H⟩ := H
          replace H : (if ((t333 == 0) != ((decide (t330 > 0)) == (decide (a2 > 0)))) = true then (some false) else (if (((decide (t330 > 0)) == (decide (a2 > 0))) = true) then (if t330 > 0 then ((some (([(a2 / 256) % 256, (a2) % 256] : List Int) : List Int)).bind fun y334 => (if a0.size + (strOfNums y334).size ≤ 9223372036854775807 then (if (t332.size : Int) ≥ 2 then (if 2 ≤ (t332.size : Int) then (if (a0 ++ (strOfNums y334)).size + a1.size ≤ 9223372036854775807 then (some ((t332.extract 2 t332.size).toList == ((a0 ++ (strOfNums y334)) ++ a1).toList)) else (none)) else (none)) else (some false)) else (none))) else (if (t332.size : Int) ≥ 2 then (if 2 ≤ (t332.size : Int) then (if a0.size + a1.size ≤ 9223372036854775807 then (some ((t332.extract 2 t332.size).toList == (a0 ++ a1).toList)) else (none)) else (none)) else (some false))) else (some (t332.toList == ([] : List UInt8))))) = some r := H
          have A14 := Aside0.mk A140
          clear A140
          by_cases c15 : ((t333 == 0) != ((decide (t330 > 0)) == (decide (a2 > 0)))) = true
          · rw [if_pos c15] at H
            have c15b0 : ((t333 == 0) != ((decide (t330 > 0)) == (decide (a2 > 0)))) = true := c15
            (try (have c15b1 : decide ((t333 == 0) = ((decide (t330 > 0)) == (decide (a2 > 0)))) = false := by simpa using c15))
            (try (have c15b2 : ((t333 == 0) == ((decide (t330 > 0)) == (decide (a2 > 0)))) = false := by simpa using c15))
            (try (have c15b3 : ¬ ((t333 == 0) = ((decide (t330 > 0)) == (decide (a2 > 0)))) := by simpa using c15))
            clear c15
            exact absurd ((Option.some.inj H).trans HT_.out) (by decide)
          · rw [if_neg c15] at H
            have c15b0 : ((t333 == 0) != ((decide (t330 > 0)) == (decide (a2 > 0)))) = false := by simpa using c15
            (try (have c15b1 : decide ((t333 == 0) = ((decide (t330 > 0)) == (decide (a2 > 0)))) = true := by simpa using c15))
            (try (have c15b2 : ((t333 == 0) == ((decide (t330 > 0)) == (decide (a2 > 0)))) = true := by simpa using c15))
            clear c15
            by_cases c16 : (((decide (t330 > 0)) == (decide (a2 > 0))) = true)
            · rw [if_pos c16] at H
              have c16b0 : ((decide (t330 > 0)) == (decide (a2 > 0))) = true := c16
              (try (have c16b1 : decide ((decide (t330 > 0)) = (decide (a2 > 0))) = true := by simpa using c16))
              (try (have c16b2 : ((decide (t330 > 0)) == (decide (a2 > 0))) = true := by simpa using c16))
              clear c16
              by_cases c17 : t330 > 0
              · rw [if_pos c17] at H
                have c17b0 : decide (0 < t330) = true := decide_eq_true c17
                clear c17
                obtain ⟨y334, hy334⟩ : ∃ y_ : List Int, y_ = (([(a2 / 256) % 256, (a2) % 256] : List Int)) := ⟨_, rfl⟩
                replace H : (if a0.size + (strOfNums y334).size ≤ 9223372036854775807 then (if (t332.size : Int) ≥ 2 then (if 2 ≤ (t332.size : Int) then (if (a0 ++ (strOfNums y334)).size + a1.size ≤ 9223372036854775807 then (some ((t332.extract 2 t332.size).toList == ((a0 ++ (strOfNums y334)) ++ a1).toList)) else (none)) else (none)) else (some false)) else (none)) = some r := by first | (rw [hy334]; with_reducible exact H) | (have H2_ := (Option.bind_some _ _).symm.trans H; rw [hy334]; with_reducible exact H2_) | (have H2_ := (Option.bind_some _ _).symm.trans H; with_reducible exact H2_) | with_reducible exact H | (rw [hy334]; exact H) | exact H
                have Ny334 := Aside0.mk hy334
                clear hy334
                by_cases c18 : a0.size + (strOfNums y334).size ≤ 9223372036854775807
                · rw [if_pos c18] at H
                  have c18b0 := eq_true c18
                  have c18b1 : decide (a0.size + (strOfNums y334).size ≤ 9223372036854775807) = true := decide_eq_true c18
                  try have c18b2 : (9223372036854775807 < a0.size + (strOfNums y334).size) = False := eq_false (Nat.not_lt.2 c18)
                  by_cases c19 : (t332.size : Int) ≥ 2
                  · rw [if_pos c19] at H
                    have c19b0 : decide (2 ≤ (t332.size : Int)) = true := decide_eq_true c19
                    have c19b1 : decide (2 ≤ t332.size) = true := decide_eq_true (by omega)
                    clear c19
                    by_cases c20 : 2 ≤ (t332.size : Int)
                    · rw [if_pos c20] at H
                      have c20b0 := eq_true c20
                      have c20b1 : decide (2 ≤ (t332.size : Int)) = true := decide_eq_true c20
                      clear c20
                      by_cases c21 : (a0 ++ (strOfNums y334)).size + a1.size ≤ 9223372036854775807
                      · rw [if_pos c21] at H
                        have c21b0 := eq_true c21
                        have c21b1 : decide ((a0 ++ (strOfNums y334)).size + a1.size ≤ 9223372036854775807) = true := decide_eq_true c21
                        try have c21b2 : (9223372036854775807 < (a0 ++ (strOfNums y334)).size + a1.size) = False := eq_false (Nat.not_lt.2 c21)
                        obtain rfl := Option.some.inj H
                        have hTB_ := HT_.out
                        have hTC_ := hTB_
                        (try simp only [beq_iff_eq] at hTC_)
                        have q1_ : decide (0 < a2) = true := by have e_ := c16b0; rw [show decide (t330 > 0) = true from c17b0] at e_; simpa using e_
                        have q2_ : (t333 == 0) = true := by have e_ := c15b0; rw [c16b0] at e_; simpa using e_
                        try clear c15b0 c15b1 c15b2
                        try clear c16b1 c16b2
                        try clear c16b0
                        try clear c15b3 c16b3
                        go_wp2_with (first | ((with_reducible refine gate_packet_store rfl ?_); refine store_one (w0 := w) rfl 48 _ _ rfl gb331 _ (by rfl) (by rfl) _ BK331.out GE331.out HB.out (by kernel_rfl) (by rfl) (by simp [Value.oneCell']) ?_; intro wS hq hb; clear BK331 HB; have BK331 := Aside0.mk hq; have HB := Aside0.mk hb; clear hq hb; have hcS := blk_cell BK331.out 24; have hfS := blk_frozen BK331.out 24) | ((with_reducible refine polyglotlaw09_PublishIDs.gl rfl ?_); refine wpList_load_row rfl 48 _ rfl _ (by rfl) 48 _ _ _ (Aside0.out (by with_reducible assumption)) Try.underlying48 rfl (by kernel_rfl) ?_) | ((with_reducible refine gate_callee (f := 12) rfl ?_); refine goesL_ (some 30) rfl rfl Try.func12 (by kernel_rfl) rfl #[.int .i64 a3, .int .i64 3] rfl (by (try simp only [List.map_toArray, List.map_cons, List.map_nil]); first | done | rfl | (simp only [List.length_drop, List.length_take]; rfl)) ?_; (with_reducible refine (polyglotkit_Pick.calls a3 3 t330 _ A13.out).mono ?_); rintro e w' ⟨rfl, ⟨nd, rfl⟩⟩; refine ⟨_, rfl, ?_⟩; (try (rw [drewN_self wc]; generalize hq_ : World.drewN wc _ = wc; have n0_ : Aside0 (Below w.heap.size w wc) := ⟨by rw [← hq_]; exact (by repeat (first | (with_reducible first | exact HB.out | apply below_alloc | apply pw_below_drewN | apply below_drew1) | exact HB.out))⟩; clear HB hq_; have HB := n0_; clear n0_))) | ((with_reducible refine gate_dst (N := 9) rfl ?_); (try (refine gate_guard (by rfl) ?_; dsimp only)); refine box_event ?hg (N := 9) ?hd (cs := #[.int .i64 0, .bool false, .bool false, .int .i64 0, .int .i64 0, .string (⟨#[]⟩ : ByteArray), .string (⟨#[]⟩ : ByteArray), .bool false, .int .i64 0, .string (⟨#[]⟩ : ByteArray), .bool false, .string (⟨#[]⟩ : ByteArray), .bool false, .string (⟨#[]⟩ : ByteArray), .bool false, .string (⟨#[]⟩ : ByteArray), .string (⟨#[]⟩ : ByteArray), .int .i64 0, .bool false, .slice none 0 0, .bool false, .int .i64 0, .slice none 0 0, .slice none 0 0, .slice none 0 0]) (t := 48) ?hr ?_; (case hd => rfl); (case hg => rfl); (case hr => first | (go_simp; done) | (go_simp; rfl)); intro gb331 hg w22 hbox hb; have n0_ := Aside0.mk (below_step (by repeat (first | (with_reducible first | exact HB.out | apply below_alloc | apply pw_below_drewN | apply below_drew1) | exact HB.out)) hb); have n1_ := Aside0.mk (hbox); have n2_ := Aside0.mk ((by rw [hg]; exact (below_size (by repeat (first | (with_reducible first | exact HB.out | apply below_alloc | apply pw_below_drewN | apply below_drew1) | exact HB.out))) : w.heap.size ≤ gb331)); have n3_ := Aside0.mk ((by rw [hg]; exact (below_size (by repeat (first | (with_reducible first | exact HB.out | apply below_alloc | apply pw_below_drewN | apply below_drew1) | exact HB.out))) : w.heap.size ≤ gb331)); clear HB; have HB := n0_; have BK331 := n1_; have GW331 := n2_; have GE331 := n3_; clear n0_ n1_ n2_ n3_; clear hb hbox hg; have hcz23_0 : w22.cell? ⟨gb331, 0, none⟩ = some (.int .i64 0) := (blk_cell BK331.out 0).trans rfl; have hcz23_1 : w22.cell? ⟨gb331, 1, none⟩ = some (.bool false) := (blk_cell BK331.out 1).trans rfl; have hcz23_2 : w22.cell? ⟨gb331, 2, none⟩ = some (.bool false) := (blk_cell BK331.out 2).trans rfl; have hcz23_3 : w22.cell? ⟨gb331, 3, none⟩ = some (.int .i64 0) := (blk_cell BK331.out 3).trans rfl; have hcz23_4 : w22.cell? ⟨gb331, 4, none⟩ = some (.int .i64 0) := (blk_cell BK331.out 4).trans rfl; have hcz23_5 : w22.cell? ⟨gb331, 5, none⟩ = some (.string (⟨#[]⟩ : ByteArray)) := (blk_cell BK331.out 5).trans rfl; have hcz23_6 : w22.cell? ⟨gb331, 6, none⟩ = some (.string (⟨#[]⟩ : ByteArray)) := (blk_cell BK331.out 6).trans rfl; have hcz23_7 : w22.cell? ⟨gb331, 7, none⟩ = some (.bool false) := (blk_cell BK331.out 7).trans rfl; have hcz23_8 : w22.cell? ⟨gb331, 8, none⟩ = some (.int .i64 0) := (blk_cell BK331.out 8).trans rfl; have hcz23_9 : w22.cell? ⟨gb331, 9, none⟩ = some (.string (⟨#[]⟩ : ByteArray)) := (blk_cell BK331.out 9).trans rfl; have hcz23_10 : w22.cell? ⟨gb331, 10, none⟩ = some (.bool false) := (blk_cell BK331.out 10).trans rfl; have hcz23_11 : w22.cell? ⟨gb331, 11, none⟩ = some (.string (⟨#[]⟩ : ByteArray)) := (blk_cell BK331.out 11).trans rfl; have hcz23_12 : w22.cell? ⟨gb331, 12, none⟩ = some (.bool false) := (blk_cell BK331.out 12).trans rfl; have hcz23_13 : w22.cell? ⟨gb331, 13, none⟩ = some (.string (⟨#[]⟩ : ByteArray)) := (blk_cell BK331.out 13).trans rfl; have hcz23_14 : w22.cell? ⟨gb331, 14, none⟩ = some (.bool false) := (blk_cell BK331.out 14).trans rfl; have hcz23_15 : w22.cell? ⟨gb331, 15, none⟩ = some (.string (⟨#[]⟩ : ByteArray)) := (blk_cell BK331.out 15).trans rfl; have hcz23_16 : w22.cell? ⟨gb331, 16, none⟩ = some (.string (⟨#[]⟩ : ByteArray)) := (blk_cell BK331.out 16).trans rfl; have hcz23_17 : w22.cell? ⟨gb331, 17, none⟩ = some (.int .i64 0) := (blk_cell BK331.out 17).trans rfl; have hcz23_18 : w22.cell? ⟨gb331, 18, none⟩ = some (.bool false) := (blk_cell BK331.out 18).trans rfl; have hcz23_19 : w22.cell? ⟨gb331, 19, none⟩ = some (.slice none 0 0) := (blk_cell BK331.out 19).trans rfl; have hcz23_20 : w22.cell? ⟨gb331, 20, none⟩ = some (.bool false) := (blk_cell BK331.out 20).trans rfl; have hcz23_21 : w22.cell? ⟨gb331, 21, none⟩ = some (.int .i64 0) := (blk_cell BK331.out 21).trans rfl; have hcz23_22 : w22.cell? ⟨gb331, 22, none⟩ = some (.slice none 0 0) := (blk_cell BK331.out 22).trans rfl; have hcz23_23 : w22.cell? ⟨gb331, 23, none⟩ = some (.slice none 0 0) := (blk_cell BK331.out 23).trans rfl; have hcz23_24 : w22.cell? ⟨gb331, 24, none⟩ = some (.slice none 0 0) := (blk_cell BK331.out 24).trans rfl; have hfz23_0 := blk_frozen BK331.out 0; have hfz23_1 := blk_frozen BK331.out 1; have hfz23_2 := blk_frozen BK331.out 2; have hfz23_3 := blk_frozen BK331.out 3; have hfz23_4 := blk_frozen BK331.out 4; have hfz23_5 := blk_frozen BK331.out 5; have hfz23_6 := blk_frozen BK331.out 6; have hfz23_7 := blk_frozen BK331.out 7; have hfz23_8 := blk_frozen BK331.out 8; have hfz23_9 := blk_frozen BK331.out 9; have hfz23_10 := blk_frozen BK331.out 10; have hfz23_11 := blk_frozen BK331.out 11; have hfz23_12 := blk_frozen BK331.out 12; have hfz23_13 := blk_frozen BK331.out 13; have hfz23_14 := blk_frozen BK331.out 14; have hfz23_15 := blk_frozen BK331.out 15; have hfz23_16 := blk_frozen BK331.out 16; have hfz23_17 := blk_frozen BK331.out 17; have hfz23_18 := blk_frozen BK331.out 18; have hfz23_19 := blk_frozen BK331.out 19; have hfz23_20 := blk_frozen BK331.out 20; have hfz23_21 := blk_frozen BK331.out 21; have hfz23_22 := blk_frozen BK331.out 22; have hfz23_23 := blk_frozen BK331.out 23; have hfz23_24 := blk_frozen BK331.out 24) | ((with_reducible refine gate_callee (f := 26) rfl ?_); refine goesL_ (some 39) rfl rfl Try.func26 (by kernel_rfl) rfl #[.int .i64 4, .agg #[.int .i64 3, .bool false, .bool false, .int .i64 t330, .int .i64 (wrap64 (a2)), .string a0, .string a1, .bool false, .int .i64 0, .string (⟨#[]⟩ : ByteArray), .bool false, .string (⟨#[]⟩ : ByteArray), .bool false, .string (⟨#[]⟩ : ByteArray), .bool false, .string (⟨#[]⟩ : ByteArray), .string (⟨#[]⟩ : ByteArray), .int .i64 0, .bool false, .slice none 0 0, .bool false, .int .i64 0, .slice none 0 0, .slice none 0 0, .slice none 0 0]] rfl (by (try simp only [List.map_toArray, List.map_cons, List.map_nil]); first | done | rfl | (simp only [List.length_drop, List.length_take]; rfl)) ?_; (refine (publish_Body.calls kj6 4 3 false false t330 (wrap64 (a2)) a0 a1 false 0 (⟨#[]⟩ : ByteArray) false (⟨#[]⟩ : ByteArray) false (⟨#[]⟩ : ByteArray) false (⟨#[]⟩ : ByteArray) (⟨#[]⟩ : ByteArray) 0 false _ _ ([] : List (S27)) false 0 _ _ ([] : List Int) _ _ ([] : List (S119)) _ _ ([] : List (S27)) t332 t333 _ ?side1 ?side2 ?side3 ?side4 ?side5 ?side6 ?side7 ?side8 A14.out).mono ?_); (case side1 => exact Kd.C_nil _ _); (case side2 => exact Nat.le_refl _); (case side3 => exact Kd.C_nil _ _); (case side4 => exact Nat.le_refl _); (case side5 => exact Kd.C_nil _ _); (case side6 => exact Nat.le_refl _); (case side7 => exact Kd.C_nil _ _); (case side8 => exact Nat.le_refl _); rintro e w24 ⟨rfl, hb⟩; refine ⟨_, rfl, ?_⟩; have n0_ := Aside0.mk (blk_below (g := gb331) (o := .cells #[.int .i64 3, .bool false, .bool false, .int .i64 t330, .int .i64 (wrap64 (a2)), .string a0, .string a1, .bool false, .int .i64 0, .string (⟨#[]⟩ : ByteArray), .bool false, .string (⟨#[]⟩ : ByteArray), .bool false, .string (⟨#[]⟩ : ByteArray), .bool false, .string (⟨#[]⟩ : ByteArray), .string (⟨#[]⟩ : ByteArray), .int .i64 0, .bool false, .slice none 0 0, .bool false, .int .i64 0, .slice none 0 0, .slice none 0 0, .slice none 0 0] 48 (0, 0)) (by (with_reducible repeat (first | refine blk_drewN ?_ _ | refine blk_drew ?_ | refine blk_alloc ?_ _)); exact BK331.out) hb); have n1_ := Aside0.mk (below_step (by repeat (first | (with_reducible first | exact HB.out | apply below_alloc | apply pw_below_drewN | apply below_drew1 | refine below_set ?_ GE331.out) | exact HB.out)) hb); clear BK331; clear HB; have BK331 := n0_; have HB := n1_; clear n0_ n1_; (try clear hb); (try clear hb2); (try clear hk); (try clear hi)) | ((with_reducible refine gate_dst (N := 64) rfl ?_); (try (refine gate_guard (by rfl) ?_; dsimp only)); refine Kd.R_lit (Kd.int .u8) _ 5 ?hg (N := 64) ?hd (xs := ([(a2 / 256) % 256, (a2) % 256] : List Int)) (inner := [.int .u8 ((a2 / 256) % 256), .int .u8 ((a2) % 256)]) (ok := fun _ => True) (okp := fun _ => True) ?hr ?hp (fun _ hk => hk) trivial (Below.refl _ _) (Nat.le_refl _) (by simp) ?_; (case hd => rfl); (case hg => rfl); (case hr => first | (go_simp; done) | (go_simp; rfl)); (case hp => exact (Reps.one (show Kd.M (Kd.int .u8) _ _ _ ((a2 / 256) % 256) [.int .u8 ((a2 / 256) % 256)] from rfl) (Reps.one (show Kd.M (Kd.int .u8) _ _ _ ((a2) % 256) [.int .u8 ((a2) % 256)] from rfl) (Reps.none _ _)))); intro v335 w25 ho26 hb hg_ hnew_; clear hg_ hnew_; (first | rw [← Ny334.out] at ho26 | (simp only [Int.reduceToNat] at ho26; rw [← Ny334.out] at ho26)); have n0_ := Aside0.mk (Kd.R_lower ho26 (below_size (by repeat (first | (with_reducible first | exact HB.out | apply below_alloc | apply pw_below_drewN | apply below_drew1 | refine below_set ?_ GE331.out) | exact HB.out)))); have n1_ := Aside0.mk (blk_below (g := gb331) (o := .cells #[.int .i64 3, .bool false, .bool false, .int .i64 t330, .int .i64 (wrap64 (a2)), .string a0, .string a1, .bool false, .int .i64 0, .string (⟨#[]⟩ : ByteArray), .bool false, .string (⟨#[]⟩ : ByteArray), .bool false, .string (⟨#[]⟩ : ByteArray), .bool false, .string (⟨#[]⟩ : ByteArray), .string (⟨#[]⟩ : ByteArray), .int .i64 0, .bool false, .slice none 0 0, .bool false, .int .i64 0, .slice none 0 0, .slice none 0 0, .slice none 0 0] 48 (0, 0)) (by (with_reducible repeat (first | refine blk_drewN ?_ _ | refine blk_drew ?_ | refine blk_alloc ?_ _)); exact BK331.out) hb); have n2_ := Aside0.mk (below_step (by repeat (first | (with_reducible first | exact HB.out | apply below_alloc | apply pw_below_drewN | apply below_drew1 | refine below_set ?_ GE331.out) | exact HB.out)) hb); clear BK331; clear HB; have HO336 := n0_; have BK331 := n1_; have HB := n2_; clear n0_ n1_ n2_; clear hb ho26; have hcv27 := own_string (P := Try.prog) Try.underlying55 Try.underlying5 Try.underlying9 (Kd.own_of_R HO336.out)))
                        go_ret
                        exact ⟨by first | rfl | (simp [errW_none, errW_some] <;> rfl) | (simp [*, errW_none, errW_some] <;> rfl), by repeat (first | (with_reducible first | exact HB.out | apply below_alloc | apply pw_below_drewN | apply below_drew1 | refine below_set ?_ GE331.out) | exact HB.out)⟩
                      · rw [if_neg c21] at H
                        exact absurd H (by simp)
                    · rw [if_neg c20] at H
                      exact absurd H (by simp)
                  · rw [if_neg c19] at H
                    have c19b0 : decide (2 ≤ (t332.size : Int)) = false := decide_eq_false c19
                    have c19b1 : decide (2 ≤ t332.size) = false := decide_eq_false (by omega)
                    clear c19
                    exact absurd ((Option.some.inj H).trans HT_.out) (by decide)
                · rw [if_neg c18] at H
                  exact absurd H (by simp)
              · rw [if_neg c17] at H
                have c17b0 : decide (0 < t330) = false := decide_eq_false c17
                clear c17
                by_cases c28 : (t332.size : Int) ≥ 2
                · rw [if_pos c28] at H
                  have c28b0 : decide (2 ≤ (t332.size : Int)) = true := decide_eq_true c28
                  have c28b1 : decide (2 ≤ t332.size) = true := decide_eq_true (by omega)
                  clear c28
                  by_cases c29 : 2 ≤ (t332.size : Int)
                  · rw [if_pos c29] at H
                    have c29b0 := eq_true c29
                    have c29b1 : decide (2 ≤ (t332.size : Int)) = true := decide_eq_true c29
                    clear c29
                    by_cases c30 : a0.size + a1.size ≤ 9223372036854775807
                    · rw [if_pos c30] at H
                      have c30b0 := eq_true c30
                      have c30b1 : decide (a0.size + a1.size ≤ 9223372036854775807) = true := decide_eq_true c30
                      try have c30b2 : (9223372036854775807 < a0.size + a1.size) = False := eq_false (Nat.not_lt.2 c30)
                      obtain rfl := Option.some.inj H
                      have hTB_ := HT_.out
                      have hTC_ := hTB_
                      (try simp only [beq_iff_eq] at hTC_)
                      have q1_ : decide (0 < a2) = false := by have e_ := c16b0; rw [show decide (t330 > 0) = false from c17b0] at e_; simpa using e_
                      have q2_ : (t333 == 0) = true := by have e_ := c15b0; rw [c16b0] at e_; simpa using e_
                      try clear c15b0 c15b1 c15b2
                      try clear c16b1 c16b2
                      try clear c16b0
                      try clear c15b3 c16b3
                      go_wp2_with (first | ((with_reducible refine gate_packet_store rfl ?_); refine store_one (w0 := w) rfl 48 _ _ rfl gb331 _ (by rfl) (by rfl) _ BK331.out GE331.out HB.out (by kernel_rfl) (by rfl) (by simp [Value.oneCell']) ?_; intro wS hq hb; clear BK331 HB; have BK331 := Aside0.mk hq; have HB := Aside0.mk hb; clear hq hb; have hcS := blk_cell BK331.out 24; have hfS := blk_frozen BK331.out 24) | ((with_reducible refine polyglotlaw09_PublishIDs.gl rfl ?_); refine wpList_load_row rfl 48 _ rfl _ (by rfl) 48 _ _ _ (Aside0.out (by with_reducible assumption)) Try.underlying48 rfl (by kernel_rfl) ?_) | ((with_reducible refine gate_callee (f := 12) rfl ?_); refine goesL_ (some 30) rfl rfl Try.func12 (by kernel_rfl) rfl #[.int .i64 a3, .int .i64 3] rfl (by (try simp only [List.map_toArray, List.map_cons, List.map_nil]); first | done | rfl | (simp only [List.length_drop, List.length_take]; rfl)) ?_; (with_reducible refine (polyglotkit_Pick.calls a3 3 t330 _ A13.out).mono ?_); rintro e w' ⟨rfl, ⟨nd, rfl⟩⟩; refine ⟨_, rfl, ?_⟩; (try (rw [drewN_self wc]; generalize hq_ : World.drewN wc _ = wc; have n0_ : Aside0 (Below w.heap.size w wc) := ⟨by rw [← hq_]; exact (by repeat (first | (with_reducible first | exact HB.out | apply below_alloc | apply pw_below_drewN | apply below_drew1) | exact HB.out))⟩; clear HB hq_; have HB := n0_; clear n0_))) | ((with_reducible refine gate_dst (N := 9) rfl ?_); (try (refine gate_guard (by rfl) ?_; dsimp only)); refine box_event ?hg (N := 9) ?hd (cs := #[.int .i64 0, .bool false, .bool false, .int .i64 0, .int .i64 0, .string (⟨#[]⟩ : ByteArray), .string (⟨#[]⟩ : ByteArray), .bool false, .int .i64 0, .string (⟨#[]⟩ : ByteArray), .bool false, .string (⟨#[]⟩ : ByteArray), .bool false, .string (⟨#[]⟩ : ByteArray), .bool false, .string (⟨#[]⟩ : ByteArray), .string (⟨#[]⟩ : ByteArray), .int .i64 0, .bool false, .slice none 0 0, .bool false, .int .i64 0, .slice none 0 0, .slice none 0 0, .slice none 0 0]) (t := 48) ?hr ?_; (case hd => rfl); (case hg => rfl); (case hr => first | (go_simp; done) | (go_simp; rfl)); intro gb331 hg w31 hbox hb; have n0_ := Aside0.mk (below_step (by repeat (first | (with_reducible first | exact HB.out | apply below_alloc | apply pw_below_drewN | apply below_drew1) | exact HB.out)) hb); have n1_ := Aside0.mk (hbox); have n2_ := Aside0.mk ((by rw [hg]; exact (below_size (by repeat (first | (with_reducible first | exact HB.out | apply below_alloc | apply pw_below_drewN | apply below_drew1) | exact HB.out))) : w.heap.size ≤ gb331)); have n3_ := Aside0.mk ((by rw [hg]; exact (below_size (by repeat (first | (with_reducible first | exact HB.out | apply below_alloc | apply pw_below_drewN | apply below_drew1) | exact HB.out))) : w.heap.size ≤ gb331)); clear HB; have HB := n0_; have BK331 := n1_; have GW331 := n2_; have GE331 := n3_; clear n0_ n1_ n2_ n3_; clear hb hbox hg; have hcz32_0 : w31.cell? ⟨gb331, 0, none⟩ = some (.int .i64 0) := (blk_cell BK331.out 0).trans rfl; have hcz32_1 : w31.cell? ⟨gb331, 1, none⟩ = some (.bool false) := (blk_cell BK331.out 1).trans rfl; have hcz32_2 : w31.cell? ⟨gb331, 2, none⟩ = some (.bool false) := (blk_cell BK331.out 2).trans rfl; have hcz32_3 : w31.cell? ⟨gb331, 3, none⟩ = some (.int .i64 0) := (blk_cell BK331.out 3).trans rfl; have hcz32_4 : w31.cell? ⟨gb331, 4, none⟩ = some (.int .i64 0) := (blk_cell BK331.out 4).trans rfl; have hcz32_5 : w31.cell? ⟨gb331, 5, none⟩ = some (.string (⟨#[]⟩ : ByteArray)) := (blk_cell BK331.out 5).trans rfl; have hcz32_6 : w31.cell? ⟨gb331, 6, none⟩ = some (.string (⟨#[]⟩ : ByteArray)) := (blk_cell BK331.out 6).trans rfl; have hcz32_7 : w31.cell? ⟨gb331, 7, none⟩ = some (.bool false) := (blk_cell BK331.out 7).trans rfl; have hcz32_8 : w31.cell? ⟨gb331, 8, none⟩ = some (.int .i64 0) := (blk_cell BK331.out 8).trans rfl; have hcz32_9 : w31.cell? ⟨gb331, 9, none⟩ = some (.string (⟨#[]⟩ : ByteArray)) := (blk_cell BK331.out 9).trans rfl; have hcz32_10 : w31.cell? ⟨gb331, 10, none⟩ = some (.bool false) := (blk_cell BK331.out 10).trans rfl; have hcz32_11 : w31.cell? ⟨gb331, 11, none⟩ = some (.string (⟨#[]⟩ : ByteArray)) := (blk_cell BK331.out 11).trans rfl; have hcz32_12 : w31.cell? ⟨gb331, 12, none⟩ = some (.bool false) := (blk_cell BK331.out 12).trans rfl; have hcz32_13 : w31.cell? ⟨gb331, 13, none⟩ = some (.string (⟨#[]⟩ : ByteArray)) := (blk_cell BK331.out 13).trans rfl; have hcz32_14 : w31.cell? ⟨gb331, 14, none⟩ = some (.bool false) := (blk_cell BK331.out 14).trans rfl; have hcz32_15 : w31.cell? ⟨gb331, 15, none⟩ = some (.string (⟨#[]⟩ : ByteArray)) := (blk_cell BK331.out 15).trans rfl; have hcz32_16 : w31.cell? ⟨gb331, 16, none⟩ = some (.string (⟨#[]⟩ : ByteArray)) := (blk_cell BK331.out 16).trans rfl; have hcz32_17 : w31.cell? ⟨gb331, 17, none⟩ = some (.int .i64 0) := (blk_cell BK331.out 17).trans rfl; have hcz32_18 : w31.cell? ⟨gb331, 18, none⟩ = some (.bool false) := (blk_cell BK331.out 18).trans rfl; have hcz32_19 : w31.cell? ⟨gb331, 19, none⟩ = some (.slice none 0 0) := (blk_cell BK331.out 19).trans rfl; have hcz32_20 : w31.cell? ⟨gb331, 20, none⟩ = some (.bool false) := (blk_cell BK331.out 20).trans rfl; have hcz32_21 : w31.cell? ⟨gb331, 21, none⟩ = some (.int .i64 0) := (blk_cell BK331.out 21).trans rfl; have hcz32_22 : w31.cell? ⟨gb331, 22, none⟩ = some (.slice none 0 0) := (blk_cell BK331.out 22).trans rfl; have hcz32_23 : w31.cell? ⟨gb331, 23, none⟩ = some (.slice none 0 0) := (blk_cell BK331.out 23).trans rfl; have hcz32_24 : w31.cell? ⟨gb331, 24, none⟩ = some (.slice none 0 0) := (blk_cell BK331.out 24).trans rfl; have hfz32_0 := blk_frozen BK331.out 0; have hfz32_1 := blk_frozen BK331.out 1; have hfz32_2 := blk_frozen BK331.out 2; have hfz32_3 := blk_frozen BK331.out 3; have hfz32_4 := blk_frozen BK331.out 4; have hfz32_5 := blk_frozen BK331.out 5; have hfz32_6 := blk_frozen BK331.out 6; have hfz32_7 := blk_frozen BK331.out 7; have hfz32_8 := blk_frozen BK331.out 8; have hfz32_9 := blk_frozen BK331.out 9; have hfz32_10 := blk_frozen BK331.out 10; have hfz32_11 := blk_frozen BK331.out 11; have hfz32_12 := blk_frozen BK331.out 12; have hfz32_13 := blk_frozen BK331.out 13; have hfz32_14 := blk_frozen BK331.out 14; have hfz32_15 := blk_frozen BK331.out 15; have hfz32_16 := blk_frozen BK331.out 16; have hfz32_17 := blk_frozen BK331.out 17; have hfz32_18 := blk_frozen BK331.out 18; have hfz32_19 := blk_frozen BK331.out 19; have hfz32_20 := blk_frozen BK331.out 20; have hfz32_21 := blk_frozen BK331.out 21; have hfz32_22 := blk_frozen BK331.out 22; have hfz32_23 := blk_frozen BK331.out 23; have hfz32_24 := blk_frozen BK331.out 24) | ((with_reducible refine gate_callee (f := 26) rfl ?_); refine goesL_ (some 39) rfl rfl Try.func26 (by kernel_rfl) rfl #[.int .i64 4, .agg #[.int .i64 3, .bool false, .bool false, .int .i64 t330, .int .i64 (wrap64 (a2)), .string a0, .string a1, .bool false, .int .i64 0, .string (⟨#[]⟩ : ByteArray), .bool false, .string (⟨#[]⟩ : ByteArray), .bool false, .string (⟨#[]⟩ : ByteArray), .bool false, .string (⟨#[]⟩ : ByteArray), .string (⟨#[]⟩ : ByteArray), .int .i64 0, .bool false, .slice none 0 0, .bool false, .int .i64 0, .slice none 0 0, .slice none 0 0, .slice none 0 0]] rfl (by (try simp only [List.map_toArray, List.map_cons, List.map_nil]); first | done | rfl | (simp only [List.length_drop, List.length_take]; rfl)) ?_; (refine (publish_Body.calls kj6 4 3 false false t330 (wrap64 (a2)) a0 a1 false 0 (⟨#[]⟩ : ByteArray) false (⟨#[]⟩ : ByteArray) false (⟨#[]⟩ : ByteArray) false (⟨#[]⟩ : ByteArray) (⟨#[]⟩ : ByteArray) 0 false _ _ ([] : List (S27)) false 0 _ _ ([] : List Int) _ _ ([] : List (S119)) _ _ ([] : List (S27)) t332 t333 _ ?side1 ?side2 ?side3 ?side4 ?side5 ?side6 ?side7 ?side8 A14.out).mono ?_); (case side1 => exact Kd.C_nil _ _); (case side2 => exact Nat.le_refl _); (case side3 => exact Kd.C_nil _ _); (case side4 => exact Nat.le_refl _); (case side5 => exact Kd.C_nil _ _); (case side6 => exact Nat.le_refl _); (case side7 => exact Kd.C_nil _ _); (case side8 => exact Nat.le_refl _); rintro e w33 ⟨rfl, hb⟩; refine ⟨_, rfl, ?_⟩; have n0_ := Aside0.mk (blk_below (g := gb331) (o := .cells #[.int .i64 3, .bool false, .bool false, .int .i64 t330, .int .i64 (wrap64 (a2)), .string a0, .string a1, .bool false, .int .i64 0, .string (⟨#[]⟩ : ByteArray), .bool false, .string (⟨#[]⟩ : ByteArray), .bool false, .string (⟨#[]⟩ : ByteArray), .bool false, .string (⟨#[]⟩ : ByteArray), .string (⟨#[]⟩ : ByteArray), .int .i64 0, .bool false, .slice none 0 0, .bool false, .int .i64 0, .slice none 0 0, .slice none 0 0, .slice none 0 0] 48 (0, 0)) (by (with_reducible repeat (first | refine blk_drewN ?_ _ | refine blk_drew ?_ | refine blk_alloc ?_ _)); exact BK331.out) hb); have n1_ := Aside0.mk (below_step (by repeat (first | (with_reducible first | exact HB.out | apply below_alloc | apply pw_below_drewN | apply below_drew1 | refine below_set ?_ GE331.out) | exact HB.out)) hb); clear BK331; clear HB; have BK331 := n0_; have HB := n1_; clear n0_ n1_; (try clear hb); (try clear hb2); (try clear hk); (try clear hi)))
                      go_ret
                      exact ⟨by first | rfl | (simp [errW_none, errW_some] <;> rfl) | (simp [*, errW_none, errW_some] <;> rfl), by repeat (first | (with_reducible first | exact HB.out | apply below_alloc | apply pw_below_drewN | apply below_drew1 | refine below_set ?_ GE331.out) | exact HB.out)⟩
                    · rw [if_neg c30] at H
                      exact absurd H (by simp)
                  · rw [if_neg c29] at H
                    exact absurd H (by simp)
                · rw [if_neg c28] at H
                  have c28b0 : decide (2 ≤ (t332.size : Int)) = false := decide_eq_false c28
                  have c28b1 : decide (2 ≤ t332.size) = false := decide_eq_false (by omega)
                  clear c28
                  exact absurd ((Option.some.inj H).trans HT_.out) (by decide)
            · rw [if_neg c16] at H
              have c16b0 : ((decide (t330 > 0)) == (decide (a2 > 0))) = false := by simpa using c16
              (try (have c16b1 : decide ((decide (t330 > 0)) = (decide (a2 > 0))) = false := by simpa using c16))
              (try (have c16b2 : ((decide (t330 > 0)) == (decide (a2 > 0))) = false := by simpa using c16))
              (try (have c16b3 : ¬ ((decide (t330 > 0)) = (decide (a2 > 0))) := by simpa using c16))
              clear c16
              obtain rfl := Option.some.inj H
              have hTB_ := HT_.out
              have hTE_ : t332.toList.isEmpty = true := by simpa using hTB_
              have q2_ : (t333 == 0) = false := by have e_ := c15b0; rw [c16b0] at e_; simpa using e_
              have q4_ : (decide (0 < t330) = true ∧ decide (0 < a2) = false) ∨ (decide (0 < t330) = false ∧ decide (0 < a2) = true) := by
                have e_ : (decide (0 < t330) == decide (0 < a2)) = false := c16b0
                revert e_
                cases decide (0 < t330) <;> cases decide (0 < a2) <;> simp
              try clear c15b0 c15b1 c15b2
              try clear c16b1 c16b2
              try clear c16b0
              try clear c15b3 c16b3
              rcases q4_ with ⟨q1_, q3_⟩ | ⟨q1_, q3_⟩
              · go_wp2_with (first | ((with_reducible refine gate_packet_store rfl ?_); refine store_one (w0 := w) rfl 48 _ _ rfl gb331 _ (by rfl) (by rfl) _ BK331.out GE331.out HB.out (by kernel_rfl) (by rfl) (by simp [Value.oneCell']) ?_; intro wS hq hb; clear BK331 HB; have BK331 := Aside0.mk hq; have HB := Aside0.mk hb; clear hq hb; have hcS := blk_cell BK331.out 24; have hfS := blk_frozen BK331.out 24) | ((with_reducible refine polyglotlaw09_PublishIDs.gl rfl ?_); refine wpList_load_row rfl 48 _ rfl _ (by rfl) 48 _ _ _ (Aside0.out (by with_reducible assumption)) Try.underlying48 rfl (by kernel_rfl) ?_) | ((with_reducible refine gate_callee (f := 12) rfl ?_); refine goesL_ (some 30) rfl rfl Try.func12 (by kernel_rfl) rfl #[.int .i64 a3, .int .i64 3] rfl (by (try simp only [List.map_toArray, List.map_cons, List.map_nil]); first | done | rfl | (simp only [List.length_drop, List.length_take]; rfl)) ?_; (with_reducible refine (polyglotkit_Pick.calls a3 3 t330 _ A13.out).mono ?_); rintro e w' ⟨rfl, ⟨nd, rfl⟩⟩; refine ⟨_, rfl, ?_⟩; (try (rw [drewN_self wc]; generalize hq_ : World.drewN wc _ = wc; have n0_ : Aside0 (Below w.heap.size w wc) := ⟨by rw [← hq_]; exact (by repeat (first | (with_reducible first | exact HB.out | apply below_alloc | apply pw_below_drewN | apply below_drew1) | exact HB.out))⟩; clear HB hq_; have HB := n0_; clear n0_))) | ((with_reducible refine gate_dst (N := 9) rfl ?_); (try (refine gate_guard (by rfl) ?_; dsimp only)); refine box_event ?hg (N := 9) ?hd (cs := #[.int .i64 0, .bool false, .bool false, .int .i64 0, .int .i64 0, .string (⟨#[]⟩ : ByteArray), .string (⟨#[]⟩ : ByteArray), .bool false, .int .i64 0, .string (⟨#[]⟩ : ByteArray), .bool false, .string (⟨#[]⟩ : ByteArray), .bool false, .string (⟨#[]⟩ : ByteArray), .bool false, .string (⟨#[]⟩ : ByteArray), .string (⟨#[]⟩ : ByteArray), .int .i64 0, .bool false, .slice none 0 0, .bool false, .int .i64 0, .slice none 0 0, .slice none 0 0, .slice none 0 0]) (t := 48) ?hr ?_; (case hd => rfl); (case hg => rfl); (case hr => first | (go_simp; done) | (go_simp; rfl)); intro gb331 hg w34 hbox hb; have n0_ := Aside0.mk (below_step (by repeat (first | (with_reducible first | exact HB.out | apply below_alloc | apply pw_below_drewN | apply below_drew1) | exact HB.out)) hb); have n1_ := Aside0.mk (hbox); have n2_ := Aside0.mk ((by rw [hg]; exact (below_size (by repeat (first | (with_reducible first | exact HB.out | apply below_alloc | apply pw_below_drewN | apply below_drew1) | exact HB.out))) : w.heap.size ≤ gb331)); have n3_ := Aside0.mk ((by rw [hg]; exact (below_size (by repeat (first | (with_reducible first | exact HB.out | apply below_alloc | apply pw_below_drewN | apply below_drew1) | exact HB.out))) : w.heap.size ≤ gb331)); clear HB; have HB := n0_; have BK331 := n1_; have GW331 := n2_; have GE331 := n3_; clear n0_ n1_ n2_ n3_; clear hb hbox hg; have hcz35_0 : w34.cell? ⟨gb331, 0, none⟩ = some (.int .i64 0) := (blk_cell BK331.out 0).trans rfl; have hcz35_1 : w34.cell? ⟨gb331, 1, none⟩ = some (.bool false) := (blk_cell BK331.out 1).trans rfl; have hcz35_2 : w34.cell? ⟨gb331, 2, none⟩ = some (.bool false) := (blk_cell BK331.out 2).trans rfl; have hcz35_3 : w34.cell? ⟨gb331, 3, none⟩ = some (.int .i64 0) := (blk_cell BK331.out 3).trans rfl; have hcz35_4 : w34.cell? ⟨gb331, 4, none⟩ = some (.int .i64 0) := (blk_cell BK331.out 4).trans rfl; have hcz35_5 : w34.cell? ⟨gb331, 5, none⟩ = some (.string (⟨#[]⟩ : ByteArray)) := (blk_cell BK331.out 5).trans rfl; have hcz35_6 : w34.cell? ⟨gb331, 6, none⟩ = some (.string (⟨#[]⟩ : ByteArray)) := (blk_cell BK331.out 6).trans rfl; have hcz35_7 : w34.cell? ⟨gb331, 7, none⟩ = some (.bool false) := (blk_cell BK331.out 7).trans rfl; have hcz35_8 : w34.cell? ⟨gb331, 8, none⟩ = some (.int .i64 0) := (blk_cell BK331.out 8).trans rfl; have hcz35_9 : w34.cell? ⟨gb331, 9, none⟩ = some (.string (⟨#[]⟩ : ByteArray)) := (blk_cell BK331.out 9).trans rfl; have hcz35_10 : w34.cell? ⟨gb331, 10, none⟩ = some (.bool false) := (blk_cell BK331.out 10).trans rfl; have hcz35_11 : w34.cell? ⟨gb331, 11, none⟩ = some (.string (⟨#[]⟩ : ByteArray)) := (blk_cell BK331.out 11).trans rfl; have hcz35_12 : w34.cell? ⟨gb331, 12, none⟩ = some (.bool false) := (blk_cell BK331.out 12).trans rfl; have hcz35_13 : w34.cell? ⟨gb331, 13, none⟩ = some (.string (⟨#[]⟩ : ByteArray)) := (blk_cell BK331.out 13).trans rfl; have hcz35_14 : w34.cell? ⟨gb331, 14, none⟩ = some (.bool false) := (blk_cell BK331.out 14).trans rfl; have hcz35_15 : w34.cell? ⟨gb331, 15, none⟩ = some (.string (⟨#[]⟩ : ByteArray)) := (blk_cell BK331.out 15).trans rfl; have hcz35_16 : w34.cell? ⟨gb331, 16, none⟩ = some (.string (⟨#[]⟩ : ByteArray)) := (blk_cell BK331.out 16).trans rfl; have hcz35_17 : w34.cell? ⟨gb331, 17, none⟩ = some (.int .i64 0) := (blk_cell BK331.out 17).trans rfl; have hcz35_18 : w34.cell? ⟨gb331, 18, none⟩ = some (.bool false) := (blk_cell BK331.out 18).trans rfl; have hcz35_19 : w34.cell? ⟨gb331, 19, none⟩ = some (.slice none 0 0) := (blk_cell BK331.out 19).trans rfl; have hcz35_20 : w34.cell? ⟨gb331, 20, none⟩ = some (.bool false) := (blk_cell BK331.out 20).trans rfl; have hcz35_21 : w34.cell? ⟨gb331, 21, none⟩ = some (.int .i64 0) := (blk_cell BK331.out 21).trans rfl; have hcz35_22 : w34.cell? ⟨gb331, 22, none⟩ = some (.slice none 0 0) := (blk_cell BK331.out 22).trans rfl; have hcz35_23 : w34.cell? ⟨gb331, 23, none⟩ = some (.slice none 0 0) := (blk_cell BK331.out 23).trans rfl; have hcz35_24 : w34.cell? ⟨gb331, 24, none⟩ = some (.slice none 0 0) := (blk_cell BK331.out 24).trans rfl; have hfz35_0 := blk_frozen BK331.out 0; have hfz35_1 := blk_frozen BK331.out 1; have hfz35_2 := blk_frozen BK331.out 2; have hfz35_3 := blk_frozen BK331.out 3; have hfz35_4 := blk_frozen BK331.out 4; have hfz35_5 := blk_frozen BK331.out 5; have hfz35_6 := blk_frozen BK331.out 6; have hfz35_7 := blk_frozen BK331.out 7; have hfz35_8 := blk_frozen BK331.out 8; have hfz35_9 := blk_frozen BK331.out 9; have hfz35_10 := blk_frozen BK331.out 10; have hfz35_11 := blk_frozen BK331.out 11; have hfz35_12 := blk_frozen BK331.out 12; have hfz35_13 := blk_frozen BK331.out 13; have hfz35_14 := blk_frozen BK331.out 14; have hfz35_15 := blk_frozen BK331.out 15; have hfz35_16 := blk_frozen BK331.out 16; have hfz35_17 := blk_frozen BK331.out 17; have hfz35_18 := blk_frozen BK331.out 18; have hfz35_19 := blk_frozen BK331.out 19; have hfz35_20 := blk_frozen BK331.out 20; have hfz35_21 := blk_frozen BK331.out 21; have hfz35_22 := blk_frozen BK331.out 22; have hfz35_23 := blk_frozen BK331.out 23; have hfz35_24 := blk_frozen BK331.out 24) | ((with_reducible refine gate_callee (f := 26) rfl ?_); refine goesL_ (some 39) rfl rfl Try.func26 (by kernel_rfl) rfl #[.int .i64 4, .agg #[.int .i64 3, .bool false, .bool false, .int .i64 t330, .int .i64 (wrap64 (a2)), .string a0, .string a1, .bool false, .int .i64 0, .string (⟨#[]⟩ : ByteArray), .bool false, .string (⟨#[]⟩ : ByteArray), .bool false, .string (⟨#[]⟩ : ByteArray), .bool false, .string (⟨#[]⟩ : ByteArray), .string (⟨#[]⟩ : ByteArray), .int .i64 0, .bool false, .slice none 0 0, .bool false, .int .i64 0, .slice none 0 0, .slice none 0 0, .slice none 0 0]] rfl (by (try simp only [List.map_toArray, List.map_cons, List.map_nil]); first | done | rfl | (simp only [List.length_drop, List.length_take]; rfl)) ?_; (refine (publish_Body.calls kj6 4 3 false false t330 (wrap64 (a2)) a0 a1 false 0 (⟨#[]⟩ : ByteArray) false (⟨#[]⟩ : ByteArray) false (⟨#[]⟩ : ByteArray) false (⟨#[]⟩ : ByteArray) (⟨#[]⟩ : ByteArray) 0 false _ _ ([] : List (S27)) false 0 _ _ ([] : List Int) _ _ ([] : List (S119)) _ _ ([] : List (S27)) t332 t333 _ ?side1 ?side2 ?side3 ?side4 ?side5 ?side6 ?side7 ?side8 A14.out).mono ?_); (case side1 => exact Kd.C_nil _ _); (case side2 => exact Nat.le_refl _); (case side3 => exact Kd.C_nil _ _); (case side4 => exact Nat.le_refl _); (case side5 => exact Kd.C_nil _ _); (case side6 => exact Nat.le_refl _); (case side7 => exact Kd.C_nil _ _); (case side8 => exact Nat.le_refl _); rintro e w36 ⟨rfl, hb⟩; refine ⟨_, rfl, ?_⟩; have n0_ := Aside0.mk (blk_below (g := gb331) (o := .cells #[.int .i64 3, .bool false, .bool false, .int .i64 t330, .int .i64 (wrap64 (a2)), .string a0, .string a1, .bool false, .int .i64 0, .string (⟨#[]⟩ : ByteArray), .bool false, .string (⟨#[]⟩ : ByteArray), .bool false, .string (⟨#[]⟩ : ByteArray), .bool false, .string (⟨#[]⟩ : ByteArray), .string (⟨#[]⟩ : ByteArray), .int .i64 0, .bool false, .slice none 0 0, .bool false, .int .i64 0, .slice none 0 0, .slice none 0 0, .slice none 0 0] 48 (0, 0)) (by (with_reducible repeat (first | refine blk_drewN ?_ _ | refine blk_drew ?_ | refine blk_alloc ?_ _)); exact BK331.out) hb); have n1_ := Aside0.mk (below_step (by repeat (first | (with_reducible first | exact HB.out | apply below_alloc | apply pw_below_drewN | apply below_drew1 | refine below_set ?_ GE331.out) | exact HB.out)) hb); clear BK331; clear HB; have BK331 := n0_; have HB := n1_; clear n0_ n1_; (try clear hb); (try clear hb2); (try clear hk); (try clear hi)))
                go_ret
                exact ⟨by first | rfl | (simp [errW_none, errW_some] <;> rfl) | (simp [*, errW_none, errW_some] <;> rfl), by repeat (first | (with_reducible first | exact HB.out | apply below_alloc | apply pw_below_drewN | apply below_drew1 | refine below_set ?_ GE331.out) | exact HB.out)⟩
              · go_wp2_with (first | ((with_reducible refine gate_packet_store rfl ?_); refine store_one (w0 := w) rfl 48 _ _ rfl gb331 _ (by rfl) (by rfl) _ BK331.out GE331.out HB.out (by kernel_rfl) (by rfl) (by simp [Value.oneCell']) ?_; intro wS hq hb; clear BK331 HB; have BK331 := Aside0.mk hq; have HB := Aside0.mk hb; clear hq hb; have hcS := blk_cell BK331.out 24; have hfS := blk_frozen BK331.out 24) | ((with_reducible refine polyglotlaw09_PublishIDs.gl rfl ?_); refine wpList_load_row rfl 48 _ rfl _ (by rfl) 48 _ _ _ (Aside0.out (by with_reducible assumption)) Try.underlying48 rfl (by kernel_rfl) ?_) | ((with_reducible refine gate_callee (f := 12) rfl ?_); refine goesL_ (some 30) rfl rfl Try.func12 (by kernel_rfl) rfl #[.int .i64 a3, .int .i64 3] rfl (by (try simp only [List.map_toArray, List.map_cons, List.map_nil]); first | done | rfl | (simp only [List.length_drop, List.length_take]; rfl)) ?_; (with_reducible refine (polyglotkit_Pick.calls a3 3 t330 _ A13.out).mono ?_); rintro e w' ⟨rfl, ⟨nd, rfl⟩⟩; refine ⟨_, rfl, ?_⟩; (try (rw [drewN_self wc]; generalize hq_ : World.drewN wc _ = wc; have n0_ : Aside0 (Below w.heap.size w wc) := ⟨by rw [← hq_]; exact (by repeat (first | (with_reducible first | exact HB.out | apply below_alloc | apply pw_below_drewN | apply below_drew1) | exact HB.out))⟩; clear HB hq_; have HB := n0_; clear n0_))) | ((with_reducible refine gate_dst (N := 9) rfl ?_); (try (refine gate_guard (by rfl) ?_; dsimp only)); refine box_event ?hg (N := 9) ?hd (cs := #[.int .i64 0, .bool false, .bool false, .int .i64 0, .int .i64 0, .string (⟨#[]⟩ : ByteArray), .string (⟨#[]⟩ : ByteArray), .bool false, .int .i64 0, .string (⟨#[]⟩ : ByteArray), .bool false, .string (⟨#[]⟩ : ByteArray), .bool false, .string (⟨#[]⟩ : ByteArray), .bool false, .string (⟨#[]⟩ : ByteArray), .string (⟨#[]⟩ : ByteArray), .int .i64 0, .bool false, .slice none 0 0, .bool false, .int .i64 0, .slice none 0 0, .slice none 0 0, .slice none 0 0]) (t := 48) ?hr ?_; (case hd => rfl); (case hg => rfl); (case hr => first | (go_simp; done) | (go_simp; rfl)); intro gb331 hg w34 hbox hb; have n0_ := Aside0.mk (below_step (by repeat (first | (with_reducible first | exact HB.out | apply below_alloc | apply pw_below_drewN | apply below_drew1) | exact HB.out)) hb); have n1_ := Aside0.mk (hbox); have n2_ := Aside0.mk ((by rw [hg]; exact (below_size (by repeat (first | (with_reducible first | exact HB.out | apply below_alloc | apply pw_below_drewN | apply below_drew1) | exact HB.out))) : w.heap.size ≤ gb331)); have n3_ := Aside0.mk ((by rw [hg]; exact (below_size (by repeat (first | (with_reducible first | exact HB.out | apply below_alloc | apply pw_below_drewN | apply below_drew1) | exact HB.out))) : w.heap.size ≤ gb331)); clear HB; have HB := n0_; have BK331 := n1_; have GW331 := n2_; have GE331 := n3_; clear n0_ n1_ n2_ n3_; clear hb hbox hg; have hcz35_0 : w34.cell? ⟨gb331, 0, none⟩ = some (.int .i64 0) := (blk_cell BK331.out 0).trans rfl; have hcz35_1 : w34.cell? ⟨gb331, 1, none⟩ = some (.bool false) := (blk_cell BK331.out 1).trans rfl; have hcz35_2 : w34.cell? ⟨gb331, 2, none⟩ = some (.bool false) := (blk_cell BK331.out 2).trans rfl; have hcz35_3 : w34.cell? ⟨gb331, 3, none⟩ = some (.int .i64 0) := (blk_cell BK331.out 3).trans rfl; have hcz35_4 : w34.cell? ⟨gb331, 4, none⟩ = some (.int .i64 0) := (blk_cell BK331.out 4).trans rfl; have hcz35_5 : w34.cell? ⟨gb331, 5, none⟩ = some (.string (⟨#[]⟩ : ByteArray)) := (blk_cell BK331.out 5).trans rfl; have hcz35_6 : w34.cell? ⟨gb331, 6, none⟩ = some (.string (⟨#[]⟩ : ByteArray)) := (blk_cell BK331.out 6).trans rfl; have hcz35_7 : w34.cell? ⟨gb331, 7, none⟩ = some (.bool false) := (blk_cell BK331.out 7).trans rfl; have hcz35_8 : w34.cell? ⟨gb331, 8, none⟩ = some (.int .i64 0) := (blk_cell BK331.out 8).trans rfl; have hcz35_9 : w34.cell? ⟨gb331, 9, none⟩ = some (.string (⟨#[]⟩ : ByteArray)) := (blk_cell BK331.out 9).trans rfl; have hcz35_10 : w34.cell? ⟨gb331, 10, none⟩ = some (.bool false) := (blk_cell BK331.out 10).trans rfl; have hcz35_11 : w34.cell? ⟨gb331, 11, none⟩ = some (.string (⟨#[]⟩ : ByteArray)) := (blk_cell BK331.out 11).trans rfl; have hcz35_12 : w34.cell? ⟨gb331, 12, none⟩ = some (.bool false) := (blk_cell BK331.out 12).trans rfl; have hcz35_13 : w34.cell? ⟨gb331, 13, none⟩ = some (.string (⟨#[]⟩ : ByteArray)) := (blk_cell BK331.out 13).trans rfl; have hcz35_14 : w34.cell? ⟨gb331, 14, none⟩ = some (.bool false) := (blk_cell BK331.out 14).trans rfl; have hcz35_15 : w34.cell? ⟨gb331, 15, none⟩ = some (.string (⟨#[]⟩ : ByteArray)) := (blk_cell BK331.out 15).trans rfl; have hcz35_16 : w34.cell? ⟨gb331, 16, none⟩ = some (.string (⟨#[]⟩ : ByteArray)) := (blk_cell BK331.out 16).trans rfl; have hcz35_17 : w34.cell? ⟨gb331, 17, none⟩ = some (.int .i64 0) := (blk_cell BK331.out 17).trans rfl; have hcz35_18 : w34.cell? ⟨gb331, 18, none⟩ = some (.bool false) := (blk_cell BK331.out 18).trans rfl; have hcz35_19 : w34.cell? ⟨gb331, 19, none⟩ = some (.slice none 0 0) := (blk_cell BK331.out 19).trans rfl; have hcz35_20 : w34.cell? ⟨gb331, 20, none⟩ = some (.bool false) := (blk_cell BK331.out 20).trans rfl; have hcz35_21 : w34.cell? ⟨gb331, 21, none⟩ = some (.int .i64 0) := (blk_cell BK331.out 21).trans rfl; have hcz35_22 : w34.cell? ⟨gb331, 22, none⟩ = some (.slice none 0 0) := (blk_cell BK331.out 22).trans rfl; have hcz35_23 : w34.cell? ⟨gb331, 23, none⟩ = some (.slice none 0 0) := (blk_cell BK331.out 23).trans rfl; have hcz35_24 : w34.cell? ⟨gb331, 24, none⟩ = some (.slice none 0 0) := (blk_cell BK331.out 24).trans rfl; have hfz35_0 := blk_frozen BK331.out 0; have hfz35_1 := blk_frozen BK331.out 1; have hfz35_2 := blk_frozen BK331.out 2; have hfz35_3 := blk_frozen BK331.out 3; have hfz35_4 := blk_frozen BK331.out 4; have hfz35_5 := blk_frozen BK331.out 5; have hfz35_6 := blk_frozen BK331.out 6; have hfz35_7 := blk_frozen BK331.out 7; have hfz35_8 := blk_frozen BK331.out 8; have hfz35_9 := blk_frozen BK331.out 9; have hfz35_10 := blk_frozen BK331.out 10; have hfz35_11 := blk_frozen BK331.out 11; have hfz35_12 := blk_frozen BK331.out 12; have hfz35_13 := blk_frozen BK331.out 13; have hfz35_14 := blk_frozen BK331.out 14; have hfz35_15 := blk_frozen BK331.out 15; have hfz35_16 := blk_frozen BK331.out 16; have hfz35_17 := blk_frozen BK331.out 17; have hfz35_18 := blk_frozen BK331.out 18; have hfz35_19 := blk_frozen BK331.out 19; have hfz35_20 := blk_frozen BK331.out 20; have hfz35_21 := blk_frozen BK331.out 21; have hfz35_22 := blk_frozen BK331.out 22; have hfz35_23 := blk_frozen BK331.out 23; have hfz35_24 := blk_frozen BK331.out 24) | ((with_reducible refine gate_callee (f := 26) rfl ?_); refine goesL_ (some 39) rfl rfl Try.func26 (by kernel_rfl) rfl #[.int .i64 4, .agg #[.int .i64 3, .bool false, .bool false, .int .i64 t330, .int .i64 (wrap64 (a2)), .string a0, .string a1, .bool false, .int .i64 0, .string (⟨#[]⟩ : ByteArray), .bool false, .string (⟨#[]⟩ : ByteArray), .bool false, .string (⟨#[]⟩ : ByteArray), .bool false, .string (⟨#[]⟩ : ByteArray), .string (⟨#[]⟩ : ByteArray), .int .i64 0, .bool false, .slice none 0 0, .bool false, .int .i64 0, .slice none 0 0, .slice none 0 0, .slice none 0 0]] rfl (by (try simp only [List.map_toArray, List.map_cons, List.map_nil]); first | done | rfl | (simp only [List.length_drop, List.length_take]; rfl)) ?_; (refine (publish_Body.calls kj6 4 3 false false t330 (wrap64 (a2)) a0 a1 false 0 (⟨#[]⟩ : ByteArray) false (⟨#[]⟩ : ByteArray) false (⟨#[]⟩ : ByteArray) false (⟨#[]⟩ : ByteArray) (⟨#[]⟩ : ByteArray) 0 false _ _ ([] : List (S27)) false 0 _ _ ([] : List Int) _ _ ([] : List (S119)) _ _ ([] : List (S27)) t332 t333 _ ?side1 ?side2 ?side3 ?side4 ?side5 ?side6 ?side7 ?side8 A14.out).mono ?_); (case side1 => exact Kd.C_nil _ _); (case side2 => exact Nat.le_refl _); (case side3 => exact Kd.C_nil _ _); (case side4 => exact Nat.le_refl _); (case side5 => exact Kd.C_nil _ _); (case side6 => exact Nat.le_refl _); (case side7 => exact Kd.C_nil _ _); (case side8 => exact Nat.le_refl _); rintro e w36 ⟨rfl, hb⟩; refine ⟨_, rfl, ?_⟩; have n0_ := Aside0.mk (blk_below (g := gb331) (o := .cells #[.int .i64 3, .bool false, .bool false, .int .i64 t330, .int .i64 (wrap64 (a2)), .string a0, .string a1, .bool false, .int .i64 0, .string (⟨#[]⟩ : ByteArray), .bool false, .string (⟨#[]⟩ : ByteArray), .bool false, .string (⟨#[]⟩ : ByteArray), .bool false, .string (⟨#[]⟩ : ByteArray), .string (⟨#[]⟩ : ByteArray), .int .i64 0, .bool false, .slice none 0 0, .bool false, .int .i64 0, .slice none 0 0, .slice none 0 0, .slice none 0 0] 48 (0, 0)) (by (with_reducible repeat (first | refine blk_drewN ?_ _ | refine blk_drew ?_ | refine blk_alloc ?_ _)); exact BK331.out) hb); have n1_ := Aside0.mk (below_step (by repeat (first | (with_reducible first | exact HB.out | apply below_alloc | apply pw_below_drewN | apply below_drew1 | refine below_set ?_ GE331.out) | exact HB.out)) hb); clear BK331; clear HB; have BK331 := n0_; have HB := n1_; clear n0_ n1_; (try clear hb); (try clear hb2); (try clear hk); (try clear hi)))
                go_ret
                exact ⟨by first | rfl | (simp [errW_none, errW_some] <;> rfl) | (simp [*, errW_none, errW_some] <;> rfl), by repeat (first | (with_reducible first | exact HB.out | apply below_alloc | apply pw_below_drewN | apply below_drew1 | refine below_set ?_ GE331.out) | exact HB.out)⟩
  · replace c6 := Bool.eq_false_iff.mpr c6
    subst c6
    have H1 : (some false) = some r := by rw [if_neg (show ¬ (false = true) by decide)] at H; exact H
    clear H
    have H := H1
    clear H1
    exact absurd ((Option.some.inj H).trans HT_.out) (by decide)

def polyglotlaw09_PublishIDs.Pure : Prop := ∀ (a0 : ByteArray) (a1 : ByteArray) (a2 : Int) (a3 : Int), a0.size ≤ 140737488351232 → a1.size ≤ 140737488351232 → (Lit.int .u16 a2).wf = true → (Lit.int .i64 a3).wf = true → ∃ k, polyglotlaw09_PublishIDs.f k a0 a1 a2 a3 = some true
theorem polyglotlaw09_PublishIDs.walk (P : polyglotlaw09_PublishIDs.Pure) (a0 : ByteArray) (a1 : ByteArray) (a2 : Int) (a3 : Int) (w : World) (w0 : a0.size ≤ 140737488351232) (w1 : a1.size ≤ 140737488351232) (w2 : (Lit.int .u16 a2).wf = true) (w3 : (Lit.int .i64 a3).wf = true) :
    Calls Try.prog 7 #[.string a0, .string a1, .int .u16 a2, .int .i64 a3] w fun e w' => e = .returned (.bool true) ∧ Below w.heap.size w w' := by
  obtain ⟨k, h⟩ := P a0 a1 a2 a3 w0 w1 w2 w3
  refine (polyglotlaw09_PublishIDs.calls k a0 a1 a2 a3 true w h).mono ?_
  rintro e w' ⟨rfl, hd⟩
  exact ⟨rfl, hd⟩

end Go.Proofs.Ytngmipfobcaojaa.HA
end

-- YtngmipfobcaojaaHAhBytesLaw
section
namespace Go.Proofs.Ytngmipfobcaojaa.HA
open Go.RowKit Go.Proofs.YtngmipfobcaojaaW.PrintWords Go.Proofs.YtngmipfobcaojaaW.PrintLast Go.Proofs.YtngmipfobcaojaaW.PrintMore
set_option linter.unusedVariables false
set_option linter.unusedSimpArgs false
abbrev PropT := S27
def cnt (i : Nat) (l : List PropT) : Nat := l.countP fun p => decide (p.f0.toNat = i)
end Go.Proofs.Ytngmipfobcaojaa.HA
end

-- YtngmipfobcaojaaHA48
section
namespace Go.Proofs.Ytngmipfobcaojaa.HA
open Go.RowKit Go.Proofs.YtngmipfobcaojaaW.PrintWords Go.Proofs.YtngmipfobcaojaaW.PrintLast Go.Proofs.YtngmipfobcaojaaW.PrintMore
attribute [local go_sem] max2_int min2_int max_two min_two max_three min_three max_four min_four
set_option linter.unusedVariables false
set_option linter.unusedSimpArgs false

end Go.Proofs.Ytngmipfobcaojaa.HA
end

-- YtngmipfobcaojaaHA46
section
namespace Go.Proofs.Ytngmipfobcaojaa.HA
open Go.RowKit Go.Proofs.YtngmipfobcaojaaW.PrintWords Go.Proofs.YtngmipfobcaojaaW.PrintLast Go.Proofs.YtngmipfobcaojaaW.PrintMore
attribute [local go_sem] max2_int min2_int max_two min_two max_three min_three max_four min_four
set_option linter.unusedVariables false
set_option linter.unusedSimpArgs false

end Go.Proofs.Ytngmipfobcaojaa.HA
end

-- YtngmipfobcaojaaHAhListLaw
section
namespace Go.Proofs.Ytngmipfobcaojaa.HA
open Go.RowKit Go.Proofs.YtngmipfobcaojaaW.PrintWords Go.Proofs.YtngmipfobcaojaaW.PrintLast Go.Proofs.YtngmipfobcaojaaW.PrintMore
set_option linter.unusedVariables false
set_option linter.unusedSimpArgs false
theorem valid5_f (kind : Int) (l : List PropT) : prop_Valid.f kind l = some (bytesS kind l).2 := rfl
end Go.Proofs.Ytngmipfobcaojaa.HA
end

-- YtngmipfobcaojaaHAhPubLaw
section
namespace Go.Proofs.Ytngmipfobcaojaa.HA
open Go.RowKit Go.Proofs.YtngmipfobcaojaaW.PrintWords Go.Proofs.YtngmipfobcaojaaW.PrintLast Go.Proofs.YtngmipfobcaojaaW.PrintMore
set_option linter.unusedVariables false
set_option linter.unusedSimpArgs false
theorem extract_mid9 (a b : ByteArray) : (a ++ b).extract a.size (a ++ b).size = b := by
  apply ByteArray.ext
  apply Array.ext'
  rw [ByteArray.data_extract, Array.toList_extract, List.extract_eq_take_drop, ByteArray.data_append, Array.toList_append, ByteArray.size_append]
  have ha : a.data.toList.length = a.size := by simp
  have hb : b.data.toList.length = b.size := by simp
  rw [← ha, List.drop_left, List.take_of_length_le (by omega)]
theorem put2_9 (n : Int) : putS n 2 = strOfNums [n / 256 % 256, n % 256] := by simp [putS, putTo]
theorem eqI_f (k : Nat) : slices_EqualFunc_int_int_int_int.f (k + 1) [] [] = some true := by
  unfold slices_EqualFunc_int_int_int_int.f
  rw [slices_EqualFunc_int_int_int_int.l0.eq_def]
  simp
theorem eqF_f (k : Nat) : api_Filter_102.f (k + 1) [] [] = some true := by
  unfold api_Filter_102.f
  rw [api_Filter_102.l0.eq_def]
  simp
theorem eqP_f (k : Nat) : api_Prop_104.f (k + 1) [] [] = some true := by
  unfold api_Prop_104.f
  rw [api_Prop_104.l0.eq_def]
  simp
theorem eqP1_f (k : Nat) (p : PropT) : api_Prop_104.f (k + 2) [p] [p] = some true := by
  unfold api_Prop_104.f
  rw [api_Prop_104.l0.eq_def]
  simp only []
  have h1 : wrap64 ((0 : Int) + 1) = 1 := by unfold wrap64; omega
  rw [h1, api_Prop_104.l0.eq_def]
  simp [api_Prop_105.f]
theorem same9 (k : Nat) (q id : Int) (t p : ByteArray) (l : List PropT) (hl : l = [] ∨ ∃ x, l = [x]) :
    head_Same.f (k + 2) 3 false false q id t p false 0 ⟨#[]⟩ false ⟨#[]⟩ false ⟨#[]⟩ false ⟨#[]⟩ ⟨#[]⟩ 0 false [] false 0 [] [] l 3 false false q id t p false 0 ⟨#[]⟩ false ⟨#[]⟩ false ⟨#[]⟩ false ⟨#[]⟩ ⟨#[]⟩ 0 false [] false 0 [] [] l = some true := by
  have e3 : api_Prop_104.f (k + 2) l l = some true := by
    rcases hl with rfl | ⟨x, rfl⟩
    · exact eqP_f (k + 1)
    · exact eqP1_f k x
  have e0 := eqP_f (k + 1)
  have e1 := eqI_f (k + 1)
  have e2 := eqF_f (k + 1)
  unfold head_Same.f head_sameWill.f head_list_int.f api_Filter_86.f api_Prop_87.f head_strip.f
  rw [e0, e1, e2, e3]
  simp
def aliasB (l : List PropT) : Bool := match l with | [] => false | x :: _ => x.f0 == 35
theorem get1_f (k : Nat) (l : List PropT) (hl : l = [] ∨ ∃ x, l = [x]) : ∃ a b c d, prop_Get.f (k + 2) l 35 = some (a, b, c, d, aliasB l) ∧ (∀ x, l = [x] → x.f0 = 35 → b = x.f1) := by
  rcases hl with rfl | ⟨x, rfl⟩
  · refine ⟨0, 0, ⟨#[]⟩, ⟨#[]⟩, ?_, fun x h => by simp at h⟩
    unfold prop_Get.f
    rw [prop_Get.l0.eq_def]
    simp [aliasB]
  · unfold prop_Get.f
    rw [prop_Get.l0.eq_def]
    simp only []
    by_cases e : x.f0 = 35
    · refine ⟨x.f0, x.f1, x.f2, x.f3, ?_, fun y h _ => by cases h; rfl⟩
      simp [rd_T27, e, aliasB]
    · refine ⟨0, 0, ⟨#[]⟩, ⟨#[]⟩, ?_, fun y h h2 => by cases h; exact absurd h2 e⟩
      have h1 : wrap64 ((0 : Int) + 1) = 1 := by unfold wrap64; omega
      rw [h1, prop_Get.l0.eq_def]
      simp [rd_T27, e, aliasB]
def validP (v q id : Int) (t : ByteArray) (l : List PropT) : Int :=
  if fieldsS v q id l.length true = false then 2
  else if (nameS t || (v == 5 && (aliasB l && (t.toList == [])))) = false then 10
  else (bytesS 3 l).2
theorem validP_f (k : Nat) (hk : 5 ≤ k) (v q id : Int) (t p : ByteArray) (l : List PropT) (hv : v = 4 ∨ v = 5) (hq : 0 ≤ q ∧ q ≤ 2) (hl : l = [] ∨ ∃ x, l = [x]) :
    publish_Valid.f k v 3 false false q id t p false 0 ⟨#[]⟩ false ⟨#[]⟩ false ⟨#[]⟩ false ⟨#[]⟩ ⟨#[]⟩ 0 false [] false 0 [] [] l = some (validP v q id t l) := by
  obtain ⟨k, rfl⟩ : ∃ m, k = m + 2 := ⟨k - 2, by omega⟩
  have hk1 : publish_known.f v = some true := by unfold publish_known.f; rcases hv with rfl | rfl <;> simp
  have hk2 : head_known.f v = some true := by unfold head_known.f; rcases hv with rfl | rfl <;> simp
  have hk3 : head_kinds.f v 3 = some true := by unfold head_kinds.f; rcases hv with rfl | rfl <;> simp
  have hF : ∃ n, head_Flags.f (k + 2) v 3 false false q id t p false 0 ⟨#[]⟩ false ⟨#[]⟩ false ⟨#[]⟩ false ⟨#[]⟩ ⟨#[]⟩ 0 false [] false 0 [] [] l = some (n, 0) := by
    unfold head_Flags.f
    rw [hk2, hk3]
    simp only [Option.bind_some, if_true]
    rw [if_neg (by omega), if_neg (by omega)]
    by_cases h0 : q = 0
    · simp only [h0, if_true]
      rw [head_Flags.j0.eq_def]
      exact ⟨_, rfl⟩
    · rw [if_neg h0, head_Flags.j0.eq_def]
      exact ⟨_, rfl⟩
  obtain ⟨n, hF⟩ := hF
  have hS : publish_fields.f (k + 2) v 3 false false q id t p false 0 ⟨#[]⟩ false ⟨#[]⟩ false ⟨#[]⟩ false ⟨#[]⟩ ⟨#[]⟩ 0 false [] false 0 [] [] l = some (fieldsS v q id l.length true) := by
    unfold publish_fields.f
    rw [same9 k q id t p l hl]
    rfl
  obtain ⟨a, b, c, d, hg, _⟩ := get1_f k l hl
  have hN : publish_named.f (k + 2) v 3 false false q id t p false 0 ⟨#[]⟩ false ⟨#[]⟩ false ⟨#[]⟩ false ⟨#[]⟩ ⟨#[]⟩ 0 false [] false 0 [] [] l = some (nameS t || (v == 5 && (aliasB l && (t.toList == [])))) := by
    unfold publish_named.f publish_Alias.f
    rw [hg]
    simp only [Option.bind_some, name_f]
    cases nameS t with
    | true => rfl
    | false =>
      by_cases h5 : v = 5
      · cases aliasB l <;> simp [h5]
      · simp [h5]
  have hV : prop_Valid.f 3 l = some (bytesS 3 l).2 := valid5_f 3 l
  unfold publish_Valid.f validP
  simp only [restV, lookV, hk1, hF, hS, hN, hV, Option.bind_some, and_self, if_true]
  cases fieldsS v q id l.length true with
  | false => simp
  | true =>
    cases (nameS t || (v == 5 && (aliasB l && (t.toList == [])))) with
    | false => simp
    | true =>
      simp
      intro h
      rw [h]
end Go.Proofs.Ytngmipfobcaojaa.HA
end

-- YtngmipfobcaojaaHAhRef3
section
namespace Go.Proofs.Ytngmipfobcaojaa.HA
open Go.RowKit Go.Proofs.YtngmipfobcaojaaW.PrintWords Go.Proofs.YtngmipfobcaojaaW.PrintLast Go.Proofs.YtngmipfobcaojaaW.PrintMore
set_option linter.unusedVariables false
set_option linter.unusedSimpArgs false

def gI (s : ByteArray) (i : Nat) : Int := ((s.get! i).toNat : Int)
theorem gI_range (s : ByteArray) (i : Nat) : 0 ≤ gI s i ∧ gI s i < 256 := by
  have := UInt8.toNat_lt (s.get! i)
  unfold gI
  omega
theorem get!_in (s : ByteArray) (i : Nat) (h : i < s.size) : s.get! i = s[i]'h := by
  show s.data[i]! = s.data[i]'h
  exact getElem!_pos s.data i h
theorem bt_gI (s : ByteArray) (i : Nat) (h : i < s.size) : bt s (i : Int) = gI s i := by
  unfold bt gI
  rw [dif_pos (by simpa using h), get!_in s i h]
  simp
def goesOn (s : ByteArray) (i : Nat) : Bool := decide (i < s.size) && (decide (128 ≤ gI s i) && decide (gI s i ≤ 191))
theorem wrap_id {n : Int} (h1 : -9223372036854775808 ≤ n) (h2 : n ≤ 9223372036854775807) : wrap64 n = n := by
  unfold wrap64; omega
theorem more_f (s : ByteArray) (i : Nat) : polyglotref03_more.f s (i : Int) = some (if goesOn s i = true then (gI s i - 128, true) else (0, false)) := by
  unfold polyglotref03_more.f goesOn
  have hr := gI_range s i
  by_cases h : i < s.size
  · rw [if_neg (by omega), if_pos (by omega), if_pos (by omega), bt_gI s i h]
    by_cases h1 : gI s i < 128
    · rw [if_pos h1, if_neg (by simp; omega)]
    · by_cases h2 : gI s i > 191
      · rw [if_neg h1, if_pos h2, if_neg (by simp; omega)]
      · rw [if_neg h1, if_neg h2, if_pos (by simp; omega), wrap_id (n := gI s i) (by omega) (by omega), wrap_id (by omega) (by omega)]
  · rw [if_pos (by omega), if_neg (by simp; omega)]
def finP (n z least : Int) : Int × Int := if n < least ∨ n > 1114111 ∨ (n ≥ 55296 ∧ n ≤ 57343) then (0, 0) else (n, z)
theorem l0_end (k : Nat) (s : ByteArray) (pos n z least : Int) : polyglotref03_Point.l0 (k + 1) s pos n z least z = some (finP n z least) := by
  rw [polyglotref03_Point.l0.eq_def]
  simp only [finP, Int.lt_irrefl, if_false]
  repeat' split
  all_goals first | rfl | (exfalso; omega)
theorem l0_step (k : Nat) (s : ByteArray) (pos j : Nat) (n z least : Int) (hj : (j : Int) < z) (hz : z ≤ 4) (hs : pos < 4294967296) (hn : 0 ≤ n ∧ n < 4194304) :
    polyglotref03_Point.l0 (k + 1) s pos n z least j =
      if goesOn s (pos + j) = true then polyglotref03_Point.l0 k s pos (64 * n + (gI s (pos + j) - 128)) z least ((j + 1 : Nat) : Int) else some (0, 0) := by
  rw [polyglotref03_Point.l0.eq_def]
  have hr := gI_range s (pos + j)
  simp only [hj, if_true]
  rw [wrap_id (n := (pos : Int) + (j : Int)) (by omega) (by omega), show (pos : Int) + (j : Int) = ((pos + j : Nat) : Int) by omega, more_f]
  by_cases h : goesOn s (pos + j) = true
  · simp only [h, if_true, Option.bind_some]
    rw [wrap_id (n := 64 * n) (by omega) (by omega), wrap_id (n := 64 * n + _) (by omega) (by omega), wrap_id (n := (j : Int) + 1) (by omega) (by omega)]
    rfl
  · simp [h]
def ptP (s : ByteArray) (p : Nat) : Int × Int :=
  if gI s p < 128 then (gI s p, 1)
  else if 192 ≤ gI s p ∧ gI s p < 224 then (if goesOn s (p + 1) = true then finP (64 * (gI s p - 192) + (gI s (p + 1) - 128)) 2 128 else (0, 0))
  else if 224 ≤ gI s p ∧ gI s p < 240 then (if goesOn s (p + 1) = true then (if goesOn s (p + 2) = true then finP (64 * (64 * (gI s p - 224) + (gI s (p + 1) - 128)) + (gI s (p + 2) - 128)) 3 2048 else (0, 0)) else (0, 0))
  else if 240 ≤ gI s p ∧ gI s p < 248 then (if goesOn s (p + 1) = true then (if goesOn s (p + 2) = true then (if goesOn s (p + 3) = true then finP (64 * (64 * (64 * (gI s p - 240) + (gI s (p + 1) - 128)) + (gI s (p + 2) - 128)) + (gI s (p + 3) - 128)) 4 65536 else (0, 0)) else (0, 0)) else (0, 0))
  else (0, 0)
theorem j2_f (k : Nat) (s : ByteArray) (p : Nat) (n z least : Int) : polyglotref03_Point.j2 (k + 1) s p n z least = polyglotref03_Point.l0 k s p n z least 1 := by
  rw [polyglotref03_Point.j2.eq_def]
theorem point_f (k : Nat) (s : ByteArray) (p : Nat) (h : p < s.size) (hs : s.size < 4294967296) : polyglotref03_Point.f (k + 8) s p = some (ptP s p) := by
  unfold polyglotref03_Point.f ptP
  have hr := gI_range s p
  have r1 := gI_range s (p + 1)
  have r2 := gI_range s (p + 2)
  have r3 := gI_range s (p + 3)
  have hp : p < 4294967296 := by omega
  rw [if_pos (by omega), if_pos (by omega), bt_gI s p h, wrap_id (n := gI s p) (by omega) (by omega)]
  by_cases h1 : gI s p < 128
  · rw [if_pos h1, if_pos h1]
  rw [if_neg h1, if_neg h1]
  have e1 : (1 : Int) = ((1 : Nat) : Int) := rfl
  by_cases h2 : 192 ≤ gI s p ∧ gI s p < 224
  · rw [if_pos h2.1, if_pos h2, polyglotref03_Point.j0.eq_def]
    simp only [h2.2, decide_true, if_true]
    rw [wrap_id (by omega) (by omega), j2_f, e1, l0_step _ _ _ _ _ _ _ (by omega) (by omega) hp (by omega)]; simp only [Nat.reduceAdd]
    by_cases g1 : goesOn s (p + 1) = true
    · rw [if_pos g1, if_pos g1]; exact l0_end _ _ _ _ _ _
    · rw [if_neg g1, if_neg g1]
  rw [if_neg h2]
  by_cases h3 : 224 ≤ gI s p ∧ gI s p < 240
  · rw [if_pos (show gI s p ≥ 192 by omega), if_pos h3, polyglotref03_Point.j0.eq_def]
    simp only [show ¬ gI s p < 224 by omega, decide_false, show gI s p ≥ 224 by omega, if_true, Bool.false_eq_true, if_false]
    rw [polyglotref03_Point.j1.eq_def]
    simp only [h3.2, decide_true, if_true]
    rw [wrap_id (by omega) (by omega), j2_f, e1, l0_step _ _ _ _ _ _ _ (by omega) (by omega) hp (by omega)]; simp only [Nat.reduceAdd]
    by_cases g1 : goesOn s (p + 1) = true
    · rw [if_pos g1, if_pos g1]
      have q1 := of_decide_eq_true (Bool.and_eq_true_iff.mp (Bool.and_eq_true_iff.mp g1).2).1
      have q2 := of_decide_eq_true (Bool.and_eq_true_iff.mp (Bool.and_eq_true_iff.mp g1).2).2
      rw [l0_step _ _ _ _ _ _ _ (by omega) (by omega) hp (by omega)]; simp only [Nat.reduceAdd]
      by_cases g2 : goesOn s (p + 2) = true
      · rw [if_pos g2, if_pos g2]; exact l0_end _ _ _ _ _ _
      · rw [if_neg g2, if_neg g2]
    · rw [if_neg g1, if_neg g1]
  rw [if_neg h3]
  by_cases h4 : 240 ≤ gI s p ∧ gI s p < 248
  · rw [if_pos (show gI s p ≥ 192 by omega), if_pos h4, polyglotref03_Point.j0.eq_def]
    simp only [show ¬ gI s p < 224 by omega, decide_false, show gI s p ≥ 224 by omega, if_true, Bool.false_eq_true, if_false]
    rw [polyglotref03_Point.j1.eq_def]
    simp only [show ¬ gI s p < 240 by omega, decide_false, show gI s p ≥ 240 by omega, h4.2, if_true, Bool.false_eq_true, if_false]
    rw [wrap_id (by omega) (by omega), j2_f, e1, l0_step _ _ _ _ _ _ _ (by omega) (by omega) hp (by omega)]; simp only [Nat.reduceAdd]
    by_cases g1 : goesOn s (p + 1) = true
    · rw [if_pos g1, if_pos g1]
      have q1 := of_decide_eq_true (Bool.and_eq_true_iff.mp (Bool.and_eq_true_iff.mp g1).2).1
      have q2 := of_decide_eq_true (Bool.and_eq_true_iff.mp (Bool.and_eq_true_iff.mp g1).2).2
      rw [l0_step _ _ _ _ _ _ _ (by omega) (by omega) hp (by omega)]; simp only [Nat.reduceAdd]
      by_cases g2 : goesOn s (p + 2) = true
      · rw [if_pos g2, if_pos g2]
        have u1 := of_decide_eq_true (Bool.and_eq_true_iff.mp (Bool.and_eq_true_iff.mp g2).2).1
        have u2 := of_decide_eq_true (Bool.and_eq_true_iff.mp (Bool.and_eq_true_iff.mp g2).2).2
        rw [l0_step _ _ _ _ _ _ _ (by omega) (by omega) hp (by omega)]; simp only [Nat.reduceAdd]
        by_cases g3 : goesOn s (p + 3) = true
        · rw [if_pos g3, if_pos g3]; exact l0_end _ _ _ _ _ _
        · rw [if_neg g3, if_neg g3]
      · rw [if_neg g2, if_neg g2]
    · rw [if_neg g1, if_neg g1]
  rw [if_neg h4]
  by_cases h5 : gI s p ≥ 192
  · rw [if_pos h5, polyglotref03_Point.j0.eq_def]
    simp only [show ¬ gI s p < 224 by omega, decide_false, show gI s p ≥ 224 by omega, if_true, Bool.false_eq_true, if_false]
    rw [polyglotref03_Point.j1.eq_def]
    simp only [show ¬ gI s p < 240 by omega, decide_false, show gI s p ≥ 240 by omega, show ¬ gI s p < 248 by omega, if_true, Bool.false_eq_true, if_false]
  · rw [if_neg h5, polyglotref03_Point.j0.eq_def]
    simp only [show ¬ gI s p ≥ 224 by omega, Bool.false_eq_true, if_false]
    rw [polyglotref03_Point.j1.eq_def]
    simp only [show ¬ gI s p ≥ 240 by omega, Bool.false_eq_true, if_false]

theorem whole_iff (s : ByteArray) (p : Nat) (h : p < s.size) :
    wholeB (s.extract p s.size) = (decide (p + 2 < s.size) && (decide (gI s p = 239) && (decide (gI s (p + 1) = 191) && decide (gI s (p + 2) = 189)))) := by
  unfold wholeB
  have hsz : (s.extract p s.size).size = s.size - p := by simp
  rw [hsz]
  by_cases h3 : p + 2 < s.size
  · have e : ((s.extract p s.size).extract 0 3).toList = [s.get! p, s.get! (p + 1), s.get! (p + 2)] := by
      have hl : s.data.toList.length = s.size := by simp
      have d0 := List.drop_eq_getElem_cons (l := s.data.toList) (i := p) (by omega)
      have d1 := List.drop_eq_getElem_cons (l := s.data.toList) (i := p + 1) (by omega)
      have d2 := List.drop_eq_getElem_cons (l := s.data.toList) (i := p + 1 + 1) (by omega)
      have g : ∀ i (hi : i < s.size), s.get! i = s.data.toList[i]'(by omega) := by
        intro i hi
        rw [get!_in s i hi, Array.getElem_toList]
        rfl
      rw [Lib.toList_data, ByteArray.data_extract, ByteArray.data_extract, Array.toList_extract, Array.toList_extract, List.extract_eq_take_drop, List.extract_eq_take_drop, List.drop_zero, List.take_take, d0, d1, d2, g p h, g (p + 1) (by omega), g (p + 2) (by omega)]
      rw [show min (3 - 0) (s.size - p) = 3 by omega]
      rfl
    rw [e, decide_eq_true (show 3 ≤ s.size - p by omega), decide_eq_true h3, Bool.true_and, Bool.true_and]
    have hx : ∀ (x : UInt8) (n : Nat) (hn : n < 256), (x == UInt8.ofNat n) = decide ((x.toNat : Int) = (n : Int)) := by
      intro x n hn
      rw [Bool.eq_iff_iff, beq_iff_eq, decide_eq_true_iff]
      constructor
      · rintro rfl
        have := UInt8.toNat_ofNat_of_lt' (n := n) (by simpa using hn)
        omega
      · intro q
        apply UInt8.toNat_inj.mp
        have := UInt8.toNat_ofNat_of_lt' (n := n) (by simpa using hn)
        omega
    show ((s.get! p == UInt8.ofNat 239) && ((s.get! (p + 1) == UInt8.ofNat 191) && ((s.get! (p + 2) == UInt8.ofNat 189) && true))) = _
    rw [hx _ 239 (by omega), hx _ 191 (by omega), hx _ 189 (by omega), Bool.and_true]
    rfl
  · rw [decide_eq_false (show ¬ 3 ≤ s.size - p by omega), decide_eq_false h3, Bool.false_and, Bool.false_and]
theorem cont_on (s : ByteArray) (p : Nat) (h : p < s.size) (j : Nat) : (decide (p + j < s.size) && (s.get! (p + j)).toNat / 64 == 2) = goesOn s (p + j) := by
  unfold goesOn gI
  have := UInt8.toNat_lt (s.get! (p + j))
  rw [Bool.eq_iff_iff]
  simp only [Bool.and_eq_true, decide_eq_true_eq, beq_iff_eq]
  omega
theorem on_iff (s : ByteArray) (i : Nat) : goesOn s i = true ↔ (i < s.size ∧ 128 ≤ gI s i ∧ gI s i ≤ 191) := by
  unfold goesOn
  simp only [Bool.and_eq_true, decide_eq_true_eq]
theorem valid_iff (c : Nat) : Utf8.valid (c : Int) = true ↔ (c < 55296 ∨ (57344 ≤ c ∧ c ≤ 1114111)) := by
  unfold Utf8.valid
  simp only [Bool.or_eq_true, Bool.and_eq_true, decide_eq_true_eq]
  omega
theorem fin_cases (n z least : Int) : (finP n z least = (0, 0) ∧ (n < least ∨ n > 1114111 ∨ (n ≥ 55296 ∧ n ≤ 57343))) ∨ (finP n z least = (n, z) ∧ ¬ (n < least ∨ n > 1114111 ∨ (n ≥ 55296 ∧ n ≤ 57343))) := by
  unfold finP
  split
  · rename_i h; exact Or.inl ⟨rfl, h⟩
  · rename_i h; exact Or.inr ⟨rfl, h⟩
set_option maxHeartbeats 2000000 in
theorem point_bad (s : ByteArray) (p : Nat) (h : p < s.size) :
    (badAt s p = true ∧ ((ptP s p).2 = 0 ∨ (ptP s p).1 = 0)) ∨
      (badAt s p = false ∧ (ptP s p).1 ≠ 0 ∧ 1 ≤ (ptP s p).2 ∧ (ptP s p).2 = ((Utf8.decode s p).2 : Int)) := by
  have hb : badAt s p = true ↔ ((Utf8.decode s p).1 = 0 ∨ ((Utf8.decode s p).1 = 65533 ∧ ¬ (p + 2 < s.size ∧ gI s p = 239 ∧ gI s (p + 1) = 191 ∧ gI s (p + 2) = 189))) := by
    unfold badAt
    rw [whole_iff s p h]
    simp only [Bool.or_eq_true, beq_iff_eq, Bool.and_eq_true, Bool.not_eq_true', Bool.and_eq_false_iff, decide_eq_false_iff_not]
    omega
  have hb' : badAt s p = false ↔ ¬ badAt s p = true := by simp
  rw [hb', hb]
  clear hb hb'
  have e1 : gI s (p + 1) = ((s.get! (p + 1)).toNat : Int) := rfl
  have e2 : gI s (p + 2) = ((s.get! (p + 2)).toNat : Int) := rfl
  have e3 : gI s (p + 3) = ((s.get! (p + 3)).toNat : Int) := rfl
  have e0 : gI s p = ((s.get! p).toNat : Int) := rfl
  have r0 := UInt8.toNat_lt (s.get! p)
  have r1 := UInt8.toNat_lt (s.get! (p + 1))
  have r2 := UInt8.toNat_lt (s.get! (p + 2))
  have r3 := UInt8.toNat_lt (s.get! (p + 3))
  have c1 := on_iff s (p + 1)
  have c2 := on_iff s (p + 2)
  have c3 := on_iff s (p + 3)
  unfold ptP
  simp only [Utf8.decode, Bool.and_assoc, cont_on s p h, Nat.add_zero]
  simp only [e0, e1, e2, e3] at c1 c2 c3 ⊢
  obtain ⟨b0, hb0⟩ : ∃ b, b = (s.get! p).toNat := ⟨_, rfl⟩
  rw [← hb0] at r0
  obtain ⟨b1, hb1⟩ : ∃ b, b = (s.get! (p + 1)).toNat := ⟨_, rfl⟩
  rw [← hb1] at r1
  obtain ⟨b2, hb2⟩ : ∃ b, b = (s.get! (p + 2)).toNat := ⟨_, rfl⟩
  rw [← hb2] at r2
  obtain ⟨b3, hb3⟩ : ∃ b, b = (s.get! (p + 3)).toNat := ⟨_, rfl⟩
  rw [← hb3] at r3
  simp only [← hb0, ← hb1, ← hb2, ← hb3] at c1 c2 c3 ⊢
  clear e0 e1 e2 e3 hb0 hb1 hb2 hb3
  generalize goesOn s (p + 1) = q1 at *
  generalize goesOn s (p + 2) = q2 at *
  generalize goesOn s (p + 3) = q3 at *
  generalize s.size = z at *
  have k1 : (q1 = true ∧ (p + 1 < z ∧ 128 ≤ b1 ∧ b1 ≤ 191)) ∨ (q1 = false ∧ ¬ (p + 1 < z ∧ 128 ≤ b1 ∧ b1 ≤ 191)) := by cases q1 <;> simp at c1 ⊢ <;> omega
  have k2 : (q2 = true ∧ (p + 2 < z ∧ 128 ≤ b2 ∧ b2 ≤ 191)) ∨ (q2 = false ∧ ¬ (p + 2 < z ∧ 128 ≤ b2 ∧ b2 ≤ 191)) := by cases q2 <;> simp at c2 ⊢ <;> omega
  have k3 : (q3 = true ∧ (p + 3 < z ∧ 128 ≤ b3 ∧ b3 ≤ 191)) ∨ (q3 = false ∧ ¬ (p + 3 < z ∧ 128 ≤ b3 ∧ b3 ≤ 191)) := by cases q3 <;> simp at c3 ⊢ <;> omega
  clear c1 c2 c3
  by_cases a1 : b0 < 128
  · rw [if_pos (show (b0 : Int) < 128 by omega), if_pos a1]
    dsimp only
    (try dsimp only); (try simp only [true_or, or_true, true_and, and_true, false_or, or_false, false_and, and_false, ne_eq, not_true_eq_false, not_false_eq_true]); first | done | omega
  rw [if_neg (show ¬ (b0 : Int) < 128 by omega), if_neg a1]
  by_cases a2 : b0 / 32 = 6
  · rw [if_pos (show 192 ≤ (b0 : Int) ∧ (b0 : Int) < 224 by omega)]
    have x6 : (b0 / 32 == 6) = true := beq_iff_eq.mpr a2
    have x14 : (b0 / 16 == 14) = false := beq_eq_false_iff_ne.mpr (by omega)
    have x30 : (b0 / 8 == 30) = false := beq_eq_false_iff_ne.mpr (by omega)
    rcases k1 with ⟨rfl, k1⟩ | ⟨rfl, k1⟩
    · have hv := True.intro
      rcases fin_cases (64 * ((b0 : Int) - 192) + ((b1 : Int) - 128)) 2 128 with ⟨e_, hf⟩ | ⟨e_, hf⟩
      · rw [e_]
        simp only [x6, x14, x30, beq_self_eq_true, Bool.false_and, Bool.true_and, Bool.and_false, Bool.and_true, if_true, Bool.false_eq_true, if_false, Utf8.runeError, ge_iff_le]
        split
        · (try dsimp only); (try simp only [true_or, or_true, true_and, and_true, false_or, or_false, false_and, and_false, ne_eq, not_true_eq_false, not_false_eq_true]); first | done | omega
        · (try dsimp only); (try simp only [true_or, or_true, true_and, and_true, false_or, or_false, false_and, and_false, ne_eq, not_true_eq_false, not_false_eq_true]); first | done | omega
      · rw [e_]
        simp only [x6, x14, x30, beq_self_eq_true, Bool.false_and, Bool.true_and, Bool.and_false, Bool.and_true, if_true, Bool.false_eq_true, if_false, Utf8.runeError, ge_iff_le]
        split
        · (try dsimp only); (try simp only [true_or, or_true, true_and, and_true, false_or, or_false, false_and, and_false, ne_eq, not_true_eq_false, not_false_eq_true]); first | done | omega
        · (try dsimp only); (try simp only [true_or, or_true, true_and, and_true, false_or, or_false, false_and, and_false, ne_eq, not_true_eq_false, not_false_eq_true]); first | done | omega
    · simp only [x6, x14, x30, beq_self_eq_true, Bool.false_and, Bool.true_and, Bool.and_false, Bool.and_true, if_true, Bool.false_eq_true, if_false, Utf8.runeError, ge_iff_le]
      (try dsimp only); (try simp only [true_or, or_true, true_and, and_true, false_or, or_false, false_and, and_false, ne_eq, not_true_eq_false, not_false_eq_true]); first | done | omega
  rw [if_neg (show ¬ (192 ≤ (b0 : Int) ∧ (b0 : Int) < 224) by omega)]
  have x6 : (b0 / 32 == 6) = false := beq_eq_false_iff_ne.mpr a2
  by_cases a3 : b0 / 16 = 14
  · rw [if_pos (show 224 ≤ (b0 : Int) ∧ (b0 : Int) < 240 by omega)]
    have x14 : (b0 / 16 == 14) = true := beq_iff_eq.mpr a3
    have x30 : (b0 / 8 == 30) = false := beq_eq_false_iff_ne.mpr (by omega)
    rcases k1 with ⟨rfl, k1⟩ | ⟨rfl, k1⟩
    · rcases k2 with ⟨rfl, k2⟩ | ⟨rfl, k2⟩
      · have hv := valid_iff (b0 % 16 * 4096 + b1 % 64 * 64 + b2 % 64)
        rcases fin_cases (64 * (64 * ((b0 : Int) - 224) + ((b1 : Int) - 128)) + ((b2 : Int) - 128)) 3 2048 with ⟨e_, hf⟩ | ⟨e_, hf⟩
        · rw [e_]
          simp only [x6, x14, x30, beq_self_eq_true, Bool.false_and, Bool.true_and, Bool.and_false, Bool.and_true, if_true, Bool.false_eq_true, if_false, Utf8.runeError, ge_iff_le, Bool.and_eq_true, decide_eq_true_eq, hv]
          split
          · (try dsimp only); (try simp only [true_or, or_true, true_and, and_true, false_or, or_false, false_and, and_false, ne_eq, not_true_eq_false, not_false_eq_true]); first | done | omega
          · (try dsimp only); (try simp only [true_or, or_true, true_and, and_true, false_or, or_false, false_and, and_false, ne_eq, not_true_eq_false, not_false_eq_true]); first | done | omega
        · rw [e_]
          simp only [x6, x14, x30, beq_self_eq_true, Bool.false_and, Bool.true_and, Bool.and_false, Bool.and_true, if_true, Bool.false_eq_true, if_false, Utf8.runeError, ge_iff_le, Bool.and_eq_true, decide_eq_true_eq, hv]
          split
          · (try dsimp only); (try simp only [true_or, or_true, true_and, and_true, false_or, or_false, false_and, and_false, ne_eq, not_true_eq_false, not_false_eq_true]); first | done | omega
          · (try dsimp only); (try simp only [true_or, or_true, true_and, and_true, false_or, or_false, false_and, and_false, ne_eq, not_true_eq_false, not_false_eq_true]); first | done | omega
      · simp only [x6, x14, x30, beq_self_eq_true, Bool.false_and, Bool.true_and, Bool.and_false, Bool.and_true, if_true, Bool.false_eq_true, if_false, Utf8.runeError, ge_iff_le]
        (try dsimp only); (try simp only [true_or, or_true, true_and, and_true, false_or, or_false, false_and, and_false, ne_eq, not_true_eq_false, not_false_eq_true]); first | done | omega
    · simp only [x6, x14, x30, beq_self_eq_true, Bool.false_and, Bool.true_and, Bool.and_false, Bool.and_true, if_true, Bool.false_eq_true, if_false, Utf8.runeError, ge_iff_le]
      (try dsimp only); (try simp only [true_or, or_true, true_and, and_true, false_or, or_false, false_and, and_false, ne_eq, not_true_eq_false, not_false_eq_true]); first | done | omega
  rw [if_neg (show ¬ (224 ≤ (b0 : Int) ∧ (b0 : Int) < 240) by omega)]
  have x14 : (b0 / 16 == 14) = false := beq_eq_false_iff_ne.mpr a3
  by_cases a4 : b0 / 8 = 30
  · rw [if_pos (show 240 ≤ (b0 : Int) ∧ (b0 : Int) < 248 by omega)]
    have x30 : (b0 / 8 == 30) = true := beq_iff_eq.mpr a4
    rcases k1 with ⟨rfl, k1⟩ | ⟨rfl, k1⟩
    · rcases k2 with ⟨rfl, k2⟩ | ⟨rfl, k2⟩
      · rcases k3 with ⟨rfl, k3⟩ | ⟨rfl, k3⟩
        · have hv := valid_iff (b0 % 8 * 262144 + b1 % 64 * 4096 + b2 % 64 * 64 + b3 % 64)
          rcases fin_cases (64 * (64 * (64 * ((b0 : Int) - 240) + ((b1 : Int) - 128)) + ((b2 : Int) - 128)) + ((b3 : Int) - 128)) 4 65536 with ⟨e_, hf⟩ | ⟨e_, hf⟩
          · rw [e_]
            simp only [x6, x14, x30, beq_self_eq_true, Bool.false_and, Bool.true_and, Bool.and_false, Bool.and_true, if_true, Bool.false_eq_true, if_false, Utf8.runeError, ge_iff_le, Bool.and_eq_true, decide_eq_true_eq, hv]
            split
            · (try dsimp only); (try simp only [true_or, or_true, true_and, and_true, false_or, or_false, false_and, and_false, ne_eq, not_true_eq_false, not_false_eq_true]); first | done | omega
            · (try dsimp only); (try simp only [true_or, or_true, true_and, and_true, false_or, or_false, false_and, and_false, ne_eq, not_true_eq_false, not_false_eq_true]); first | done | omega
          · rw [e_]
            simp only [x6, x14, x30, beq_self_eq_true, Bool.false_and, Bool.true_and, Bool.and_false, Bool.and_true, if_true, Bool.false_eq_true, if_false, Utf8.runeError, ge_iff_le, Bool.and_eq_true, decide_eq_true_eq, hv]
            split
            · (try dsimp only); (try simp only [true_or, or_true, true_and, and_true, false_or, or_false, false_and, and_false, ne_eq, not_true_eq_false, not_false_eq_true]); first | done | omega
            · (try dsimp only); (try simp only [true_or, or_true, true_and, and_true, false_or, or_false, false_and, and_false, ne_eq, not_true_eq_false, not_false_eq_true]); first | done | omega
        · simp only [x6, x14, x30, beq_self_eq_true, Bool.false_and, Bool.true_and, Bool.and_false, Bool.and_true, if_true, Bool.false_eq_true, if_false, Utf8.runeError, ge_iff_le]
          (try dsimp only); (try simp only [true_or, or_true, true_and, and_true, false_or, or_false, false_and, and_false, ne_eq, not_true_eq_false, not_false_eq_true]); first | done | omega
      · simp only [x6, x14, x30, beq_self_eq_true, Bool.false_and, Bool.true_and, Bool.and_false, Bool.and_true, if_true, Bool.false_eq_true, if_false, Utf8.runeError, ge_iff_le]
        (try dsimp only); (try simp only [true_or, or_true, true_and, and_true, false_or, or_false, false_and, and_false, ne_eq, not_true_eq_false, not_false_eq_true]); first | done | omega
    · simp only [x6, x14, x30, beq_self_eq_true, Bool.false_and, Bool.true_and, Bool.and_false, Bool.and_true, if_true, Bool.false_eq_true, if_false, Utf8.runeError, ge_iff_le]
      (try dsimp only); (try simp only [true_or, or_true, true_and, and_true, false_or, or_false, false_and, and_false, ne_eq, not_true_eq_false, not_false_eq_true]); first | done | omega
  rw [if_neg (show ¬ (240 ≤ (b0 : Int) ∧ (b0 : Int) < 248) by omega)]
  have x30 : (b0 / 8 == 30) = false := beq_eq_false_iff_ne.mpr a4
  simp only [x6, x14, x30, beq_self_eq_true, Bool.false_and, Bool.true_and, Bool.and_false, Bool.and_true, if_true, Bool.false_eq_true, if_false, Utf8.runeError, ge_iff_le]
  (try dsimp only); (try simp only [true_or, or_true, true_and, and_true, false_or, or_false, false_and, and_false, ne_eq, not_true_eq_false, not_false_eq_true]); first | done | omega
theorem decode_fits (s : ByteArray) (p : Nat) (h : p < s.size) : p + (Utf8.decode s p).2 ≤ s.size := by
  simp only [Utf8.decode, Bool.and_eq_true, decide_eq_true_eq, beq_iff_eq, Nat.add_zero]
  repeat' split
  all_goals simp only []
  all_goals omega
theorem refBad_f (s : ByteArray) (hs : s.size < 4294967296) : ∀ (b k p : Nat), p ≤ s.size → s.size - p ≤ b → polyglotref03_Bad.l0 (k + b + 9) s p = some (badTo s b p) := by
  intro b
  induction b with
  | zero =>
    intro k p h1 h2
    rw [polyglotref03_Bad.l0.eq_def]
    simp only []
    rw [if_neg (by omega), badTo_end s 0 p (by omega)]
  | succ b ih =>
    intro k p h1 h2
    by_cases hp : p < s.size
    · rw [show k + (b + 1) + 9 = (k + b + 9) + 1 by omega, polyglotref03_Bad.l0.eq_def]
      simp only []
      rw [if_pos (by omega), show k + b + 9 = (k + b + 1) + 8 by omega, point_f _ s p hp hs, badTo]
      simp only [Option.bind_some, hp, if_true]
      rcases point_bad s p hp with ⟨q1, q2⟩ | ⟨q1, q2, q3, q4⟩
      · rw [q1]
        simp only [if_true]
        rcases q2 with q2 | q2 <;> simp [q2]
      · have hw := decode_fits s p hp
        rw [if_neg (show ¬ (ptP s p).2 = 0 by omega), if_neg q2, q1, wrap_id (by omega) (by omega), show k + b + 1 + 8 = k + b + 9 by omega]
        rw [q4, show (p : Int) + ((Utf8.decode s p).2 : Int) = ((p + (Utf8.decode s p).2 : Nat) : Int) by omega]
        rw [ih k (p + (Utf8.decode s p).2) (by omega) (by omega)]
        simp
    · rw [show k + (b + 1) + 9 = (k + b + 9) + 1 by omega, polyglotref03_Bad.l0.eq_def]
      simp only []
      rw [if_neg (by omega), badTo_end s _ p (by omega)]
theorem refValid_f (s : ByteArray) (hs : s.size < 4294967296) (k : Nat) : polyglotref03_Valid.f (k + s.size + 9) s = some (validS s) := by
  unfold polyglotref03_Valid.f validS polyglotref03_Bad.f
  have := refBad_f s hs s.size k 0 (by omega) (by omega)
  rw [show ((0 : Nat) : Int) = 0 from rfl] at this
  rw [this]
  have hp : ∀ b p, badTo s b p = -1 ∨ 0 ≤ badTo s b p := by
    intro b
    induction b with
    | zero => intro p; exact Or.inl rfl
    | succ b ih =>
      intro p
      unfold badTo
      split
      · split
        · exact Or.inr (by omega)
        · exact ih _
      · exact Or.inl rfl
  have := hp s.size 0
  by_cases h : (s.size : Int) ≤ 65535
  · rw [if_pos h]
    simp only [Option.bind_some, h, decide_true, Bool.true_and, Option.some.injEq]
    rw [Bool.eq_iff_iff, decide_eq_true_iff, beq_iff_eq]
    omega
  · rw [if_neg h, decide_eq_false h, Bool.false_and]
end Go.Proofs.Ytngmipfobcaojaa.HA
end

-- YtngmipfobcaojaaHAhNameLaw
section
namespace Go.Proofs.Ytngmipfobcaojaa.HA
open Go.RowKit Go.Proofs.YtngmipfobcaojaaW.PrintWords Go.Proofs.YtngmipfobcaojaaW.PrintLast Go.Proofs.YtngmipfobcaojaaW.PrintMore
set_option linter.unusedVariables false
set_option linter.unusedSimpArgs false
def hasB (s : ByteArray) (c : Int) : Bool := s.data.toList.any fun u => ((u.toNat : Nat) : Int) == c
theorem has_l0 (s : ByteArray) (c : Int) (hs : s.size ≤ 1000000) : ∀ (d k i : Nat), i + d = s.size → d < k → polyglotref04_has.l0 k s c i = some ((s.data.toList.drop i).any fun u => ((u.toNat : Nat) : Int) == c) := by
  intro d
  induction d with
  | zero =>
    intro k i hi hk
    obtain ⟨k, rfl⟩ : ∃ m, k = m + 1 := ⟨k - 1, by omega⟩
    rw [polyglotref04_has.l0.eq_def]
    simp only []
    rw [if_neg (by omega), List.drop_of_length_le (by simp; omega)]
    rfl
  | succ d ih =>
    intro k i hi hk
    obtain ⟨k, rfl⟩ : ∃ m, k = m + 1 := ⟨k - 1, by omega⟩
    rw [polyglotref04_has.l0.eq_def]
    simp only []
    have hlt : i < s.data.toList.length := by simp; omega
    have hb : bt s (i : Int) = ((s.data.toList[i].toNat : Nat) : Int) := by
      rw [← rd_bytesOf]
      unfold rd bytesOf
      rw [List.getD_eq_getElem?_getD, Int.toNat_natCast, List.getElem?_map, List.getElem?_eq_getElem hlt]
      rfl
    rw [if_pos (by omega), if_pos (by omega), hb, List.drop_eq_getElem_cons hlt, List.any_cons]
    by_cases e : ((s.data.toList[i].toNat : Nat) : Int) = c
    · rw [if_pos e, beq_iff_eq.2 e]; rfl
    · rw [if_neg e, beq_eq_false_iff_ne.2 e, show wrap64 ((i : Int) + 1) = ((i + 1 : Nat) : Int) by unfold wrap64; omega, ih k (i + 1) (by omega) (by omega)]
      rfl
theorem has4_f (s : ByteArray) (c : Int) (k : Nat) (hs : s.size ≤ 1000000) (hk : s.size < k) : polyglotref04_has.f k s c = some (hasB s c) := by
  unfold polyglotref04_has.f
  have := has_l0 s c hs s.size k 0 (by omega) hk
  rw [show ((0 : Nat) : Int) = 0 from rfl, List.drop_zero] at this
  exact this
theorem hasB_eq (s : ByteArray) (c : Nat) (hc : c < 256) : hasB s (c : Int) = s.data.toList.contains (UInt8.ofNat c) := by
  unfold hasB
  rw [List.contains_eq_any_beq]
  congr 1
  funext u
  rw [Bool.eq_iff_iff, beq_iff_eq, beq_iff_eq]
  constructor
  · intro h
    have : u.toNat = c := by omega
    rw [← this]
    simp
  · intro h
    subst h
    rw [UInt8.toNat_ofNat_of_lt' (by simpa using hc)]
theorem ref4Name_f (s : ByteArray) (k : Nat) (hs : s.size ≤ 1000) (hk : 1100 ≤ k) : polyglotref04_Name.f k s = some (nameS s) := by
  unfold polyglotref04_Name.f nameS wildIn
  have hv : polyglotref03_Valid.f k s = some (validS s) := by
    have := refValid_f s (by omega) (k - s.size - 9)
    rwa [show k - s.size - 9 + s.size + 9 = k by omega] at this
  have h43 := hasB_eq s 43 (by omega)
  have h35 := hasB_eq s 35 (by omega)
  rw [hv, has4_f s 43 k (by omega) (by omega), has4_f s 35 k (by omega) (by omega)]
  simp only [Option.bind_some]
  rw [show (43 : Int) = ((43 : Nat) : Int) from rfl, show (35 : Int) = ((35 : Nat) : Int) from rfl, h43, h35]
  rw [show UInt8.ofNat 43 = 43 from rfl, show UInt8.ofNat 35 = 35 from rfl]
  by_cases h : s.toList = []
  · simp [h]
  · rw [if_neg h, beq_eq_false_iff_ne.2 h]
    cases validS s <;> cases s.data.toList.contains 43 <;> cases s.data.toList.contains 35 <;> rfl
end Go.Proofs.Ytngmipfobcaojaa.HA
end

-- YtngmipfobcaojaaHAhPick
section
namespace Go.Proofs.Ytngmipfobcaojaa.HA
open Go.RowKit Go.Proofs.YtngmipfobcaojaaW.PrintWords Go.Proofs.YtngmipfobcaojaaW.PrintLast Go.Proofs.YtngmipfobcaojaaW.PrintMore
set_option linter.unusedVariables false
set_option linter.unusedSimpArgs false
theorem pick_f (a n : Int) (h1 : -9223372036854775808 ≤ a) (h2 : a ≤ 9223372036854775807) (n1 : 1 ≤ n) (n2 : n ≤ 9223372036854775807) :
    ∃ t, polyglotkit_Pick.f a n = some t ∧ 0 ≤ t ∧ t < n := by
  unfold polyglotkit_Pick.f
  rw [if_neg (by omega), if_neg (by omega)]
  have e : Int.tmod a n = a - n * Int.tdiv a n := by have := Int.mul_tdiv_add_tmod a n; omega
  have hb : Int.tmod a n < n := Int.tmod_lt_of_pos a (by omega)
  have hb2 : - n < Int.tmod a n := by
    by_cases h : 0 ≤ a
    · have := Int.tmod_nonneg n h; omega
    · have h3 : Int.tmod a n = - Int.tmod (-a) n := by rw [Int.neg_tmod]; omega
      have := Int.tmod_lt_of_pos (-a) (show 0 < n by omega)
      omega
  by_cases hn : Int.tmod a n < 0
  · rw [if_pos hn]
    refine ⟨_, rfl, ?_⟩
    unfold wrap64
    omega
  · rw [if_neg hn]
    exact ⟨_, rfl, by omega, hb⟩
theorem wf_i64 {a : Int} (h : (Lit.int .i64 a).wf = true) : -9223372036854775808 ≤ a ∧ a ≤ 9223372036854775807 := by
  simp only [Lit.wf, Bool.and_eq_true, decide_eq_true_eq] at h
  have e1 : IntKind.i64.min = -9223372036854775808 := by decide
  have e2 : IntKind.i64.max = 9223372036854775807 := by decide
  omega
end Go.Proofs.Ytngmipfobcaojaa.HA
end

-- YtngmipfobcaojaaPurePublishIDs
section
namespace Go.Proofs.Ytngmipfobcaojaa.HA
open Go.RowKit Go.Proofs.YtngmipfobcaojaaW.PrintWords Go.Proofs.YtngmipfobcaojaaW.PrintLast Go.Proofs.YtngmipfobcaojaaW.PrintMore
set_option linter.unusedVariables false
set_option linter.unusedSimpArgs false
set_option maxRecDepth 100000 in
theorem lives9_f : polyglotlaw09_lives.f 2000 = some true := by kernel_rfl
theorem wf_u16 {a : Int} (h : (Lit.int .u16 a).wf = true) : 0 ≤ a ∧ a ≤ 65535 := by
  simp only [Lit.wf, Bool.and_eq_true, decide_eq_true_eq] at h
  have e1 : IntKind.u16.min = 0 := by decide
  have e2 : IntKind.u16.max = 65535 := by decide
  omega
theorem nameS_valid {s : ByteArray} (h : nameS s = true) : validS s = true := by
  unfold nameS at h
  simp only [Bool.and_eq_true] at h
  exact h.1.2
end Go.Proofs.Ytngmipfobcaojaa.HA
namespace Go.Proofs.Ytngmipfobcaojaa.Pure
open Go.Proofs.Ytngmipfobcaojaa.HA
open Go.RowKit Go.Proofs.YtngmipfobcaojaaW.PrintWords Go.Proofs.YtngmipfobcaojaaW.PrintLast Go.Proofs.YtngmipfobcaojaaW.PrintMore
set_option linter.unusedVariables false
set_option linter.unusedSimpArgs false
theorem PublishIDs : polyglotlaw09_PublishIDs.Pure := by
  intro a0 a1 a2 a3 hs0 hs1 hw2 hw3
  have hu := wf_u16 hw2
  have hwf := wf_i64 hw3
  refine ⟨2000, ?_⟩
  unfold polyglotlaw09_PublishIDs.f
  rw [lives9_f]
  simp only [Option.bind_some, if_true]
  have hj0 : polyglotlaw09_PublishIDs.j0 2000 a0 a1 a2 a3 true = some true := by
    rw [show (2000 : Nat) = 1999 + 1 from rfl, polyglotlaw09_PublishIDs.j0.eq_def]
    simp only [if_true]
  by_cases h0 : (a0.size : Int) > 300
  · rw [if_pos h0]; exact hj0
  rw [if_neg h0]
  by_cases h1 : (a1.size : Int) > 300
  · rw [if_pos h1]; exact hj0
  rw [if_neg h1, ref4Name_f a0 2000 (by omega) (by omega)]
  simp only [Option.bind_some]
  cases hn : nameS a0 with
  | false => exact hj0
  | true =>
    have hval := nameS_valid hn
    rw [Bool.not_true, show (2000 : Nat) = 1999 + 1 from rfl, polyglotlaw09_PublishIDs.j0.eq_def]
    simp only [Bool.false_eq_true, if_false]
    obtain ⟨t, ht, ht0, ht1⟩ := pick_f a3 3 hwf.1 hwf.2 (by omega) (by omega)
    rw [ht]
    simp only [Option.bind_some]
    have hwr : wrap64 a2 = a2 := w64 _ (by omega) (by omega)
    have hV := validP_f 1999 (by omega) 4 t a2 a0 a1 [] (Or.inl rfl) ⟨ht0, by omega⟩ (Or.inl rfl)
    have hb0 : (bytesS 3 []).2 = 0 := by kernel_rfl
    have hP : validP 4 t a2 a0 [] = if (decide (t > 0) == decide (a2 > 0)) = true then 0 else 2 := by
      unfold validP fieldsS
      rw [hn, hb0]
      simp only [List.length_nil]
      by_cases q : t = 0
      · subst q
        by_cases r : a2 = 0
        · subst r; simp
        · have : 0 < a2 := by omega
          simp [r, this]
      · have q2 : 0 < t := by omega
        by_cases r : 0 < a2
        · have r2 : a2 < 65536 := by omega
          simp [q, q2, r, r2]
        · simp [q, q2, r]
    have hT : ustring_Text.f 1999 a0 = some (putS a0.size 2 ++ a0, 0) := by
      have hp := put_f 1999 a0.size 2 (by omega) (by omega) (by omega)
      rw [show ((2 : Nat) : Int) = 2 from rfl] at hp
      have hz := putS_size (a0.size : Int) 2
      unfold ustring_Text.f ustring_framed.f
      rw [valid_f, hval]
      simp only [Option.bind_some, if_true]
      rw [if_pos (by omega), hp]
      simp only [Option.bind_some]
      rw [if_pos (by omega)]
      rfl
    have hz := putS_size (a0.size : Int) 2
    have hz2 := putS_size a2 2
    unfold publish_Body.f
    rw [hwr, hV, hP]
    simp only [Option.bind_some]
    cases hr : (decide (t > 0) == decide (a2 > 0)) with
    | false =>
      simp
    | true =>
      simp only [if_true]
      rw [hT]
      simp only [Option.bind_some]
      by_cases q : t = 0
      · subst q
        simp only [if_true]
        rw [if_neg (by omega), if_pos (by simp only [ByteArray.size_append]; omega)]
        simp only [Option.bind_some]
        have hsz : ((putS (a0.size : Int) 2 ++ a0 ++ a1).size : Int) ≥ 2 := by simp only [ByteArray.size_append]; omega
        have he := extract_mid9 (putS (a0.size : Int) 2) (a0 ++ a1)
        rw [← ByteArray.append_assoc, hz] at he
        rw [if_neg (by simp), if_neg (by omega), if_pos hsz, if_pos (show (2 : Int) ≤ _ from hsz), if_pos (by omega), he]
        simp
      · rw [if_neg q]
        have hu64 : IntKind.u64.wrap a2 = a2 := u64w _ (by omega) (by omega)
        have hp := put_f 1999 a2 2 (by omega) (by omega) (by omega)
        rw [show ((2 : Nat) : Int) = 2 from rfl] at hp
        rw [hu64, hp]
        simp only [Option.bind_some]
        rw [if_pos (by simp only [ByteArray.size_append]; omega), if_neg (by omega), if_pos (by simp only [ByteArray.size_append]; omega)]
        simp only [Option.bind_some]
        have e2 : strOfNums [a2 / 256 % 256, a2 % 256] = putS a2 2 := (put2_9 a2).symm
        have hsz : ((putS (a0.size : Int) 2 ++ a0 ++ putS a2 2 ++ a1).size : Int) ≥ 2 := by simp only [ByteArray.size_append]; omega
        have he := extract_mid9 (putS (a0.size : Int) 2) (a0 ++ putS a2 2 ++ a1)
        rw [← ByteArray.append_assoc, ← ByteArray.append_assoc, hz] at he
        rw [if_neg (by simp), if_pos (by omega), e2, if_pos (by omega), if_pos hsz, if_pos (show (2 : Int) ≤ _ from hsz), if_pos (by simp only [ByteArray.size_append]; omega), he]
        simp
end Go.Proofs.Ytngmipfobcaojaa.Pure
end

-- YtngmipfobcaojaaLawPublishIDs
section
namespace Go.Proofs.Ytngmipfobcaojaa.publishIDs
open Go.ChangeShapes Go.WideShapes Go.ChangeAt Go.RowKit
open Go.ChangeMaps (open_string shut_string)
set_option linter.unusedVariables false
theorem own : ownKnob Try.prog.godebug = none := by kernel_rfl
set_option maxRecDepth 100000 in
theorem lifted (os : Os) (started : os.Started) (H : Type) (enc : TypeId × Value → H) :
    ReturnsInHanded {} Try.checked os 7 .any (Rows.publishIDsSpec.pre6 enc Try.prog Try.f7 Rows.publishIDsRow.domain false) (Rows.publishIDsSpec.post enc Try.prog Try.f7 false true false false) := by
  refine returnsInHanded_of_change_sized (C := Try.checked) own started (by kernel_rfl) Try.func7
    (ChangeSpec.witness6 (enc := enc) (C := Try.checked) false ⟨#[], #[.string ByteArray.empty, .string ByteArray.empty, .int .u16 0, .int .i64 0], []⟩ 8 (by kernel_rfl) (by kernel_rfl) (by kernel_rfl) (by kernel_rfl)) ?_
  intro W base args ds gs before hval0 hW hcnd hsz0 _
  have hsz : (DataW.weightsEach Try.prog (Try.f7.params.toList ++ Rows.publishIDsSpec.plain.varTypes Try.prog) (ds ++ gs)).all (· ≤ reachBytes) = true := hsz0
  have hval : ∀ (j : Nat) t v, Try.f7.params[j]? = some t → args[j]? = some v → Value.okWide Try.prog W .any base t v := hval0
  have hW' := hW
  obtain ⟨p, q, hA0, hV, rfl, hfz, hnd⟩ := hW
  have hA : DataW.TrodAll enc Try.prog W 0 (fun _ => true) true Try.f7.params.toList args.toList ds p := hA0
  rw [Try.params7] at hA hval hsz
  obtain ⟨v0, vs0, d0, ds0, p0, q0, hargs, rfl, rfl, h0, r0⟩ := trodAll_cons hA
  obtain ⟨v1, vs1, d1, ds1, p1, q1, rfl, rfl, rfl, h1, r1⟩ := trodAll_cons r0
  obtain ⟨v2, vs2, d2, ds2, p2, q2, rfl, rfl, rfl, h2, r2⟩ := trodAll_cons r1
  obtain ⟨v3, vs3, d3, ds3, p3, q3, rfl, rfl, rfl, h3, r3⟩ := trodAll_cons r2
  obtain ⟨rfl, rfl, rfl⟩ := trodAll_nil r3
  obtain rfl : args = #[v0, v1, v2, v3] := by cases args; simp_all
  obtain ⟨rfl, rfl⟩ := trodVars_none hV
  obtain ⟨a0, rfl, rfl, rfl, y0⟩ := open_string Try.underlying9 (hval 0 9 v0 rfl rfl) h0
  have w0 : a0.size ≤ 140737488351232 := by
    have z := sized_string hsz (j := 0) (t := 9) rfl rfl
    rw [Array.length_toList] at z
    exact z
  obtain ⟨a1, rfl, rfl, rfl, y1⟩ := open_string Try.underlying9 (hval 1 9 v1 rfl rfl) h1
  have w1 : a1.size ≤ 140737488351232 := by
    have z := sized_string hsz (j := 1) (t := 9) rfl rfl
    rw [Array.length_toList] at z
    exact z
  obtain ⟨a2, rfl, rfl, rfl, w2⟩ := open_int Try.underlying43 (hval 2 43 v2 rfl rfl) h2
  obtain ⟨a3, rfl, rfl, rfl, w3⟩ := open_int Try.underlying3 (hval 3 3 v3 rfl rfl) h3
  clear hA0 hval0 hsz0 hsz
  refine (HA.polyglotlaw09_PublishIDs.walk Pure.PublishIDs a0 a1 a2 a3 W w0 w1 w2 w3).mono fun e W' ⟨he, bel⟩ => ?_
  subst he
  exact ⟨_, rfl, _, _, _, [], _, [], hW', trodAll_mk1 (shut_bool Try.underlying4 _), (trodAll_cons_mk (shut_string Try.underlying9 y0) (trodAll_cons_mk (shut_string Try.underlying9 y1) (trodAll_cons_mk (shut_int Try.underlying43 w2) (trodAll_cons_mk (shut_int Try.underlying3 w3) trodAll_mk0)))), rfl, bel.frame _, fun h => by cases h⟩
theorem over : Rows.publishIDsRow.holds Try.pinned (OpenSpec.ofChange Rows.publishIDsSpec) :=
  OpenClaim.holds_of_wide 7 Try.f7 rfl rfl rfl rfl rfl rfl rfl ⟨rfl, rfl, rfl, rfl, rfl⟩ rfl rfl rfl rfl rfl (by kernel_rfl) Try.func7 (by kernel_rfl)
    (of_decide_eq_true (by kernel_rfl)) (by unfold Func.isWrapper; first | (rw [if_pos (by decide +kernel)]; kernel_rfl) | (rw [if_neg (by decide +kernel)]; exact ⟨rfl, rfl⟩))
    (fun os started H enc _ => lifted os started H enc)
theorem proved : Rows.PublishIDsSaid := over
#print axioms proved
end Go.Proofs.Ytngmipfobcaojaa.publishIDs
namespace Go.Proofs.Ytngmipfobcaojaa
theorem publishIDs_holds : Rows.PublishIDsSaid := publishIDs.proved
end Go.Proofs.Ytngmipfobcaojaa
end
