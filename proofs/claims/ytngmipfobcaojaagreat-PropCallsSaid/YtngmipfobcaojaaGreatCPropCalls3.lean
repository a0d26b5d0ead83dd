/- A part of the proof: texts that were built one by one, laid together. -/
import Derived.Test.YtngmipfobcaojaaGreatCPropCalls1
import Derived.Test.YtngmipfobcaojaaGreatCPropCalls2
set_option linter.unusedVariables false
set_option linter.unusedSimpArgs false
-- YtngmipfobcaojaaGreatHA66
section
namespace Go.Proofs.YtngmipfobcaojaaGreat.HA
open Go.RowKit Go.Proofs.YtngmipfobcaojaaGreatW.PrintWords Go.Proofs.YtngmipfobcaojaaGreatW.PrintLast Go.Proofs.YtngmipfobcaojaaGreatW.PrintMore
attribute [local go_sem] q1k q1j q1s q1t q1a q19 q1h q1i

mutual
def qn.j0 : Nat → Int → Bool → Option (Int × List Int × Int × Int)
 | 0, _, _ => none
 | k + 1, x3, x12 => if x12 = true then ((q1l.f 5 (([3, 16] : List Int))).bind fun bt262 => (some (bt262.1, bt262.2.1, bt262.2.2.1, bt262.2.2.2))) else (if x3 = 9 then ((q1l.f 6 (([3, 16] : List Int))).bind fun bt271 => (some (bt271.1, bt271.2.1, bt271.2.2.1, bt271.2.2.2))) else (if x3 = 11 then (some (4, (([3, 8] : List Int)), 1, 268435455)) else (if x3 = 17 then ((polyglotref05_four.f (([1, 2, 14] : List Int)) 0).bind fun bt283 => (some (bt283.1, bt283.2.1, bt283.2.2.1, bt283.2.2.2))) else (if x3 = 18 then (qn.j1 k x3 (x3 == 18)) else (qn.j1 k x3 (x3 == 26))))))
def qn.j1 : Nat → Int → Bool → Option (Int × List Int × Int × Int)
 | 0, _, _ => none
 | k + 1, x3, x29 => if x29 = true then ((q1l.f 5 (([2] : List Int))).bind fun bt292 => (some (bt292.1, bt292.2.1, bt292.2.2.1, bt292.2.2.2))) else (if x3 = 19 then ((polyglotref05_two.f (([2] : List Int)) 0).bind fun bt301 => (some (bt301.1, bt301.2.1, bt301.2.2.1, bt301.2.2.2))) else (if x3 = 21 then ((q1l.f 5 (([1, 2, 15] : List Int))).bind fun bt310 => (some (bt310.1, bt310.2.1, bt310.2.2.1, bt310.2.2.2))) else (if x3 = 22 then ((q1l.f 6 (([1, 2, 15] : List Int))).bind fun bt319 => (some (bt319.1, bt319.2.1, bt319.2.2.1, bt319.2.2.2))) else (if x3 = 23 then (qn.j2 k x3 (x3 == 23)) else (qn.j2 k x3 (x3 == 25))))))
def qn.j2 : Nat → Int → Bool → Option (Int × List Int × Int × Int)
 | 0, _, _ => none
 | k + 1, x3, x46 => if x46 = true then ((polyglotref05_one.f (([1] : List Int))).bind fun bt328 => (some (bt328.1, bt328.2.1, bt328.2.2.1, bt328.2.2.2))) else (if x3 = 24 then ((polyglotref05_four.f (([16] : List Int)) 0).bind fun bt337 => (some (bt337.1, bt337.2.1, bt337.2.2.1, bt337.2.2.2))) else (if x3 = 28 then ((q1l.f 5 (([2, 14] : List Int))).bind fun bt346 => (some (bt346.1, bt346.2.1, bt346.2.2.1, bt346.2.2.2))) else (if x3 = 31 then ((q1l.f 5 (([2, 4, 5, 6, 7, 9, 11, 14, 15] : List Int))).bind fun bt355 => (some (bt355.1, bt355.2.1, bt355.2.2.1, bt355.2.2.2))) else (if x3 = 33 then ((polyglotref05_two.f (([1, 2] : List Int)) 1).bind fun bt364 => (some (bt364.1, bt364.2.1, bt364.2.2.1, bt364.2.2.2))) else (if x3 = 34 then ((polyglotref05_two.f (([1, 2] : List Int)) 0).bind fun bt373 => (some (bt373.1, bt373.2.1, bt373.2.2.1, bt373.2.2.2))) else (if x3 = 35 then ((polyglotref05_two.f (([3] : List Int)) 1).bind fun bt382 => (some (bt382.1, bt382.2.1, bt382.2.2.1, bt382.2.2.2))) else (if x3 = 36 then (qn.j3 k x3 (x3 == 36)) else (if x3 = 37 then (qn.j3 k x3 (x3 == 37)) else (if x3 = 40 then (qn.j3 k x3 (x3 == 40)) else (if x3 = 41 then (qn.j3 k x3 (x3 == 41)) else (qn.j3 k x3 (x3 == 42))))))))))))
def qn.j3 : Nat → Int → Bool → Option (Int × List Int × Int × Int)
 | 0, _, _ => none
 | k + 1, x3, x75 => if x75 = true then ((polyglotref05_one.f (([2] : List Int))).bind fun bt391 => (some (bt391.1, bt391.2.1, bt391.2.2.1, bt391.2.2.2))) else (if x3 = 38 then ((q1l.f 7 (([1, 2, 3, 4, 5, 6, 7, 8, 9, 10, 11, 14, 15, 16] : List Int))).bind fun bt400 => (some (bt400.1, bt400.2.1, bt400.2.2.1, bt400.2.2.2))) else (if x3 = 39 then ((polyglotref05_four.f (([1, 2] : List Int)) 1).bind fun bt409 => (some (bt409.1, bt409.2.1, bt409.2.2.1, bt409.2.2.2))) else (some (0, ([] : List Int), 0, 0))))
end
def qn.f (k : Nat) (a0 : Int) : Option (Int × List Int × Int × Int) := if a0 = 1 then ((polyglotref05_one.f (([3, 16] : List Int))).bind fun bt244 => (some (bt244.1, bt244.2.1, bt244.2.2.1, bt244.2.2.2))) else (if a0 = 2 then ((polyglotref05_four.f (([3, 16] : List Int)) 0).bind fun bt253 => (some (bt253.1, bt253.2.1, bt253.2.2.1, bt253.2.2.2))) else (if a0 = 3 then (qn.j0 k a0 (a0 == 3)) else (qn.j0 k a0 (a0 == 8))))
theorem z76_0 {p : Prop} (h : p := by repeat (first | (with_reducible first | exact HB.out | apply qg | apply qa | apply qi | refine qw ?_ GE240.out) | exact HB.out)) : p := h
theorem z76_1 {p : Prop} (h : p := by (with_reducible repeat (first | refine qd ?_ _ | refine qf ?_ | refine qc ?_ _)); exact BK240.out) : p := h
theorem z76_2 {p : Prop} (h : p := by kernel_rfl) : p := h
theorem z76_3 {p : Prop} (h : p := by first | rfl | (simp [qq, qp] <;> rfl) | (simp [*, qq, qp] <;> rfl)) : p := h
theorem z76_4 {p : Prop} (h : p := by (try simp only [List.map_toArray, List.map_cons, List.map_nil]); first | done | rfl | (simp only [List.length_drop, List.length_take]; rfl)) : p := h
theorem z76_5 {p : Prop} (h : p := by first | rfl | (simp; done) | (simp [*]; done) | (simp; exact qh _) | exact qh _ | (simp; exact (qh _).symm) | (simp; exact q15 _)) : p := h
theorem z76_6 {p : Prop} (h : p := by repeat (first | (with_reducible first | exact HB.out | apply qg | apply qa | apply qi) | exact HB.out)) : p := h
theorem z76_7 {p : Prop} (h : p := by have := HJ19.out; have := HJ51.out; have := HJ85.out; first | omega | exact Nat.le_refl _) : p := h
set_option maxHeartbeats 8000000 in
set_option maxRecDepth 100000 in
theorem qn.calls (k : Nat) (a0 : Int) (r1 : Int) (r2 : List Int) (r3 : Int) (r4 : Int) (w : World) (h : qn.f k a0 = some (r1, r2, r3, r4)) :
  Calls Tryz.prog 59 #[.int .i64 a0] w fun e w' => ∃ v1_ : Value, e = .returned (.agg #[.int .i64 r1, v1_, .int .u32 r3, .int .u32 r4]) ∧ Kd.R (Kd.int .i64) 3 w' w.heap.size (fun _ => True) v1_ r2 ∧ Below w.heap.size w w' := by
 have hu80 := Tryz.underlying80
 have HB := Aside0.mk (Below.refl w.heap.size w)
 have H : (if a0 = 1 then ((polyglotref05_one.f (([3, 16] : List Int))).bind fun bt244 => (some (bt244.1, bt244.2.1, bt244.2.2.1, bt244.2.2.2))) else (if a0 = 2 then ((polyglotref05_four.f (([3, 16] : List Int)) 0).bind fun bt253 => (some (bt253.1, bt253.2.1, bt253.2.2.1, bt253.2.2.2))) else (if a0 = 3 then (qn.j0 k a0 (a0 == 3)) else (qn.j0 k a0 (a0 == 8))))) = some (r1, r2, r3, r4) := h
 clear h
 by_cases c2 : a0 = 1
 ·rw [if_pos c2] at H
  have c2b0 : (a0 == 1) = true := beq_iff_eq.mpr c2
  have c2b1 : (a0 != 1) = false := bne_eq_false_iff_eq.mpr c2
  clear c2
  obtain ⟨y241, hy241⟩ : ∃ y_ : List Int, y_ = (([3, 16] : List Int)) := ⟨_, rfl⟩
  replace H : ((polyglotref05_one.f y241).bind fun bt244 => (some (bt244.1, bt244.2.1, bt244.2.2.1, bt244.2.2.2))) = some (r1, r2, r3, r4) := by first | (rw [hy241]; with_reducible exact H) | (have H2_ := (Option.bind_some _ _).symm.trans H; rw [hy241]; with_reducible exact H2_) | (have H2_ := (Option.bind_some _ _).symm.trans H; with_reducible exact H2_) | with_reducible exact H | (rw [hy241]; exact H) | exact H
  have Ny241 := Aside0.mk hy241
  clear hy241
  replace H := Option.bind_eq_some_iff.mp H
  obtain ⟨⟨t244, t245, t248, t249⟩, A30, H⟩ := H
  replace H : (some (t244, t245, t248, t249)) = some (r1, r2, r3, r4) := H
  have A3 := Aside0.mk A30
  clear A30
  simp only [Option.some.injEq, Prod.mk.injEq] at H
  obtain ⟨rfl, rfl, rfl, rfl⟩ := H
  go_enter Tryz.func59, Tryz.ntmps59
  go_wp2_with (first | ((with_reducible refine q1c (N := 2) rfl ?_); refine q1r ?hg (N := 2) ?hd (cs := #[.int .i64 0, .slice none 0 0, .int .u32 0, .int .u32 0]) (t := 80) ?hr ?_; (case hd => rfl); (case hg => rfl); (case hr => first | (go_simp; done) | (go_simp; rfl)); intro gb240 hg w4 hbox hb; have n0_ := Aside0.mk (qe z76_6 hb); have n1_ := Aside0.mk (hbox); have n2_ := Aside0.mk ((by rw [hg]; exact (qm z76_6) : w.heap.size ≤ gb240)); have n3_ := Aside0.mk ((by rw [hg]; exact (qm z76_6) : w.heap.size ≤ gb240)); clear HB; have HB := n0_; have BK240 := n1_; have GW240 := n2_; have GE240 := n3_; clear n0_ n1_ n2_ n3_; clear hb hbox hg) | ((with_reducible refine q1c (N := 6) rfl ?_); refine Kd.R_lit (Kd.int .i64) _ 3 ?hg (N := 6) ?hd (xs := ([3, 16] : List Int)) (inner := [.int .i64 3, .int .i64 16]) (ok := fun _ => True) (okp := fun _ => True) ?hr ?hp (fun _ hk => hk) trivial (Below.refl _ _) (Nat.le_refl _) (by simp) ?_; (case hd => rfl); (case hg => rfl); (case hr => first | (go_simp; done) | (go_simp; rfl)); (case hp => exact (Reps.one (show Kd.M (Kd.int .i64) _ _ _ 3 [.int .i64 3] from rfl) (Reps.one (show Kd.M (Kd.int .i64) _ _ _ 16 [.int .i64 16] from rfl) (Reps.none _ _)))); intro v242 w5 ho6 hb hg_ hnew_; clear hg_ hnew_; (first | rw [← Ny241.out] at ho6 | (simp only [Int.reduceToNat] at ho6; rw [← Ny241.out] at ho6)); have n0_ := Aside0.mk (Kd.R_lower ho6 (qm z76_0)); have n1_ := Aside0.mk (qo (g := gb240) (o := .cells #[.int .i64 0, .slice none 0 0, .int .u32 0, .int .u32 0] 80 (0, 0)) z76_1 hb); have n2_ := Aside0.mk (qe z76_0 hb); clear BK240; clear HB; have HO243 := n0_; have BK240 := n1_; have HB := n2_; clear n0_ n1_ n2_; clear hb ho6; obtain ⟨Ao7, co7, eo7⟩ := Kd.R_slice HO243.out; subst eo7) | ((with_reducible refine ql (f := 115) rfl ?_); refine q1b (some 7) rfl rfl Tryz.func115 z76_2 rfl #[.slice Ao7 y241.length co7] rfl z76_4 ?_; (with_reducible refine (polyglotref05_one.calls (fun k_ => some k_ = (.slice Ao7 y241.length co7 : Value).ownBlock) (.slice Ao7 y241.length co7) y241 t244 t245 t248 t249 w _ ?side1 ?side2 A3.out).mono ?_); (case side1 => repeat (first | (with_reducible first | exact HB.out | apply qg | apply qa | apply qi | refine qw ?_ GE240.out) | exact HB.out)); (case side2 => exact Kd.R_tight rfl HO243.out); rintro e w8 ⟨v246, rfl, ho0, hb, hkp⟩; refine ⟨_, rfl, ?_⟩; have n0_ := Aside0.mk (blk_kept z76_1 hkp (fun hs_ => (fun e_ => (Kd.R_ne HO243.out BK240.out (by decide)) e_) hs_)); have n1_ := Aside0.mk (Kd.R_mono (ok' := fun k_ => True) ho0 (fun k_ hk_ => trivial)); have n2_ := Aside0.mk (hb); clear BK240; clear HB; clear HO243; have BK240 := n0_; have HO247 := n1_; have HB := n2_; clear n0_ n1_ n2_; (try clear hb); (try clear hkp); (try clear ho0); have hcz9_0 := zbc BK240 0 (.int .i64 0); have hcz9_1 := zbc BK240 1 (.slice none 0 0); have hcz9_2 := zbc BK240 2 (.int .u32 0); have hcz9_3 := zbc BK240 3 (.int .u32 0); have hfz9_0 := q9 BK240.out 0; have hfz9_1 := q9 BK240.out 1; have hfz9_2 := q9 BK240.out 2; have hfz9_3 := q9 BK240.out 3; obtain ⟨Ao10, co10, eo10⟩ := Kd.R_slice HO247.out; subst eo10))
  refine bodyPost_ret (results_cell_row rfl _ _ gb240 80 #[.int .i64 t244, .slice Ao10 t245.length co10, .int .u32 t248, .int .u32 t249] (0, 0) _ rfl (by (with_reducible repeat (first | refine qd ?_ _ | refine qf ?_ | refine qc ?_ _)); refine qx (cs := #[.int .i64 t244, .slice Ao10 t245.length co10, .int .u32 t248, .int .u32 0]) ?_ 3 _ rfl; (with_reducible repeat (first | refine qd ?_ _ | refine qf ?_ | refine qc ?_ _)); refine qx (cs := #[.int .i64 t244, .slice Ao10 t245.length co10, .int .u32 0, .int .u32 0]) ?_ 2 _ rfl; (with_reducible repeat (first | refine qd ?_ _ | refine qf ?_ | refine qc ?_ _)); refine qx (cs := #[.int .i64 t244, .slice none 0 0, .int .u32 0, .int .u32 0]) ?_ 1 _ rfl; (with_reducible repeat (first | refine qd ?_ _ | refine qf ?_ | refine qc ?_ _)); refine qx (cs := #[.int .i64 0, .slice none 0 0, .int .u32 0, .int .u32 0]) ?_ 0 _ rfl; (with_reducible repeat (first | refine qd ?_ _ | refine qf ?_ | refine qc ?_ _)); exact BK240.out) Tryz.underlying80 rfl z76_2) rfl ?_
  exact ⟨_, z76_3, (by (with_reducible repeat (first | apply Kd.R_alloc | apply Kd.R_drewN | apply Kd.R_drew)); exact Kd.R_mono (Kd.R_far (p := ⟨gb240, 3, none⟩) (Kd.R_far (p := ⟨gb240, 2, none⟩) (Kd.R_far (p := ⟨gb240, 1, none⟩) (Kd.R_far (p := ⟨gb240, 0, none⟩) (Kd.R_types HO247.out BK240.out (by decide)) (fun _ hk => hk.2) (.int .i64 t244)) (fun _ hk => hk.2) (.slice Ao10 t245.length co10)) (fun _ hk => hk.2) (.int .u32 t248)) (fun _ hk => hk.2) (.int .u32 t249)) (fun _ hk => trivial)), z76_0⟩
 rw [if_neg c2] at H
 have c2b0 : (a0 == 1) = false := beq_eq_false_iff_ne.mpr c2
 have c2b1 : (a0 != 1) = true := bne_iff_ne.mpr c2
 by_cases c11 : a0 = 2
 ·rw [if_pos c11] at H
  have c11b0 : (a0 == 2) = true := beq_iff_eq.mpr c11
  have c11b1 : (a0 != 2) = false := bne_eq_false_iff_eq.mpr c11
  clear c11
  obtain ⟨y250, hy250⟩ : ∃ y_ : List Int, y_ = (([3, 16] : List Int)) := ⟨_, rfl⟩
  replace H : ((polyglotref05_four.f y250 0).bind fun bt253 => (some (bt253.1, bt253.2.1, bt253.2.2.1, bt253.2.2.2))) = some (r1, r2, r3, r4) := by first | (rw [hy250]; with_reducible exact H) | (have H2_ := (Option.bind_some _ _).symm.trans H; rw [hy250]; with_reducible exact H2_) | (have H2_ := (Option.bind_some _ _).symm.trans H; with_reducible exact H2_) | with_reducible exact H | (rw [hy250]; exact H) | exact H
  have Ny250 := Aside0.mk hy250
  clear hy250
  replace H := Option.bind_eq_some_iff.mp H
  obtain ⟨⟨t253, t254, t257, t258⟩, A120, H⟩ := H
  replace H : (some (t253, t254, t257, t258)) = some (r1, r2, r3, r4) := H
  have A12 := Aside0.mk A120
  clear A120
  simp only [Option.some.injEq, Prod.mk.injEq] at H
  obtain ⟨rfl, rfl, rfl, rfl⟩ := H
  go_enter Tryz.func59, Tryz.ntmps59
  go_wp2_with (first | ((with_reducible refine q1c (N := 2) rfl ?_); refine q1r ?hg (N := 2) ?hd (cs := #[.int .i64 0, .slice none 0 0, .int .u32 0, .int .u32 0]) (t := 80) ?hr ?_; (case hd => rfl); (case hg => rfl); (case hr => first | (go_simp; done) | (go_simp; rfl)); intro gb240 hg w13 hbox hb; have n0_ := Aside0.mk (qe z76_6 hb); have n1_ := Aside0.mk (hbox); have n2_ := Aside0.mk ((by rw [hg]; exact (qm z76_6) : w.heap.size ≤ gb240)); have n3_ := Aside0.mk ((by rw [hg]; exact (qm z76_6) : w.heap.size ≤ gb240)); clear HB; have HB := n0_; have BK240 := n1_; have GW240 := n2_; have GE240 := n3_; clear n0_ n1_ n2_ n3_; clear hb hbox hg) | ((with_reducible refine q1c (N := 10) rfl ?_); refine Kd.R_lit (Kd.int .i64) _ 3 ?hg (N := 10) ?hd (xs := ([3, 16] : List Int)) (inner := [.int .i64 3, .int .i64 16]) (ok := fun _ => True) (okp := fun _ => True) ?hr ?hp (fun _ hk => hk) trivial (Below.refl _ _) (Nat.le_refl _) (by simp) ?_; (case hd => rfl); (case hg => rfl); (case hr => first | (go_simp; done) | (go_simp; rfl)); (case hp => exact (Reps.one (show Kd.M (Kd.int .i64) _ _ _ 3 [.int .i64 3] from rfl) (Reps.one (show Kd.M (Kd.int .i64) _ _ _ 16 [.int .i64 16] from rfl) (Reps.none _ _)))); intro v251 w14 ho15 hb hg_ hnew_; clear hg_ hnew_; (first | rw [← Ny250.out] at ho15 | (simp only [Int.reduceToNat] at ho15; rw [← Ny250.out] at ho15)); have n0_ := Aside0.mk (Kd.R_lower ho15 (qm z76_0)); have n1_ := Aside0.mk (qo (g := gb240) (o := .cells #[.int .i64 0, .slice none 0 0, .int .u32 0, .int .u32 0] 80 (0, 0)) z76_1 hb); have n2_ := Aside0.mk (qe z76_0 hb); clear BK240; clear HB; have HO252 := n0_; have BK240 := n1_; have HB := n2_; clear n0_ n1_ n2_; clear hb ho15; obtain ⟨Ao16, co16, eo16⟩ := Kd.R_slice HO252.out; subst eo16) | ((with_reducible refine ql (f := 116) rfl ?_); refine q1b (some 11) rfl rfl Tryz.func116 z76_2 rfl #[.slice Ao16 y250.length co16, .int .u32 0] rfl z76_4 ?_; (with_reducible refine (polyglotref05_four.calls (fun k_ => some k_ = (.slice Ao16 y250.length co16 : Value).ownBlock) (.slice Ao16 y250.length co16) y250 0 t253 t254 t257 t258 w _ ?side1 ?side2 A12.out).mono ?_); (case side1 => repeat (first | (with_reducible first | exact HB.out | apply qg | apply qa | apply qi | refine qw ?_ GE240.out) | exact HB.out)); (case side2 => exact Kd.R_tight rfl HO252.out); rintro e w17 ⟨v255, rfl, ho0, hb, hkp⟩; refine ⟨_, rfl, ?_⟩; have n0_ := Aside0.mk (blk_kept z76_1 hkp (fun hs_ => (fun e_ => (Kd.R_ne HO252.out BK240.out (by decide)) e_) hs_)); have n1_ := Aside0.mk (Kd.R_mono (ok' := fun k_ => True) ho0 (fun k_ hk_ => trivial)); have n2_ := Aside0.mk (hb); clear BK240; clear HB; clear HO252; have BK240 := n0_; have HO256 := n1_; have HB := n2_; clear n0_ n1_ n2_; (try clear hb); (try clear hkp); (try clear ho0); have hcz18_0 := zbc BK240 0 (.int .i64 0); have hcz18_1 := zbc BK240 1 (.slice none 0 0); have hcz18_2 := zbc BK240 2 (.int .u32 0); have hcz18_3 := zbc BK240 3 (.int .u32 0); have hfz18_0 := q9 BK240.out 0; have hfz18_1 := q9 BK240.out 1; have hfz18_2 := q9 BK240.out 2; have hfz18_3 := q9 BK240.out 3; obtain ⟨Ao19, co19, eo19⟩ := Kd.R_slice HO256.out; subst eo19))
  refine bodyPost_ret (results_cell_row rfl _ _ gb240 80 #[.int .i64 t253, .slice Ao19 t254.length co19, .int .u32 t257, .int .u32 t258] (0, 0) _ rfl (by (with_reducible repeat (first | refine qd ?_ _ | refine qf ?_ | refine qc ?_ _)); refine qx (cs := #[.int .i64 t253, .slice Ao19 t254.length co19, .int .u32 t257, .int .u32 0]) ?_ 3 _ rfl; (with_reducible repeat (first | refine qd ?_ _ | refine qf ?_ | refine qc ?_ _)); refine qx (cs := #[.int .i64 t253, .slice Ao19 t254.length co19, .int .u32 0, .int .u32 0]) ?_ 2 _ rfl; (with_reducible repeat (first | refine qd ?_ _ | refine qf ?_ | refine qc ?_ _)); refine qx (cs := #[.int .i64 t253, .slice none 0 0, .int .u32 0, .int .u32 0]) ?_ 1 _ rfl; (with_reducible repeat (first | refine qd ?_ _ | refine qf ?_ | refine qc ?_ _)); refine qx (cs := #[.int .i64 0, .slice none 0 0, .int .u32 0, .int .u32 0]) ?_ 0 _ rfl; (with_reducible repeat (first | refine qd ?_ _ | refine qf ?_ | refine qc ?_ _)); exact BK240.out) Tryz.underlying80 rfl z76_2) rfl ?_
  exact ⟨_, z76_3, (by (with_reducible repeat (first | apply Kd.R_alloc | apply Kd.R_drewN | apply Kd.R_drew)); exact Kd.R_mono (Kd.R_far (p := ⟨gb240, 3, none⟩) (Kd.R_far (p := ⟨gb240, 2, none⟩) (Kd.R_far (p := ⟨gb240, 1, none⟩) (Kd.R_far (p := ⟨gb240, 0, none⟩) (Kd.R_types HO256.out BK240.out (by decide)) (fun _ hk => hk.2) (.int .i64 t253)) (fun _ hk => hk.2) (.slice Ao19 t254.length co19)) (fun _ hk => hk.2) (.int .u32 t257)) (fun _ hk => hk.2) (.int .u32 t258)) (fun _ hk => trivial)), z76_0⟩
 rw [if_neg c11] at H
 have c11b0 : (a0 == 2) = false := beq_eq_false_iff_ne.mpr c11
 have c11b1 : (a0 != 2) = true := bne_iff_ne.mpr c11
 have HC20 := Aside0.mk H
 clear H
 go_enter Tryz.func59, Tryz.ntmps59
 go_upto_if 12 with (first | ((with_reducible refine q1c (N := 2) rfl ?_); refine q1r ?hg (N := 2) ?hd (cs := #[.int .i64 0, .slice none 0 0, .int .u32 0, .int .u32 0]) (t := 80) ?hr ?_; (case hd => rfl); (case hg => rfl); (case hr => first | (go_simp; done) | (go_simp; rfl)); intro gb240 hg w21 hbox hb; have n0_ := Aside0.mk (qe z76_6 hb); have n1_ := Aside0.mk (hbox); have n2_ := Aside0.mk ((by rw [hg]; exact (qm z76_6) : w.heap.size ≤ gb240)); have n3_ := Aside0.mk ((by rw [hg]; exact (qm z76_6) : w.heap.size ≤ gb240)); clear HB; have HB := n0_; have BK240 := n1_; have GW240 := n2_; have GE240 := n3_; clear n0_ n1_ n2_ n3_; clear hb hbox hg))
 (try simp only [Act.put, List.setIfInBounds_toArray, List.set_cons_zero, List.set_cons_succ])
 go_cut [12] (fun v12 wc => ∃ (kq : Nat) (x12_19 : Bool), v12 = .bool x12_19 ∧ Aside0 (qn.j0 kq a0 x12_19 = some (r1, r2, r3, r4)) ∧ Aside0 (kq ≤ k) ∧ Aside0 (wc.heap[gb240]? = some (.cells #[.int .i64 0, (.slice none 0 0), .int .u32 0, .int .u32 0] 80 (0, 0))) ∧ Aside0 (Below w.heap.size w wc))
 case first =>
  have H := HC20.out
  clear HC20
  by_cases c22 : a0 = 3
  ·rw [if_pos c22] at H
   have c22b0 : (a0 == 3) = true := beq_iff_eq.mpr c22
   have c22b1 : (a0 != 3) = false := bne_eq_false_iff_eq.mpr c22
   clear c22
   (first | rw [c22b0] | (simp only [i64_w, i32_w]; rw [c22b0]) | skip)
   have H' := Aside0.mk H
   clear H
   go_wp2
   go_meet
   case rel => exact ⟨_, ((a0 == 3)), z76_5, H', ⟨(by first | omega | exact Nat.le_refl _)⟩, ⟨z76_1⟩, ⟨z76_0⟩⟩
  rw [if_neg c22] at H
  have c22b0 : (a0 == 3) = false := beq_eq_false_iff_ne.mpr c22
  have c22b1 : (a0 != 3) = true := bne_iff_ne.mpr c22
  (first | rw [c22b0] | (simp only [i64_w, i32_w]; rw [c22b0]) | skip)
  have H' := Aside0.mk H
  clear H
  go_wp2
  go_meet
  case rel => exact ⟨_, ((a0 == 8)), z76_5, H', ⟨(by first | omega | exact Nat.le_refl _)⟩, ⟨z76_1⟩, ⟨z76_0⟩⟩
 case rest =>
  clear HC20
  clear c2 c2b0 c2b1 c11 c11b0 c11b1
  obtain ⟨kq, x12_19, rfl, HA, HJ19, BK240, HB⟩ := hcut
  cases kq with
  | zero => exact absurd HA.out (by simp [qn.j0])
  | succ kj19 =>
   have H := HA.out
   clear HA
   simp only [qn.j0] at H
   by_cases c23 : x12_19 = true
   ·subst c23
    rw [if_pos rfl] at H
    obtain ⟨y259, hy259⟩ : ∃ y_ : List Int, y_ = (([3, 16] : List Int)) := ⟨_, rfl⟩
    replace H : ((q1l.f 5 y259).bind fun bt262 => (some (bt262.1, bt262.2.1, bt262.2.2.1, bt262.2.2.2))) = some (r1, r2, r3, r4) := by first | (rw [hy259]; with_reducible exact H) | (have H2_ := (Option.bind_some _ _).symm.trans H; rw [hy259]; with_reducible exact H2_) | (have H2_ := (Option.bind_some _ _).symm.trans H; with_reducible exact H2_) | with_reducible exact H | (rw [hy259]; exact H) | exact H
    have Ny259 := Aside0.mk hy259
    clear hy259
    replace H := Option.bind_eq_some_iff.mp H
    obtain ⟨⟨t262, t263, t266, t267⟩, A240, H⟩ := H
    replace H : (some (t262, t263, t266, t267)) = some (r1, r2, r3, r4) := H
    have A24 := Aside0.mk A240
    clear A240
    simp only [Option.some.injEq, Prod.mk.injEq] at H
    obtain ⟨rfl, rfl, rfl, rfl⟩ := H
    go_wp2_with (first | ((with_reducible refine q1c (N := 15) rfl ?_); refine Kd.R_lit (Kd.int .i64) _ 3 ?hg (N := 15) ?hd (xs := ([3, 16] : List Int)) (inner := [.int .i64 3, .int .i64 16]) (ok := fun _ => True) (okp := fun _ => True) ?hr ?hp (fun _ hk => hk) trivial (Below.refl _ _) (Nat.le_refl _) (by simp) ?_; (case hd => rfl); (case hg => rfl); (case hr => first | (go_simp; done) | (go_simp; rfl)); (case hp => exact (Reps.one (show Kd.M (Kd.int .i64) _ _ _ 3 [.int .i64 3] from rfl) (Reps.one (show Kd.M (Kd.int .i64) _ _ _ 16 [.int .i64 16] from rfl) (Reps.none _ _)))); intro v260 w25 ho26 hb hg_ hnew_; clear hg_ hnew_; (first | rw [← Ny259.out] at ho26 | (simp only [Int.reduceToNat] at ho26; rw [← Ny259.out] at ho26)); have n0_ := Aside0.mk (Kd.R_lower ho26 (qm z76_0)); have n1_ := Aside0.mk (qo (g := gb240) (o := .cells #[.int .i64 0, .slice none 0 0, .int .u32 0, .int .u32 0] 80 (0, 0)) z76_1 hb); have n2_ := Aside0.mk (qe z76_0 hb); clear BK240; clear HB; have HO261 := n0_; have BK240 := n1_; have HB := n2_; clear n0_ n1_ n2_; clear hb ho26; obtain ⟨Ao27, co27, eo27⟩ := Kd.R_slice HO261.out; subst eo27) | ((with_reducible refine ql (f := 117) rfl ?_); refine q1b (some 16) rfl rfl Tryz.func117 z76_2 rfl #[.int .i64 5, .slice Ao27 y259.length co27] rfl z76_4 ?_; (with_reducible refine (q1l.calls 5 (fun k_ => some k_ = (.slice Ao27 y259.length co27 : Value).ownBlock) (.slice Ao27 y259.length co27) y259 t262 t263 t266 t267 w _ ?side1 ?side2 A24.out).mono ?_); (case side1 => repeat (first | (with_reducible first | exact HB.out | apply qg | apply qa | apply qi | refine qw ?_ GE240.out) | exact HB.out)); (case side2 => exact Kd.R_tight rfl HO261.out); rintro e w28 ⟨v264, rfl, ho0, hb, hkp⟩; refine ⟨_, rfl, ?_⟩; have n0_ := Aside0.mk (blk_kept z76_1 hkp (fun hs_ => (fun e_ => (Kd.R_ne HO261.out BK240.out (by decide)) e_) hs_)); have n1_ := Aside0.mk (Kd.R_mono (ok' := fun k_ => True) ho0 (fun k_ hk_ => trivial)); have n2_ := Aside0.mk (hb); clear BK240; clear HB; clear HO261; have BK240 := n0_; have HO265 := n1_; have HB := n2_; clear n0_ n1_ n2_; (try clear hb); (try clear hkp); (try clear ho0); have hcz29_0 := zbc BK240 0 (.int .i64 0); have hcz29_1 := zbc BK240 1 (.slice none 0 0); have hcz29_2 := zbc BK240 2 (.int .u32 0); have hcz29_3 := zbc BK240 3 (.int .u32 0); have hfz29_0 := q9 BK240.out 0; have hfz29_1 := q9 BK240.out 1; have hfz29_2 := q9 BK240.out 2; have hfz29_3 := q9 BK240.out 3; obtain ⟨Ao30, co30, eo30⟩ := Kd.R_slice HO265.out; subst eo30))
    refine bodyPost_ret (results_cell_row rfl _ _ gb240 80 #[.int .i64 t262, .slice Ao30 t263.length co30, .int .u32 t266, .int .u32 t267] (0, 0) _ rfl (by (with_reducible repeat (first | refine qd ?_ _ | refine qf ?_ | refine qc ?_ _)); refine qx (cs := #[.int .i64 t262, .slice Ao30 t263.length co30, .int .u32 t266, .int .u32 0]) ?_ 3 _ rfl; (with_reducible repeat (first | refine qd ?_ _ | refine qf ?_ | refine qc ?_ _)); refine qx (cs := #[.int .i64 t262, .slice Ao30 t263.length co30, .int .u32 0, .int .u32 0]) ?_ 2 _ rfl; (with_reducible repeat (first | refine qd ?_ _ | refine qf ?_ | refine qc ?_ _)); refine qx (cs := #[.int .i64 t262, .slice none 0 0, .int .u32 0, .int .u32 0]) ?_ 1 _ rfl; (with_reducible repeat (first | refine qd ?_ _ | refine qf ?_ | refine qc ?_ _)); refine qx (cs := #[.int .i64 0, .slice none 0 0, .int .u32 0, .int .u32 0]) ?_ 0 _ rfl; (with_reducible repeat (first | refine qd ?_ _ | refine qf ?_ | refine qc ?_ _)); exact BK240.out) Tryz.underlying80 rfl z76_2) rfl ?_
    exact ⟨_, z76_3, (by (with_reducible repeat (first | apply Kd.R_alloc | apply Kd.R_drewN | apply Kd.R_drew)); exact Kd.R_mono (Kd.R_far (p := ⟨gb240, 3, none⟩) (Kd.R_far (p := ⟨gb240, 2, none⟩) (Kd.R_far (p := ⟨gb240, 1, none⟩) (Kd.R_far (p := ⟨gb240, 0, none⟩) (Kd.R_types HO265.out BK240.out (by decide)) (fun _ hk => hk.2) (.int .i64 t262)) (fun _ hk => hk.2) (.slice Ao30 t263.length co30)) (fun _ hk => hk.2) (.int .u32 t266)) (fun _ hk => hk.2) (.int .u32 t267)) (fun _ hk => trivial)), z76_0⟩
   replace c23 := Bool.eq_false_iff.mpr c23
   subst c23
   rw [if_neg (show ¬ (false = true) by decide)] at H
   by_cases c31 : a0 = 9
   ·rw [if_pos c31] at H
    have c31b0 : (a0 == 9) = true := beq_iff_eq.mpr c31
    have c31b1 : (a0 != 9) = false := bne_eq_false_iff_eq.mpr c31
    clear c31
    obtain ⟨y268, hy268⟩ : ∃ y_ : List Int, y_ = (([3, 16] : List Int)) := ⟨_, rfl⟩
    replace H : ((q1l.f 6 y268).bind fun bt271 => (some (bt271.1, bt271.2.1, bt271.2.2.1, bt271.2.2.2))) = some (r1, r2, r3, r4) := by first | (rw [hy268]; with_reducible exact H) | (have H2_ := (Option.bind_some _ _).symm.trans H; rw [hy268]; with_reducible exact H2_) | (have H2_ := (Option.bind_some _ _).symm.trans H; with_reducible exact H2_) | with_reducible exact H | (rw [hy268]; exact H) | exact H
    have Ny268 := Aside0.mk hy268
    clear hy268
    replace H := Option.bind_eq_some_iff.mp H
    obtain ⟨⟨t271, t272, t275, t276⟩, A320, H⟩ := H
    replace H : (some (t271, t272, t275, t276)) = some (r1, r2, r3, r4) := H
    have A32 := Aside0.mk A320
    clear A320
    simp only [Option.some.injEq, Prod.mk.injEq] at H
    obtain ⟨rfl, rfl, rfl, rfl⟩ := H
    go_wp2_with (first | ((with_reducible refine q1c (N := 19) rfl ?_); refine Kd.R_lit (Kd.int .i64) _ 3 ?hg (N := 19) ?hd (xs := ([3, 16] : List Int)) (inner := [.int .i64 3, .int .i64 16]) (ok := fun _ => True) (okp := fun _ => True) ?hr ?hp (fun _ hk => hk) trivial (Below.refl _ _) (Nat.le_refl _) (by simp) ?_; (case hd => rfl); (case hg => rfl); (case hr => first | (go_simp; done) | (go_simp; rfl)); (case hp => exact (Reps.one (show Kd.M (Kd.int .i64) _ _ _ 3 [.int .i64 3] from rfl) (Reps.one (show Kd.M (Kd.int .i64) _ _ _ 16 [.int .i64 16] from rfl) (Reps.none _ _)))); intro v269 w33 ho34 hb hg_ hnew_; clear hg_ hnew_; (first | rw [← Ny268.out] at ho34 | (simp only [Int.reduceToNat] at ho34; rw [← Ny268.out] at ho34)); have n0_ := Aside0.mk (Kd.R_lower ho34 (qm z76_0)); have n1_ := Aside0.mk (qo (g := gb240) (o := .cells #[.int .i64 0, .slice none 0 0, .int .u32 0, .int .u32 0] 80 (0, 0)) z76_1 hb); have n2_ := Aside0.mk (qe z76_0 hb); clear BK240; clear HB; have HO270 := n0_; have BK240 := n1_; have HB := n2_; clear n0_ n1_ n2_; clear hb ho34; obtain ⟨Ao35, co35, eo35⟩ := Kd.R_slice HO270.out; subst eo35) | ((with_reducible refine ql (f := 117) rfl ?_); refine q1b (some 20) rfl rfl Tryz.func117 z76_2 rfl #[.int .i64 6, .slice Ao35 y268.length co35] rfl z76_4 ?_; (with_reducible refine (q1l.calls 6 (fun k_ => some k_ = (.slice Ao35 y268.length co35 : Value).ownBlock) (.slice Ao35 y268.length co35) y268 t271 t272 t275 t276 w _ ?side1 ?side2 A32.out).mono ?_); (case side1 => repeat (first | (with_reducible first | exact HB.out | apply qg | apply qa | apply qi | refine qw ?_ GE240.out) | exact HB.out)); (case side2 => exact Kd.R_tight rfl HO270.out); rintro e w36 ⟨v273, rfl, ho0, hb, hkp⟩; refine ⟨_, rfl, ?_⟩; have n0_ := Aside0.mk (blk_kept z76_1 hkp (fun hs_ => (fun e_ => (Kd.R_ne HO270.out BK240.out (by decide)) e_) hs_)); have n1_ := Aside0.mk (Kd.R_mono (ok' := fun k_ => True) ho0 (fun k_ hk_ => trivial)); have n2_ := Aside0.mk (hb); clear BK240; clear HB; clear HO270; have BK240 := n0_; have HO274 := n1_; have HB := n2_; clear n0_ n1_ n2_; (try clear hb); (try clear hkp); (try clear ho0); have hcz37_0 := zbc BK240 0 (.int .i64 0); have hcz37_1 := zbc BK240 1 (.slice none 0 0); have hcz37_2 := zbc BK240 2 (.int .u32 0); have hcz37_3 := zbc BK240 3 (.int .u32 0); have hfz37_0 := q9 BK240.out 0; have hfz37_1 := q9 BK240.out 1; have hfz37_2 := q9 BK240.out 2; have hfz37_3 := q9 BK240.out 3; obtain ⟨Ao38, co38, eo38⟩ := Kd.R_slice HO274.out; subst eo38))
    refine bodyPost_ret (results_cell_row rfl _ _ gb240 80 #[.int .i64 t271, .slice Ao38 t272.length co38, .int .u32 t275, .int .u32 t276] (0, 0) _ rfl (by (with_reducible repeat (first | refine qd ?_ _ | refine qf ?_ | refine qc ?_ _)); refine qx (cs := #[.int .i64 t271, .slice Ao38 t272.length co38, .int .u32 t275, .int .u32 0]) ?_ 3 _ rfl; (with_reducible repeat (first | refine qd ?_ _ | refine qf ?_ | refine qc ?_ _)); refine qx (cs := #[.int .i64 t271, .slice Ao38 t272.length co38, .int .u32 0, .int .u32 0]) ?_ 2 _ rfl; (with_reducible repeat (first | refine qd ?_ _ | refine qf ?_ | refine qc ?_ _)); refine qx (cs := #[.int .i64 t271, .slice none 0 0, .int .u32 0, .int .u32 0]) ?_ 1 _ rfl; (with_reducible repeat (first | refine qd ?_ _ | refine qf ?_ | refine qc ?_ _)); refine qx (cs := #[.int .i64 0, .slice none 0 0, .int .u32 0, .int .u32 0]) ?_ 0 _ rfl; (with_reducible repeat (first | refine qd ?_ _ | refine qf ?_ | refine qc ?_ _)); exact BK240.out) Tryz.underlying80 rfl z76_2) rfl ?_
    exact ⟨_, z76_3, (by (with_reducible repeat (first | apply Kd.R_alloc | apply Kd.R_drewN | apply Kd.R_drew)); exact Kd.R_mono (Kd.R_far (p := ⟨gb240, 3, none⟩) (Kd.R_far (p := ⟨gb240, 2, none⟩) (Kd.R_far (p := ⟨gb240, 1, none⟩) (Kd.R_far (p := ⟨gb240, 0, none⟩) (Kd.R_types HO274.out BK240.out (by decide)) (fun _ hk => hk.2) (.int .i64 t271)) (fun _ hk => hk.2) (.slice Ao38 t272.length co38)) (fun _ hk => hk.2) (.int .u32 t275)) (fun _ hk => hk.2) (.int .u32 t276)) (fun _ hk => trivial)), z76_0⟩
   rw [if_neg c31] at H
   have c31b0 : (a0 == 9) = false := beq_eq_false_iff_ne.mpr c31
   have c31b1 : (a0 != 9) = true := bne_iff_ne.mpr c31
   by_cases c39 : a0 = 11
   ·rw [if_pos c39] at H
    have c39b0 : (a0 == 11) = true := beq_iff_eq.mpr c39
    have c39b1 : (a0 != 11) = false := bne_eq_false_iff_eq.mpr c39
    clear c39
    obtain ⟨y277, hy277⟩ : ∃ y_ : List Int, y_ = (([3, 8] : List Int)) := ⟨_, rfl⟩
    replace H : (some (4, y277, 1, 268435455)) = some (r1, r2, r3, r4) := by first | (rw [hy277]; with_reducible exact H) | (have H2_ := (Option.bind_some _ _).symm.trans H; rw [hy277]; with_reducible exact H2_) | (have H2_ := (Option.bind_some _ _).symm.trans H; with_reducible exact H2_) | with_reducible exact H | (rw [hy277]; exact H) | exact H
    have Ny277 := Aside0.mk hy277
    clear hy277
    simp only [Option.some.injEq, Prod.mk.injEq] at H
    obtain ⟨rfl, rfl, rfl, rfl⟩ := H
    go_wp2_with (first | ((with_reducible refine q1c (N := 23) rfl ?_); refine Kd.R_lit (Kd.int .i64) _ 3 ?hg (N := 23) ?hd (xs := ([3, 8] : List Int)) (inner := [.int .i64 3, .int .i64 8]) (ok := fun _ => True) (okp := fun _ => True) ?hr ?hp (fun _ hk => hk) trivial (Below.refl _ _) (Nat.le_refl _) (by simp) ?_; (case hd => rfl); (case hg => rfl); (case hr => first | (go_simp; done) | (go_simp; rfl)); (case hp => exact (Reps.one (show Kd.M (Kd.int .i64) _ _ _ 3 [.int .i64 3] from rfl) (Reps.one (show Kd.M (Kd.int .i64) _ _ _ 8 [.int .i64 8] from rfl) (Reps.none _ _)))); intro v278 w40 ho41 hb hg_ hnew_; clear hg_ hnew_; (first | rw [← Ny277.out] at ho41 | (simp only [Int.reduceToNat] at ho41; rw [← Ny277.out] at ho41)); have n0_ := Aside0.mk (Kd.R_lower ho41 (qm z76_0)); have n1_ := Aside0.mk (qo (g := gb240) (o := .cells #[.int .i64 0, .slice none 0 0, .int .u32 0, .int .u32 0] 80 (0, 0)) z76_1 hb); have n2_ := Aside0.mk (qe z76_0 hb); clear BK240; clear HB; have HO279 := n0_; have BK240 := n1_; have HB := n2_; clear n0_ n1_ n2_; clear hb ho41; obtain ⟨Ao42, co42, eo42⟩ := Kd.R_slice HO279.out; subst eo42; have hcz43_0 := zbc BK240 0 (.int .i64 0); have hcz43_1 := zbc BK240 1 (.slice none 0 0); have hcz43_2 := zbc BK240 2 (.int .u32 0); have hcz43_3 := zbc BK240 3 (.int .u32 0); have hfz43_0 := q9 BK240.out 0; have hfz43_1 := q9 BK240.out 1; have hfz43_2 := q9 BK240.out 2; have hfz43_3 := q9 BK240.out 3))
    refine bodyPost_ret (results_cell_row rfl _ _ gb240 80 #[.int .i64 4, .slice Ao42 y277.length co42, .int .u32 1, .int .u32 268435455] (0, 0) _ rfl (by (with_reducible repeat (first | refine qd ?_ _ | refine qf ?_ | refine qc ?_ _)); refine qx (cs := #[.int .i64 4, .slice Ao42 y277.length co42, .int .u32 1, .int .u32 0]) ?_ 3 _ rfl; (with_reducible repeat (first | refine qd ?_ _ | refine qf ?_ | refine qc ?_ _)); refine qx (cs := #[.int .i64 4, .slice Ao42 y277.length co42, .int .u32 0, .int .u32 0]) ?_ 2 _ rfl; (with_reducible repeat (first | refine qd ?_ _ | refine qf ?_ | refine qc ?_ _)); refine qx (cs := #[.int .i64 4, .slice none 0 0, .int .u32 0, .int .u32 0]) ?_ 1 _ rfl; (with_reducible repeat (first | refine qd ?_ _ | refine qf ?_ | refine qc ?_ _)); refine qx (cs := #[.int .i64 0, .slice none 0 0, .int .u32 0, .int .u32 0]) ?_ 0 _ rfl; (with_reducible repeat (first | refine qd ?_ _ | refine qf ?_ | refine qc ?_ _)); exact BK240.out) Tryz.underlying80 rfl z76_2) rfl ?_
    exact ⟨_, z76_3, (by (with_reducible repeat (first | apply Kd.R_alloc | apply Kd.R_drewN | apply Kd.R_drew)); exact Kd.R_mono (Kd.R_far (p := ⟨gb240, 3, none⟩) (Kd.R_far (p := ⟨gb240, 2, none⟩) (Kd.R_far (p := ⟨gb240, 1, none⟩) (Kd.R_far (p := ⟨gb240, 0, none⟩) (Kd.R_types HO279.out BK240.out (by decide)) (fun _ hk => hk.2) (.int .i64 4)) (fun _ hk => hk.2) (.slice Ao42 y277.length co42)) (fun _ hk => hk.2) (.int .u32 1)) (fun _ hk => hk.2) (.int .u32 268435455)) (fun _ hk => trivial)), z76_0⟩
   rw [if_neg c39] at H
   have c39b0 : (a0 == 11) = false := beq_eq_false_iff_ne.mpr c39
   have c39b1 : (a0 != 11) = true := bne_iff_ne.mpr c39
   by_cases c44 : a0 = 17
   ·rw [if_pos c44] at H
    have c44b0 : (a0 == 17) = true := beq_iff_eq.mpr c44
    have c44b1 : (a0 != 17) = false := bne_eq_false_iff_eq.mpr c44
    clear c44
    obtain ⟨y280, hy280⟩ : ∃ y_ : List Int, y_ = (([1, 2, 14] : List Int)) := ⟨_, rfl⟩
    replace H : ((polyglotref05_four.f y280 0).bind fun bt283 => (some (bt283.1, bt283.2.1, bt283.2.2.1, bt283.2.2.2))) = some (r1, r2, r3, r4) := by first | (rw [hy280]; with_reducible exact H) | (have H2_ := (Option.bind_some _ _).symm.trans H; rw [hy280]; with_reducible exact H2_) | (have H2_ := (Option.bind_some _ _).symm.trans H; with_reducible exact H2_) | with_reducible exact H | (rw [hy280]; exact H) | exact H
    have Ny280 := Aside0.mk hy280
    clear hy280
    replace H := Option.bind_eq_some_iff.mp H
    obtain ⟨⟨t283, t284, t287, t288⟩, A450, H⟩ := H
    replace H : (some (t283, t284, t287, t288)) = some (r1, r2, r3, r4) := H
    have A45 := Aside0.mk A450
    clear A450
    simp only [Option.some.injEq, Prod.mk.injEq] at H
    obtain ⟨rfl, rfl, rfl, rfl⟩ := H
    go_wp2_with (first | ((with_reducible refine q1c (N := 27) rfl ?_); refine Kd.R_lit (Kd.int .i64) _ 3 ?hg (N := 27) ?hd (xs := ([1, 2, 14] : List Int)) (inner := [.int .i64 1, .int .i64 2, .int .i64 14]) (ok := fun _ => True) (okp := fun _ => True) ?hr ?hp (fun _ hk => hk) trivial (Below.refl _ _) (Nat.le_refl _) (by simp) ?_; (case hd => rfl); (case hg => rfl); (case hr => first | (go_simp; done) | (go_simp; rfl)); (case hp => exact (Reps.one (show Kd.M (Kd.int .i64) _ _ _ 1 [.int .i64 1] from rfl) (Reps.one (show Kd.M (Kd.int .i64) _ _ _ 2 [.int .i64 2] from rfl) (Reps.one (show Kd.M (Kd.int .i64) _ _ _ 14 [.int .i64 14] from rfl) (Reps.none _ _))))); intro v281 w46 ho47 hb hg_ hnew_; clear hg_ hnew_; (first | rw [← Ny280.out] at ho47 | (simp only [Int.reduceToNat] at ho47; rw [← Ny280.out] at ho47)); have n0_ := Aside0.mk (Kd.R_lower ho47 (qm z76_0)); have n1_ := Aside0.mk (qo (g := gb240) (o := .cells #[.int .i64 0, .slice none 0 0, .int .u32 0, .int .u32 0] 80 (0, 0)) z76_1 hb); have n2_ := Aside0.mk (qe z76_0 hb); clear BK240; clear HB; have HO282 := n0_; have BK240 := n1_; have HB := n2_; clear n0_ n1_ n2_; clear hb ho47; obtain ⟨Ao48, co48, eo48⟩ := Kd.R_slice HO282.out; subst eo48) | ((with_reducible refine ql (f := 116) rfl ?_); refine q1b (some 28) rfl rfl Tryz.func116 z76_2 rfl #[.slice Ao48 y280.length co48, .int .u32 0] rfl z76_4 ?_; (with_reducible refine (polyglotref05_four.calls (fun k_ => some k_ = (.slice Ao48 y280.length co48 : Value).ownBlock) (.slice Ao48 y280.length co48) y280 0 t283 t284 t287 t288 w _ ?side1 ?side2 A45.out).mono ?_); (case side1 => repeat (first | (with_reducible first | exact HB.out | apply qg | apply qa | apply qi | refine qw ?_ GE240.out) | exact HB.out)); (case side2 => exact Kd.R_tight rfl HO282.out); rintro e w49 ⟨v285, rfl, ho0, hb, hkp⟩; refine ⟨_, rfl, ?_⟩; have n0_ := Aside0.mk (blk_kept z76_1 hkp (fun hs_ => (fun e_ => (Kd.R_ne HO282.out BK240.out (by decide)) e_) hs_)); have n1_ := Aside0.mk (Kd.R_mono (ok' := fun k_ => True) ho0 (fun k_ hk_ => trivial)); have n2_ := Aside0.mk (hb); clear BK240; clear HB; clear HO282; have BK240 := n0_; have HO286 := n1_; have HB := n2_; clear n0_ n1_ n2_; (try clear hb); (try clear hkp); (try clear ho0); have hcz50_0 := zbc BK240 0 (.int .i64 0); have hcz50_1 := zbc BK240 1 (.slice none 0 0); have hcz50_2 := zbc BK240 2 (.int .u32 0); have hcz50_3 := zbc BK240 3 (.int .u32 0); have hfz50_0 := q9 BK240.out 0; have hfz50_1 := q9 BK240.out 1; have hfz50_2 := q9 BK240.out 2; have hfz50_3 := q9 BK240.out 3; obtain ⟨Ao51, co51, eo51⟩ := Kd.R_slice HO286.out; subst eo51))
    refine bodyPost_ret (results_cell_row rfl _ _ gb240 80 #[.int .i64 t283, .slice Ao51 t284.length co51, .int .u32 t287, .int .u32 t288] (0, 0) _ rfl (by (with_reducible repeat (first | refine qd ?_ _ | refine qf ?_ | refine qc ?_ _)); refine qx (cs := #[.int .i64 t283, .slice Ao51 t284.length co51, .int .u32 t287, .int .u32 0]) ?_ 3 _ rfl; (with_reducible repeat (first | refine qd ?_ _ | refine qf ?_ | refine qc ?_ _)); refine qx (cs := #[.int .i64 t283, .slice Ao51 t284.length co51, .int .u32 0, .int .u32 0]) ?_ 2 _ rfl; (with_reducible repeat (first | refine qd ?_ _ | refine qf ?_ | refine qc ?_ _)); refine qx (cs := #[.int .i64 t283, .slice none 0 0, .int .u32 0, .int .u32 0]) ?_ 1 _ rfl; (with_reducible repeat (first | refine qd ?_ _ | refine qf ?_ | refine qc ?_ _)); refine qx (cs := #[.int .i64 0, .slice none 0 0, .int .u32 0, .int .u32 0]) ?_ 0 _ rfl; (with_reducible repeat (first | refine qd ?_ _ | refine qf ?_ | refine qc ?_ _)); exact BK240.out) Tryz.underlying80 rfl z76_2) rfl ?_
    exact ⟨_, z76_3, (by (with_reducible repeat (first | apply Kd.R_alloc | apply Kd.R_drewN | apply Kd.R_drew)); exact Kd.R_mono (Kd.R_far (p := ⟨gb240, 3, none⟩) (Kd.R_far (p := ⟨gb240, 2, none⟩) (Kd.R_far (p := ⟨gb240, 1, none⟩) (Kd.R_far (p := ⟨gb240, 0, none⟩) (Kd.R_types HO286.out BK240.out (by decide)) (fun _ hk => hk.2) (.int .i64 t283)) (fun _ hk => hk.2) (.slice Ao51 t284.length co51)) (fun _ hk => hk.2) (.int .u32 t287)) (fun _ hk => hk.2) (.int .u32 t288)) (fun _ hk => trivial)), z76_0⟩
   rw [if_neg c44] at H
   have c44b0 : (a0 == 17) = false := beq_eq_false_iff_ne.mpr c44
   have c44b1 : (a0 != 17) = true := bne_iff_ne.mpr c44
   have HC52 := Aside0.mk H
   clear H
   go_upto_if 29 with (fail)
   go_cut [29] (fun v29 wc => ∃ (kq : Nat) (x29_51 : Bool), v29 = .bool x29_51 ∧ Aside0 (qn.j1 kq a0 x29_51 = some (r1, r2, r3, r4)) ∧ Aside0 (kq ≤ kj19) ∧ Aside0 (wc.heap[gb240]? = some (.cells #[.int .i64 0, (.slice none 0 0), .int .u32 0, .int .u32 0] 80 (0, 0))) ∧ Aside0 (Below w.heap.size w wc))
   case first =>
    have H := HC52.out
    clear HC52
    by_cases c53 : a0 = 18
    ·rw [if_pos c53] at H
     have c53b0 : (a0 == 18) = true := beq_iff_eq.mpr c53
     have c53b1 : (a0 != 18) = false := bne_eq_false_iff_eq.mpr c53
     clear c53
     (first | rw [c53b0] | (simp only [i64_w, i32_w]; rw [c53b0]) | skip)
     have H' := Aside0.mk H
     clear H
     go_wp2
     go_meet
     case rel => exact ⟨_, ((a0 == 18)), z76_5, H', ⟨(by have := HJ19.out; first | omega | exact Nat.le_refl _)⟩, ⟨z76_1⟩, ⟨z76_0⟩⟩
    rw [if_neg c53] at H
    have c53b0 : (a0 == 18) = false := beq_eq_false_iff_ne.mpr c53
    have c53b1 : (a0 != 18) = true := bne_iff_ne.mpr c53
    (first | rw [c53b0] | (simp only [i64_w, i32_w]; rw [c53b0]) | skip)
    have H' := Aside0.mk H
    clear H
    go_wp2
    go_meet
    case rel => exact ⟨_, ((a0 == 26)), z76_5, H', ⟨(by have := HJ19.out; first | omega | exact Nat.le_refl _)⟩, ⟨z76_1⟩, ⟨z76_0⟩⟩
   case rest =>
    clear HC52
    clear c31 c31b0 c31b1 c39 c39b0 c39b1 c44 c44b0 c44b1
    obtain ⟨kq, x29_51, rfl, HA, HJ51, BK240, HB⟩ := hcut
    cases kq with
    | zero => exact absurd HA.out (by simp [qn.j1])
    | succ kj51 =>
     have H := HA.out
     clear HA
     simp only [qn.j1] at H
     by_cases c54 : x29_51 = true
     ·subst c54
      rw [if_pos rfl] at H
      obtain ⟨y289, hy289⟩ : ∃ y_ : List Int, y_ = (([2] : List Int)) := ⟨_, rfl⟩
      replace H : ((q1l.f 5 y289).bind fun bt292 => (some (bt292.1, bt292.2.1, bt292.2.2.1, bt292.2.2.2))) = some (r1, r2, r3, r4) := by first | (rw [hy289]; with_reducible exact H) | (have H2_ := (Option.bind_some _ _).symm.trans H; rw [hy289]; with_reducible exact H2_) | (have H2_ := (Option.bind_some _ _).symm.trans H; with_reducible exact H2_) | with_reducible exact H | (rw [hy289]; exact H) | exact H
      have Ny289 := Aside0.mk hy289
      clear hy289
      replace H := Option.bind_eq_some_iff.mp H
      obtain ⟨⟨t292, t293, t296, t297⟩, A550, H⟩ := H
      replace H : (some (t292, t293, t296, t297)) = some (r1, r2, r3, r4) := H
      have A55 := Aside0.mk A550
      clear A550
      simp only [Option.some.injEq, Prod.mk.injEq] at H
      obtain ⟨rfl, rfl, rfl, rfl⟩ := H
      go_wp2_with (first | ((with_reducible refine q1c (N := 32) rfl ?_); refine Kd.R_lit (Kd.int .i64) _ 3 ?hg (N := 32) ?hd (xs := ([2] : List Int)) (inner := [.int .i64 2]) (ok := fun _ => True) (okp := fun _ => True) ?hr ?hp (fun _ hk => hk) trivial (Below.refl _ _) (Nat.le_refl _) (by simp) ?_; (case hd => rfl); (case hg => rfl); (case hr => first | (go_simp; done) | (go_simp; rfl)); (case hp => exact (Reps.one (show Kd.M (Kd.int .i64) _ _ _ 2 [.int .i64 2] from rfl) (Reps.none _ _))); intro v290 w56 ho57 hb hg_ hnew_; clear hg_ hnew_; (first | rw [← Ny289.out] at ho57 | (simp only [Int.reduceToNat] at ho57; rw [← Ny289.out] at ho57)); have n0_ := Aside0.mk (Kd.R_lower ho57 (qm z76_0)); have n1_ := Aside0.mk (qo (g := gb240) (o := .cells #[.int .i64 0, .slice none 0 0, .int .u32 0, .int .u32 0] 80 (0, 0)) z76_1 hb); have n2_ := Aside0.mk (qe z76_0 hb); clear BK240; clear HB; have HO291 := n0_; have BK240 := n1_; have HB := n2_; clear n0_ n1_ n2_; clear hb ho57; obtain ⟨Ao58, co58, eo58⟩ := Kd.R_slice HO291.out; subst eo58) | ((with_reducible refine ql (f := 117) rfl ?_); refine q1b (some 33) rfl rfl Tryz.func117 z76_2 rfl #[.int .i64 5, .slice Ao58 y289.length co58] rfl z76_4 ?_; (with_reducible refine (q1l.calls 5 (fun k_ => some k_ = (.slice Ao58 y289.length co58 : Value).ownBlock) (.slice Ao58 y289.length co58) y289 t292 t293 t296 t297 w _ ?side1 ?side2 A55.out).mono ?_); (case side1 => repeat (first | (with_reducible first | exact HB.out | apply qg | apply qa | apply qi | refine qw ?_ GE240.out) | exact HB.out)); (case side2 => exact Kd.R_tight rfl HO291.out); rintro e w59 ⟨v294, rfl, ho0, hb, hkp⟩; refine ⟨_, rfl, ?_⟩; have n0_ := Aside0.mk (blk_kept z76_1 hkp (fun hs_ => (fun e_ => (Kd.R_ne HO291.out BK240.out (by decide)) e_) hs_)); have n1_ := Aside0.mk (Kd.R_mono (ok' := fun k_ => True) ho0 (fun k_ hk_ => trivial)); have n2_ := Aside0.mk (hb); clear BK240; clear HB; clear HO291; have BK240 := n0_; have HO295 := n1_; have HB := n2_; clear n0_ n1_ n2_; (try clear hb); (try clear hkp); (try clear ho0); have hcz60_0 := zbc BK240 0 (.int .i64 0); have hcz60_1 := zbc BK240 1 (.slice none 0 0); have hcz60_2 := zbc BK240 2 (.int .u32 0); have hcz60_3 := zbc BK240 3 (.int .u32 0); have hfz60_0 := q9 BK240.out 0; have hfz60_1 := q9 BK240.out 1; have hfz60_2 := q9 BK240.out 2; have hfz60_3 := q9 BK240.out 3; obtain ⟨Ao61, co61, eo61⟩ := Kd.R_slice HO295.out; subst eo61))
      refine bodyPost_ret (results_cell_row rfl _ _ gb240 80 #[.int .i64 t292, .slice Ao61 t293.length co61, .int .u32 t296, .int .u32 t297] (0, 0) _ rfl (by (with_reducible repeat (first | refine qd ?_ _ | refine qf ?_ | refine qc ?_ _)); refine qx (cs := #[.int .i64 t292, .slice Ao61 t293.length co61, .int .u32 t296, .int .u32 0]) ?_ 3 _ rfl; (with_reducible repeat (first | refine qd ?_ _ | refine qf ?_ | refine qc ?_ _)); refine qx (cs := #[.int .i64 t292, .slice Ao61 t293.length co61, .int .u32 0, .int .u32 0]) ?_ 2 _ rfl; (with_reducible repeat (first | refine qd ?_ _ | refine qf ?_ | refine qc ?_ _)); refine qx (cs := #[.int .i64 t292, .slice none 0 0, .int .u32 0, .int .u32 0]) ?_ 1 _ rfl; (with_reducible repeat (first | refine qd ?_ _ | refine qf ?_ | refine qc ?_ _)); refine qx (cs := #[.int .i64 0, .slice none 0 0, .int .u32 0, .int .u32 0]) ?_ 0 _ rfl; (with_reducible repeat (first | refine qd ?_ _ | refine qf ?_ | refine qc ?_ _)); exact BK240.out) Tryz.underlying80 rfl z76_2) rfl ?_
      exact ⟨_, z76_3, (by (with_reducible repeat (first | apply Kd.R_alloc | apply Kd.R_drewN | apply Kd.R_drew)); exact Kd.R_mono (Kd.R_far (p := ⟨gb240, 3, none⟩) (Kd.R_far (p := ⟨gb240, 2, none⟩) (Kd.R_far (p := ⟨gb240, 1, none⟩) (Kd.R_far (p := ⟨gb240, 0, none⟩) (Kd.R_types HO295.out BK240.out (by decide)) (fun _ hk => hk.2) (.int .i64 t292)) (fun _ hk => hk.2) (.slice Ao61 t293.length co61)) (fun _ hk => hk.2) (.int .u32 t296)) (fun _ hk => hk.2) (.int .u32 t297)) (fun _ hk => trivial)), z76_0⟩
     replace c54 := Bool.eq_false_iff.mpr c54
     subst c54
     rw [if_neg (show ¬ (false = true) by decide)] at H
     by_cases c62 : a0 = 19
     ·rw [if_pos c62] at H
      have c62b0 : (a0 == 19) = true := beq_iff_eq.mpr c62
      have c62b1 : (a0 != 19) = false := bne_eq_false_iff_eq.mpr c62
      clear c62
      obtain ⟨y298, hy298⟩ : ∃ y_ : List Int, y_ = (([2] : List Int)) := ⟨_, rfl⟩
      replace H : ((polyglotref05_two.f y298 0).bind fun bt301 => (some (bt301.1, bt301.2.1, bt301.2.2.1, bt301.2.2.2))) = some (r1, r2, r3, r4) := by first | (rw [hy298]; with_reducible exact H) | (have H2_ := (Option.bind_some _ _).symm.trans H; rw [hy298]; with_reducible exact H2_) | (have H2_ := (Option.bind_some _ _).symm.trans H; with_reducible exact H2_) | with_reducible exact H | (rw [hy298]; exact H) | exact H
      have Ny298 := Aside0.mk hy298
      clear hy298
      replace H := Option.bind_eq_some_iff.mp H
      obtain ⟨⟨t301, t302, t305, t306⟩, A630, H⟩ := H
      replace H : (some (t301, t302, t305, t306)) = some (r1, r2, r3, r4) := H
      have A63 := Aside0.mk A630
      clear A630
      simp only [Option.some.injEq, Prod.mk.injEq] at H
      obtain ⟨rfl, rfl, rfl, rfl⟩ := H
      go_wp2_with (first | ((with_reducible refine q1c (N := 36) rfl ?_); refine Kd.R_lit (Kd.int .i64) _ 3 ?hg (N := 36) ?hd (xs := ([2] : List Int)) (inner := [.int .i64 2]) (ok := fun _ => True) (okp := fun _ => True) ?hr ?hp (fun _ hk => hk) trivial (Below.refl _ _) (Nat.le_refl _) (by simp) ?_; (case hd => rfl); (case hg => rfl); (case hr => first | (go_simp; done) | (go_simp; rfl)); (case hp => exact (Reps.one (show Kd.M (Kd.int .i64) _ _ _ 2 [.int .i64 2] from rfl) (Reps.none _ _))); intro v299 w64 ho65 hb hg_ hnew_; clear hg_ hnew_; (first | rw [← Ny298.out] at ho65 | (simp only [Int.reduceToNat] at ho65; rw [← Ny298.out] at ho65)); have n0_ := Aside0.mk (Kd.R_lower ho65 (qm z76_0)); have n1_ := Aside0.mk (qo (g := gb240) (o := .cells #[.int .i64 0, .slice none 0 0, .int .u32 0, .int .u32 0] 80 (0, 0)) z76_1 hb); have n2_ := Aside0.mk (qe z76_0 hb); clear BK240; clear HB; have HO300 := n0_; have BK240 := n1_; have HB := n2_; clear n0_ n1_ n2_; clear hb ho65; obtain ⟨Ao66, co66, eo66⟩ := Kd.R_slice HO300.out; subst eo66) | ((with_reducible refine ql (f := 118) rfl ?_); refine q1b (some 37) rfl rfl Tryz.func118 z76_2 rfl #[.slice Ao66 y298.length co66, .int .u32 0] rfl z76_4 ?_; (with_reducible refine (polyglotref05_two.calls (fun k_ => some k_ = (.slice Ao66 y298.length co66 : Value).ownBlock) (.slice Ao66 y298.length co66) y298 0 t301 t302 t305 t306 w _ ?side1 ?side2 A63.out).mono ?_); (case side1 => repeat (first | (with_reducible first | exact HB.out | apply qg | apply qa | apply qi | refine qw ?_ GE240.out) | exact HB.out)); (case side2 => exact Kd.R_tight rfl HO300.out); rintro e w67 ⟨v303, rfl, ho0, hb, hkp⟩; refine ⟨_, rfl, ?_⟩; have n0_ := Aside0.mk (blk_kept z76_1 hkp (fun hs_ => (fun e_ => (Kd.R_ne HO300.out BK240.out (by decide)) e_) hs_)); have n1_ := Aside0.mk (Kd.R_mono (ok' := fun k_ => True) ho0 (fun k_ hk_ => trivial)); have n2_ := Aside0.mk (hb); clear BK240; clear HB; clear HO300; have BK240 := n0_; have HO304 := n1_; have HB := n2_; clear n0_ n1_ n2_; (try clear hb); (try clear hkp); (try clear ho0); have hcz68_0 := zbc BK240 0 (.int .i64 0); have hcz68_1 := zbc BK240 1 (.slice none 0 0); have hcz68_2 := zbc BK240 2 (.int .u32 0); have hcz68_3 := zbc BK240 3 (.int .u32 0); have hfz68_0 := q9 BK240.out 0; have hfz68_1 := q9 BK240.out 1; have hfz68_2 := q9 BK240.out 2; have hfz68_3 := q9 BK240.out 3; obtain ⟨Ao69, co69, eo69⟩ := Kd.R_slice HO304.out; subst eo69))
      refine bodyPost_ret (results_cell_row rfl _ _ gb240 80 #[.int .i64 t301, .slice Ao69 t302.length co69, .int .u32 t305, .int .u32 t306] (0, 0) _ rfl (by (with_reducible repeat (first | refine qd ?_ _ | refine qf ?_ | refine qc ?_ _)); refine qx (cs := #[.int .i64 t301, .slice Ao69 t302.length co69, .int .u32 t305, .int .u32 0]) ?_ 3 _ rfl; (with_reducible repeat (first | refine qd ?_ _ | refine qf ?_ | refine qc ?_ _)); refine qx (cs := #[.int .i64 t301, .slice Ao69 t302.length co69, .int .u32 0, .int .u32 0]) ?_ 2 _ rfl; (with_reducible repeat (first | refine qd ?_ _ | refine qf ?_ | refine qc ?_ _)); refine qx (cs := #[.int .i64 t301, .slice none 0 0, .int .u32 0, .int .u32 0]) ?_ 1 _ rfl; (with_reducible repeat (first | refine qd ?_ _ | refine qf ?_ | refine qc ?_ _)); refine qx (cs := #[.int .i64 0, .slice none 0 0, .int .u32 0, .int .u32 0]) ?_ 0 _ rfl; (with_reducible repeat (first | refine qd ?_ _ | refine qf ?_ | refine qc ?_ _)); exact BK240.out) Tryz.underlying80 rfl z76_2) rfl ?_
      exact ⟨_, z76_3, (by (with_reducible repeat (first | apply Kd.R_alloc | apply Kd.R_drewN | apply Kd.R_drew)); exact Kd.R_mono (Kd.R_far (p := ⟨gb240, 3, none⟩) (Kd.R_far (p := ⟨gb240, 2, none⟩) (Kd.R_far (p := ⟨gb240, 1, none⟩) (Kd.R_far (p := ⟨gb240, 0, none⟩) (Kd.R_types HO304.out BK240.out (by decide)) (fun _ hk => hk.2) (.int .i64 t301)) (fun _ hk => hk.2) (.slice Ao69 t302.length co69)) (fun _ hk => hk.2) (.int .u32 t305)) (fun _ hk => hk.2) (.int .u32 t306)) (fun _ hk => trivial)), z76_0⟩
     rw [if_neg c62] at H
     have c62b0 : (a0 == 19) = false := beq_eq_false_iff_ne.mpr c62
     have c62b1 : (a0 != 19) = true := bne_iff_ne.mpr c62
     by_cases c70 : a0 = 21
     ·rw [if_pos c70] at H
      have c70b0 : (a0 == 21) = true := beq_iff_eq.mpr c70
      have c70b1 : (a0 != 21) = false := bne_eq_false_iff_eq.mpr c70
      clear c70
      obtain ⟨y307, hy307⟩ : ∃ y_ : List Int, y_ = (([1, 2, 15] : List Int)) := ⟨_, rfl⟩
      replace H : ((q1l.f 5 y307).bind fun bt310 => (some (bt310.1, bt310.2.1, bt310.2.2.1, bt310.2.2.2))) = some (r1, r2, r3, r4) := by first | (rw [hy307]; with_reducible exact H) | (have H2_ := (Option.bind_some _ _).symm.trans H; rw [hy307]; with_reducible exact H2_) | (have H2_ := (Option.bind_some _ _).symm.trans H; with_reducible exact H2_) | with_reducible exact H | (rw [hy307]; exact H) | exact H
      have Ny307 := Aside0.mk hy307
      clear hy307
      replace H := Option.bind_eq_some_iff.mp H
      obtain ⟨⟨t310, t311, t314, t315⟩, A710, H⟩ := H
      replace H : (some (t310, t311, t314, t315)) = some (r1, r2, r3, r4) := H
      have A71 := Aside0.mk A710
      clear A710
      simp only [Option.some.injEq, Prod.mk.injEq] at H
      obtain ⟨rfl, rfl, rfl, rfl⟩ := H
      go_wp2_with (first | ((with_reducible refine q1c (N := 40) rfl ?_); refine Kd.R_lit (Kd.int .i64) _ 3 ?hg (N := 40) ?hd (xs := ([1, 2, 15] : List Int)) (inner := [.int .i64 1, .int .i64 2, .int .i64 15]) (ok := fun _ => True) (okp := fun _ => True) ?hr ?hp (fun _ hk => hk) trivial (Below.refl _ _) (Nat.le_refl _) (by simp) ?_; (case hd => rfl); (case hg => rfl); (case hr => first | (go_simp; done) | (go_simp; rfl)); (case hp => exact (Reps.one (show Kd.M (Kd.int .i64) _ _ _ 1 [.int .i64 1] from rfl) (Reps.one (show Kd.M (Kd.int .i64) _ _ _ 2 [.int .i64 2] from rfl) (Reps.one (show Kd.M (Kd.int .i64) _ _ _ 15 [.int .i64 15] from rfl) (Reps.none _ _))))); intro v308 w72 ho73 hb hg_ hnew_; clear hg_ hnew_; (first | rw [← Ny307.out] at ho73 | (simp only [Int.reduceToNat] at ho73; rw [← Ny307.out] at ho73)); have n0_ := Aside0.mk (Kd.R_lower ho73 (qm z76_0)); have n1_ := Aside0.mk (qo (g := gb240) (o := .cells #[.int .i64 0, .slice none 0 0, .int .u32 0, .int .u32 0] 80 (0, 0)) z76_1 hb); have n2_ := Aside0.mk (qe z76_0 hb); clear BK240; clear HB; have HO309 := n0_; have BK240 := n1_; have HB := n2_; clear n0_ n1_ n2_; clear hb ho73; obtain ⟨Ao74, co74, eo74⟩ := Kd.R_slice HO309.out; subst eo74) | ((with_reducible refine ql (f := 117) rfl ?_); refine q1b (some 41) rfl rfl Tryz.func117 z76_2 rfl #[.int .i64 5, .slice Ao74 y307.length co74] rfl z76_4 ?_; (with_reducible refine (q1l.calls 5 (fun k_ => some k_ = (.slice Ao74 y307.length co74 : Value).ownBlock) (.slice Ao74 y307.length co74) y307 t310 t311 t314 t315 w _ ?side1 ?side2 A71.out).mono ?_); (case side1 => repeat (first | (with_reducible first | exact HB.out | apply qg | apply qa | apply qi | refine qw ?_ GE240.out) | exact HB.out)); (case side2 => exact Kd.R_tight rfl HO309.out); rintro e w75 ⟨v312, rfl, ho0, hb, hkp⟩; refine ⟨_, rfl, ?_⟩; have n0_ := Aside0.mk (blk_kept z76_1 hkp (fun hs_ => (fun e_ => (Kd.R_ne HO309.out BK240.out (by decide)) e_) hs_)); have n1_ := Aside0.mk (Kd.R_mono (ok' := fun k_ => True) ho0 (fun k_ hk_ => trivial)); have n2_ := Aside0.mk (hb); clear BK240; clear HB; clear HO309; have BK240 := n0_; have HO313 := n1_; have HB := n2_; clear n0_ n1_ n2_; (try clear hb); (try clear hkp); (try clear ho0); have hcz76_0 := zbc BK240 0 (.int .i64 0); have hcz76_1 := zbc BK240 1 (.slice none 0 0); have hcz76_2 := zbc BK240 2 (.int .u32 0); have hcz76_3 := zbc BK240 3 (.int .u32 0); have hfz76_0 := q9 BK240.out 0; have hfz76_1 := q9 BK240.out 1; have hfz76_2 := q9 BK240.out 2; have hfz76_3 := q9 BK240.out 3; obtain ⟨Ao77, co77, eo77⟩ := Kd.R_slice HO313.out; subst eo77))
      refine bodyPost_ret (results_cell_row rfl _ _ gb240 80 #[.int .i64 t310, .slice Ao77 t311.length co77, .int .u32 t314, .int .u32 t315] (0, 0) _ rfl (by (with_reducible repeat (first | refine qd ?_ _ | refine qf ?_ | refine qc ?_ _)); refine qx (cs := #[.int .i64 t310, .slice Ao77 t311.length co77, .int .u32 t314, .int .u32 0]) ?_ 3 _ rfl; (with_reducible repeat (first | refine qd ?_ _ | refine qf ?_ | refine qc ?_ _)); refine qx (cs := #[.int .i64 t310, .slice Ao77 t311.length co77, .int .u32 0, .int .u32 0]) ?_ 2 _ rfl; (with_reducible repeat (first | refine qd ?_ _ | refine qf ?_ | refine qc ?_ _)); refine qx (cs := #[.int .i64 t310, .slice none 0 0, .int .u32 0, .int .u32 0]) ?_ 1 _ rfl; (with_reducible repeat (first | refine qd ?_ _ | refine qf ?_ | refine qc ?_ _)); refine qx (cs := #[.int .i64 0, .slice none 0 0, .int .u32 0, .int .u32 0]) ?_ 0 _ rfl; (with_reducible repeat (first | refine qd ?_ _ | refine qf ?_ | refine qc ?_ _)); exact BK240.out) Tryz.underlying80 rfl z76_2) rfl ?_
      exact ⟨_, z76_3, (by (with_reducible repeat (first | apply Kd.R_alloc | apply Kd.R_drewN | apply Kd.R_drew)); exact Kd.R_mono (Kd.R_far (p := ⟨gb240, 3, none⟩) (Kd.R_far (p := ⟨gb240, 2, none⟩) (Kd.R_far (p := ⟨gb240, 1, none⟩) (Kd.R_far (p := ⟨gb240, 0, none⟩) (Kd.R_types HO313.out BK240.out (by decide)) (fun _ hk => hk.2) (.int .i64 t310)) (fun _ hk => hk.2) (.slice Ao77 t311.length co77)) (fun _ hk => hk.2) (.int .u32 t314)) (fun _ hk => hk.2) (.int .u32 t315)) (fun _ hk => trivial)), z76_0⟩
     rw [if_neg c70] at H
     have c70b0 : (a0 == 21) = false := beq_eq_false_iff_ne.mpr c70
     have c70b1 : (a0 != 21) = true := bne_iff_ne.mpr c70
     by_cases c78 : a0 = 22
     ·rw [if_pos c78] at H
      have c78b0 : (a0 == 22) = true := beq_iff_eq.mpr c78
      have c78b1 : (a0 != 22) = false := bne_eq_false_iff_eq.mpr c78
      clear c78
      obtain ⟨y316, hy316⟩ : ∃ y_ : List Int, y_ = (([1, 2, 15] : List Int)) := ⟨_, rfl⟩
      replace H : ((q1l.f 6 y316).bind fun bt319 => (some (bt319.1, bt319.2.1, bt319.2.2.1, bt319.2.2.2))) = some (r1, r2, r3, r4) := by first | (rw [hy316]; with_reducible exact H) | (have H2_ := (Option.bind_some _ _).symm.trans H; rw [hy316]; with_reducible exact H2_) | (have H2_ := (Option.bind_some _ _).symm.trans H; with_reducible exact H2_) | with_reducible exact H | (rw [hy316]; exact H) | exact H
      have Ny316 := Aside0.mk hy316
      clear hy316
      replace H := Option.bind_eq_some_iff.mp H
      obtain ⟨⟨t319, t320, t323, t324⟩, A790, H⟩ := H
      replace H : (some (t319, t320, t323, t324)) = some (r1, r2, r3, r4) := H
      have A79 := Aside0.mk A790
      clear A790
      simp only [Option.some.injEq, Prod.mk.injEq] at H
      obtain ⟨rfl, rfl, rfl, rfl⟩ := H
      go_wp2_with (first | ((with_reducible refine q1c (N := 44) rfl ?_); refine Kd.R_lit (Kd.int .i64) _ 3 ?hg (N := 44) ?hd (xs := ([1, 2, 15] : List Int)) (inner := [.int .i64 1, .int .i64 2, .int .i64 15]) (ok := fun _ => True) (okp := fun _ => True) ?hr ?hp (fun _ hk => hk) trivial (Below.refl _ _) (Nat.le_refl _) (by simp) ?_; (case hd => rfl); (case hg => rfl); (case hr => first | (go_simp; done) | (go_simp; rfl)); (case hp => exact (Reps.one (show Kd.M (Kd.int .i64) _ _ _ 1 [.int .i64 1] from rfl) (Reps.one (show Kd.M (Kd.int .i64) _ _ _ 2 [.int .i64 2] from rfl) (Reps.one (show Kd.M (Kd.int .i64) _ _ _ 15 [.int .i64 15] from rfl) (Reps.none _ _))))); intro v317 w80 ho81 hb hg_ hnew_; clear hg_ hnew_; (first | rw [← Ny316.out] at ho81 | (simp only [Int.reduceToNat] at ho81; rw [← Ny316.out] at ho81)); have n0_ := Aside0.mk (Kd.R_lower ho81 (qm z76_0)); have n1_ := Aside0.mk (qo (g := gb240) (o := .cells #[.int .i64 0, .slice none 0 0, .int .u32 0, .int .u32 0] 80 (0, 0)) z76_1 hb); have n2_ := Aside0.mk (qe z76_0 hb); clear BK240; clear HB; have HO318 := n0_; have BK240 := n1_; have HB := n2_; clear n0_ n1_ n2_; clear hb ho81; obtain ⟨Ao82, co82, eo82⟩ := Kd.R_slice HO318.out; subst eo82) | ((with_reducible refine ql (f := 117) rfl ?_); refine q1b (some 45) rfl rfl Tryz.func117 z76_2 rfl #[.int .i64 6, .slice Ao82 y316.length co82] rfl z76_4 ?_; (with_reducible refine (q1l.calls 6 (fun k_ => some k_ = (.slice Ao82 y316.length co82 : Value).ownBlock) (.slice Ao82 y316.length co82) y316 t319 t320 t323 t324 w _ ?side1 ?side2 A79.out).mono ?_); (case side1 => repeat (first | (with_reducible first | exact HB.out | apply qg | apply qa | apply qi | refine qw ?_ GE240.out) | exact HB.out)); (case side2 => exact Kd.R_tight rfl HO318.out); rintro e w83 ⟨v321, rfl, ho0, hb, hkp⟩; refine ⟨_, rfl, ?_⟩; have n0_ := Aside0.mk (blk_kept z76_1 hkp (fun hs_ => (fun e_ => (Kd.R_ne HO318.out BK240.out (by decide)) e_) hs_)); have n1_ := Aside0.mk (Kd.R_mono (ok' := fun k_ => True) ho0 (fun k_ hk_ => trivial)); have n2_ := Aside0.mk (hb); clear BK240; clear HB; clear HO318; have BK240 := n0_; have HO322 := n1_; have HB := n2_; clear n0_ n1_ n2_; (try clear hb); (try clear hkp); (try clear ho0); have hcz84_0 := zbc BK240 0 (.int .i64 0); have hcz84_1 := zbc BK240 1 (.slice none 0 0); have hcz84_2 := zbc BK240 2 (.int .u32 0); have hcz84_3 := zbc BK240 3 (.int .u32 0); have hfz84_0 := q9 BK240.out 0; have hfz84_1 := q9 BK240.out 1; have hfz84_2 := q9 BK240.out 2; have hfz84_3 := q9 BK240.out 3; obtain ⟨Ao85, co85, eo85⟩ := Kd.R_slice HO322.out; subst eo85))
      refine bodyPost_ret (results_cell_row rfl _ _ gb240 80 #[.int .i64 t319, .slice Ao85 t320.length co85, .int .u32 t323, .int .u32 t324] (0, 0) _ rfl (by (with_reducible repeat (first | refine qd ?_ _ | refine qf ?_ | refine qc ?_ _)); refine qx (cs := #[.int .i64 t319, .slice Ao85 t320.length co85, .int .u32 t323, .int .u32 0]) ?_ 3 _ rfl; (with_reducible repeat (first | refine qd ?_ _ | refine qf ?_ | refine qc ?_ _)); refine qx (cs := #[.int .i64 t319, .slice Ao85 t320.length co85, .int .u32 0, .int .u32 0]) ?_ 2 _ rfl; (with_reducible repeat (first | refine qd ?_ _ | refine qf ?_ | refine qc ?_ _)); refine qx (cs := #[.int .i64 t319, .slice none 0 0, .int .u32 0, .int .u32 0]) ?_ 1 _ rfl; (with_reducible repeat (first | refine qd ?_ _ | refine qf ?_ | refine qc ?_ _)); refine qx (cs := #[.int .i64 0, .slice none 0 0, .int .u32 0, .int .u32 0]) ?_ 0 _ rfl; (with_reducible repeat (first | refine qd ?_ _ | refine qf ?_ | refine qc ?_ _)); exact BK240.out) Tryz.underlying80 rfl z76_2) rfl ?_
      exact ⟨_, z76_3, (by (with_reducible repeat (first | apply Kd.R_alloc | apply Kd.R_drewN | apply Kd.R_drew)); exact Kd.R_mono (Kd.R_far (p := ⟨gb240, 3, none⟩) (Kd.R_far (p := ⟨gb240, 2, none⟩) (Kd.R_far (p := ⟨gb240, 1, none⟩) (Kd.R_far (p := ⟨gb240, 0, none⟩) (Kd.R_types HO322.out BK240.out (by decide)) (fun _ hk => hk.2) (.int .i64 t319)) (fun _ hk => hk.2) (.slice Ao85 t320.length co85)) (fun _ hk => hk.2) (.int .u32 t323)) (fun _ hk => hk.2) (.int .u32 t324)) (fun _ hk => trivial)), z76_0⟩
     rw [if_neg c78] at H
     have c78b0 : (a0 == 22) = false := beq_eq_false_iff_ne.mpr c78
     have c78b1 : (a0 != 22) = true := bne_iff_ne.mpr c78
     have HC86 := Aside0.mk H
     clear H
     go_upto_if 46 with (fail)
     go_cut [46] (fun v46 wc => ∃ (kq : Nat) (x46_85 : Bool), v46 = .bool x46_85 ∧ Aside0 (qn.j2 kq a0 x46_85 = some (r1, r2, r3, r4)) ∧ Aside0 (kq ≤ kj51) ∧ Aside0 (wc.heap[gb240]? = some (.cells #[.int .i64 0, (.slice none 0 0), .int .u32 0, .int .u32 0] 80 (0, 0))) ∧ Aside0 (Below w.heap.size w wc))
     case first =>
      have H := HC86.out
      clear HC86
      by_cases c87 : a0 = 23
      ·rw [if_pos c87] at H
       have c87b0 : (a0 == 23) = true := beq_iff_eq.mpr c87
       have c87b1 : (a0 != 23) = false := bne_eq_false_iff_eq.mpr c87
       clear c87
       (first | rw [c87b0] | (simp only [i64_w, i32_w]; rw [c87b0]) | skip)
       have H' := Aside0.mk H
       clear H
       go_wp2
       go_meet
       case rel => exact ⟨_, ((a0 == 23)), z76_5, H', ⟨(by have := HJ19.out; have := HJ51.out; first | omega | exact Nat.le_refl _)⟩, ⟨z76_1⟩, ⟨z76_0⟩⟩
      rw [if_neg c87] at H
      have c87b0 : (a0 == 23) = false := beq_eq_false_iff_ne.mpr c87
      have c87b1 : (a0 != 23) = true := bne_iff_ne.mpr c87
      (first | rw [c87b0] | (simp only [i64_w, i32_w]; rw [c87b0]) | skip)
      have H' := Aside0.mk H
      clear H
      go_wp2
      go_meet
      case rel => exact ⟨_, ((a0 == 25)), z76_5, H', ⟨(by have := HJ19.out; have := HJ51.out; first | omega | exact Nat.le_refl _)⟩, ⟨z76_1⟩, ⟨z76_0⟩⟩
     case rest =>
      clear HC86
      clear c62 c62b0 c62b1 c70 c70b0 c70b1 c78 c78b0 c78b1
      obtain ⟨kq, x46_85, rfl, HA, HJ85, BK240, HB⟩ := hcut
      cases kq with
      | zero => exact absurd HA.out (by simp [qn.j2])
      | succ kj85 =>
       have H := HA.out
       clear HA
       simp only [qn.j2] at H
       by_cases c88 : x46_85 = true
       ·subst c88
        rw [if_pos rfl] at H
        obtain ⟨y325, hy325⟩ : ∃ y_ : List Int, y_ = (([1] : List Int)) := ⟨_, rfl⟩
        replace H : ((polyglotref05_one.f y325).bind fun bt328 => (some (bt328.1, bt328.2.1, bt328.2.2.1, bt328.2.2.2))) = some (r1, r2, r3, r4) := by first | (rw [hy325]; with_reducible exact H) | (have H2_ := (Option.bind_some _ _).symm.trans H; rw [hy325]; with_reducible exact H2_) | (have H2_ := (Option.bind_some _ _).symm.trans H; with_reducible exact H2_) | with_reducible exact H | (rw [hy325]; exact H) | exact H
        have Ny325 := Aside0.mk hy325
        clear hy325
        replace H := Option.bind_eq_some_iff.mp H
        obtain ⟨⟨t328, t329, t332, t333⟩, A890, H⟩ := H
        replace H : (some (t328, t329, t332, t333)) = some (r1, r2, r3, r4) := H
        have A89 := Aside0.mk A890
        clear A890
        simp only [Option.some.injEq, Prod.mk.injEq] at H
        obtain ⟨rfl, rfl, rfl, rfl⟩ := H
        go_wp2_with (first | ((with_reducible refine q1c (N := 49) rfl ?_); refine Kd.R_lit (Kd.int .i64) _ 3 ?hg (N := 49) ?hd (xs := ([1] : List Int)) (inner := [.int .i64 1]) (ok := fun _ => True) (okp := fun _ => True) ?hr ?hp (fun _ hk => hk) trivial (Below.refl _ _) (Nat.le_refl _) (by simp) ?_; (case hd => rfl); (case hg => rfl); (case hr => first | (go_simp; done) | (go_simp; rfl)); (case hp => exact (Reps.one (show Kd.M (Kd.int .i64) _ _ _ 1 [.int .i64 1] from rfl) (Reps.none _ _))); intro v326 w90 ho91 hb hg_ hnew_; clear hg_ hnew_; (first | rw [← Ny325.out] at ho91 | (simp only [Int.reduceToNat] at ho91; rw [← Ny325.out] at ho91)); have n0_ := Aside0.mk (Kd.R_lower ho91 (qm z76_0)); have n1_ := Aside0.mk (qo (g := gb240) (o := .cells #[.int .i64 0, .slice none 0 0, .int .u32 0, .int .u32 0] 80 (0, 0)) z76_1 hb); have n2_ := Aside0.mk (qe z76_0 hb); clear BK240; clear HB; have HO327 := n0_; have BK240 := n1_; have HB := n2_; clear n0_ n1_ n2_; clear hb ho91; obtain ⟨Ao92, co92, eo92⟩ := Kd.R_slice HO327.out; subst eo92) | ((with_reducible refine ql (f := 115) rfl ?_); refine q1b (some 50) rfl rfl Tryz.func115 z76_2 rfl #[.slice Ao92 y325.length co92] rfl z76_4 ?_; (with_reducible refine (polyglotref05_one.calls (fun k_ => some k_ = (.slice Ao92 y325.length co92 : Value).ownBlock) (.slice Ao92 y325.length co92) y325 t328 t329 t332 t333 w _ ?side1 ?side2 A89.out).mono ?_); (case side1 => repeat (first | (with_reducible first | exact HB.out | apply qg | apply qa | apply qi | refine qw ?_ GE240.out) | exact HB.out)); (case side2 => exact Kd.R_tight rfl HO327.out); rintro e w93 ⟨v330, rfl, ho0, hb, hkp⟩; refine ⟨_, rfl, ?_⟩; have n0_ := Aside0.mk (blk_kept z76_1 hkp (fun hs_ => (fun e_ => (Kd.R_ne HO327.out BK240.out (by decide)) e_) hs_)); have n1_ := Aside0.mk (Kd.R_mono (ok' := fun k_ => True) ho0 (fun k_ hk_ => trivial)); have n2_ := Aside0.mk (hb); clear BK240; clear HB; clear HO327; have BK240 := n0_; have HO331 := n1_; have HB := n2_; clear n0_ n1_ n2_; (try clear hb); (try clear hkp); (try clear ho0); have hcz94_0 := zbc BK240 0 (.int .i64 0); have hcz94_1 := zbc BK240 1 (.slice none 0 0); have hcz94_2 := zbc BK240 2 (.int .u32 0); have hcz94_3 := zbc BK240 3 (.int .u32 0); have hfz94_0 := q9 BK240.out 0; have hfz94_1 := q9 BK240.out 1; have hfz94_2 := q9 BK240.out 2; have hfz94_3 := q9 BK240.out 3; obtain ⟨Ao95, co95, eo95⟩ := Kd.R_slice HO331.out; subst eo95))
        refine bodyPost_ret (results_cell_row rfl _ _ gb240 80 #[.int .i64 t328, .slice Ao95 t329.length co95, .int .u32 t332, .int .u32 t333] (0, 0) _ rfl (by (with_reducible repeat (first | refine qd ?_ _ | refine qf ?_ | refine qc ?_ _)); refine qx (cs := #[.int .i64 t328, .slice Ao95 t329.length co95, .int .u32 t332, .int .u32 0]) ?_ 3 _ rfl; (with_reducible repeat (first | refine qd ?_ _ | refine qf ?_ | refine qc ?_ _)); refine qx (cs := #[.int .i64 t328, .slice Ao95 t329.length co95, .int .u32 0, .int .u32 0]) ?_ 2 _ rfl; (with_reducible repeat (first | refine qd ?_ _ | refine qf ?_ | refine qc ?_ _)); refine qx (cs := #[.int .i64 t328, .slice none 0 0, .int .u32 0, .int .u32 0]) ?_ 1 _ rfl; (with_reducible repeat (first | refine qd ?_ _ | refine qf ?_ | refine qc ?_ _)); refine qx (cs := #[.int .i64 0, .slice none 0 0, .int .u32 0, .int .u32 0]) ?_ 0 _ rfl; (with_reducible repeat (first | refine qd ?_ _ | refine qf ?_ | refine qc ?_ _)); exact BK240.out) Tryz.underlying80 rfl z76_2) rfl ?_
        exact ⟨_, z76_3, (by (with_reducible repeat (first | apply Kd.R_alloc | apply Kd.R_drewN | apply Kd.R_drew)); exact Kd.R_mono (Kd.R_far (p := ⟨gb240, 3, none⟩) (Kd.R_far (p := ⟨gb240, 2, none⟩) (Kd.R_far (p := ⟨gb240, 1, none⟩) (Kd.R_far (p := ⟨gb240, 0, none⟩) (Kd.R_types HO331.out BK240.out (by decide)) (fun _ hk => hk.2) (.int .i64 t328)) (fun _ hk => hk.2) (.slice Ao95 t329.length co95)) (fun _ hk => hk.2) (.int .u32 t332)) (fun _ hk => hk.2) (.int .u32 t333)) (fun _ hk => trivial)), z76_0⟩
       replace c88 := Bool.eq_false_iff.mpr c88
       subst c88
       rw [if_neg (show ¬ (false = true) by decide)] at H
       by_cases c96 : a0 = 24
       ·rw [if_pos c96] at H
        have c96b0 : (a0 == 24) = true := beq_iff_eq.mpr c96
        have c96b1 : (a0 != 24) = false := bne_eq_false_iff_eq.mpr c96
        clear c96
        obtain ⟨y334, hy334⟩ : ∃ y_ : List Int, y_ = (([16] : List Int)) := ⟨_, rfl⟩
        replace H : ((polyglotref05_four.f y334 0).bind fun bt337 => (some (bt337.1, bt337.2.1, bt337.2.2.1, bt337.2.2.2))) = some (r1, r2, r3, r4) := by first | (rw [hy334]; with_reducible exact H) | (have H2_ := (Option.bind_some _ _).symm.trans H; rw [hy334]; with_reducible exact H2_) | (have H2_ := (Option.bind_some _ _).symm.trans H; with_reducible exact H2_) | with_reducible exact H | (rw [hy334]; exact H) | exact H
        have Ny334 := Aside0.mk hy334
        clear hy334
        replace H := Option.bind_eq_some_iff.mp H
        obtain ⟨⟨t337, t338, t341, t342⟩, A970, H⟩ := H
        replace H : (some (t337, t338, t341, t342)) = some (r1, r2, r3, r4) := H
        have A97 := Aside0.mk A970
        clear A970
        simp only [Option.some.injEq, Prod.mk.injEq] at H
        obtain ⟨rfl, rfl, rfl, rfl⟩ := H
        go_wp2_with (first | ((with_reducible refine q1c (N := 53) rfl ?_); refine Kd.R_lit (Kd.int .i64) _ 3 ?hg (N := 53) ?hd (xs := ([16] : List Int)) (inner := [.int .i64 16]) (ok := fun _ => True) (okp := fun _ => True) ?hr ?hp (fun _ hk => hk) trivial (Below.refl _ _) (Nat.le_refl _) (by simp) ?_; (case hd => rfl); (case hg => rfl); (case hr => first | (go_simp; done) | (go_simp; rfl)); (case hp => exact (Reps.one (show Kd.M (Kd.int .i64) _ _ _ 16 [.int .i64 16] from rfl) (Reps.none _ _))); intro v335 w98 ho99 hb hg_ hnew_; clear hg_ hnew_; (first | rw [← Ny334.out] at ho99 | (simp only [Int.reduceToNat] at ho99; rw [← Ny334.out] at ho99)); have n0_ := Aside0.mk (Kd.R_lower ho99 (qm z76_0)); have n1_ := Aside0.mk (qo (g := gb240) (o := .cells #[.int .i64 0, .slice none 0 0, .int .u32 0, .int .u32 0] 80 (0, 0)) z76_1 hb); have n2_ := Aside0.mk (qe z76_0 hb); clear BK240; clear HB; have HO336 := n0_; have BK240 := n1_; have HB := n2_; clear n0_ n1_ n2_; clear hb ho99; obtain ⟨Ao100, co100, eo100⟩ := Kd.R_slice HO336.out; subst eo100) | ((with_reducible refine ql (f := 116) rfl ?_); refine q1b (some 54) rfl rfl Tryz.func116 z76_2 rfl #[.slice Ao100 y334.length co100, .int .u32 0] rfl z76_4 ?_; (with_reducible refine (polyglotref05_four.calls (fun k_ => some k_ = (.slice Ao100 y334.length co100 : Value).ownBlock) (.slice Ao100 y334.length co100) y334 0 t337 t338 t341 t342 w _ ?side1 ?side2 A97.out).mono ?_); (case side1 => repeat (first | (with_reducible first | exact HB.out | apply qg | apply qa | apply qi | refine qw ?_ GE240.out) | exact HB.out)); (case side2 => exact Kd.R_tight rfl HO336.out); rintro e w101 ⟨v339, rfl, ho0, hb, hkp⟩; refine ⟨_, rfl, ?_⟩; have n0_ := Aside0.mk (blk_kept z76_1 hkp (fun hs_ => (fun e_ => (Kd.R_ne HO336.out BK240.out (by decide)) e_) hs_)); have n1_ := Aside0.mk (Kd.R_mono (ok' := fun k_ => True) ho0 (fun k_ hk_ => trivial)); have n2_ := Aside0.mk (hb); clear BK240; clear HB; clear HO336; have BK240 := n0_; have HO340 := n1_; have HB := n2_; clear n0_ n1_ n2_; (try clear hb); (try clear hkp); (try clear ho0); have hcz102_0 := zbc BK240 0 (.int .i64 0); have hcz102_1 := zbc BK240 1 (.slice none 0 0); have hcz102_2 := zbc BK240 2 (.int .u32 0); have hcz102_3 := zbc BK240 3 (.int .u32 0); have hfz102_0 := q9 BK240.out 0; have hfz102_1 := q9 BK240.out 1; have hfz102_2 := q9 BK240.out 2; have hfz102_3 := q9 BK240.out 3; obtain ⟨Ao103, co103, eo103⟩ := Kd.R_slice HO340.out; subst eo103))
        refine bodyPost_ret (results_cell_row rfl _ _ gb240 80 #[.int .i64 t337, .slice Ao103 t338.length co103, .int .u32 t341, .int .u32 t342] (0, 0) _ rfl (by (with_reducible repeat (first | refine qd ?_ _ | refine qf ?_ | refine qc ?_ _)); refine qx (cs := #[.int .i64 t337, .slice Ao103 t338.length co103, .int .u32 t341, .int .u32 0]) ?_ 3 _ rfl; (with_reducible repeat (first | refine qd ?_ _ | refine qf ?_ | refine qc ?_ _)); refine qx (cs := #[.int .i64 t337, .slice Ao103 t338.length co103, .int .u32 0, .int .u32 0]) ?_ 2 _ rfl; (with_reducible repeat (first | refine qd ?_ _ | refine qf ?_ | refine qc ?_ _)); refine qx (cs := #[.int .i64 t337, .slice none 0 0, .int .u32 0, .int .u32 0]) ?_ 1 _ rfl; (with_reducible repeat (first | refine qd ?_ _ | refine qf ?_ | refine qc ?_ _)); refine qx (cs := #[.int .i64 0, .slice none 0 0, .int .u32 0, .int .u32 0]) ?_ 0 _ rfl; (with_reducible repeat (first | refine qd ?_ _ | refine qf ?_ | refine qc ?_ _)); exact BK240.out) Tryz.underlying80 rfl z76_2) rfl ?_
        exact ⟨_, z76_3, (by (with_reducible repeat (first | apply Kd.R_alloc | apply Kd.R_drewN | apply Kd.R_drew)); exact Kd.R_mono (Kd.R_far (p := ⟨gb240, 3, none⟩) (Kd.R_far (p := ⟨gb240, 2, none⟩) (Kd.R_far (p := ⟨gb240, 1, none⟩) (Kd.R_far (p := ⟨gb240, 0, none⟩) (Kd.R_types HO340.out BK240.out (by decide)) (fun _ hk => hk.2) (.int .i64 t337)) (fun _ hk => hk.2) (.slice Ao103 t338.length co103)) (fun _ hk => hk.2) (.int .u32 t341)) (fun _ hk => hk.2) (.int .u32 t342)) (fun _ hk => trivial)), z76_0⟩
       rw [if_neg c96] at H
       have c96b0 : (a0 == 24) = false := beq_eq_false_iff_ne.mpr c96
       have c96b1 : (a0 != 24) = true := bne_iff_ne.mpr c96
       by_cases c104 : a0 = 28
       ·rw [if_pos c104] at H
        have c104b0 : (a0 == 28) = true := beq_iff_eq.mpr c104
        have c104b1 : (a0 != 28) = false := bne_eq_false_iff_eq.mpr c104
        clear c104
        obtain ⟨y343, hy343⟩ : ∃ y_ : List Int, y_ = (([2, 14] : List Int)) := ⟨_, rfl⟩
        replace H : ((q1l.f 5 y343).bind fun bt346 => (some (bt346.1, bt346.2.1, bt346.2.2.1, bt346.2.2.2))) = some (r1, r2, r3, r4) := by first | (rw [hy343]; with_reducible exact H) | (have H2_ := (Option.bind_some _ _).symm.trans H; rw [hy343]; with_reducible exact H2_) | (have H2_ := (Option.bind_some _ _).symm.trans H; with_reducible exact H2_) | with_reducible exact H | (rw [hy343]; exact H) | exact H
        have Ny343 := Aside0.mk hy343
        clear hy343
        replace H := Option.bind_eq_some_iff.mp H
        obtain ⟨⟨t346, t347, t350, t351⟩, A1050, H⟩ := H
        replace H : (some (t346, t347, t350, t351)) = some (r1, r2, r3, r4) := H
        have A105 := Aside0.mk A1050
        clear A1050
        simp only [Option.some.injEq, Prod.mk.injEq] at H
        obtain ⟨rfl, rfl, rfl, rfl⟩ := H
        go_wp2_with (first | ((with_reducible refine q1c (N := 57) rfl ?_); refine Kd.R_lit (Kd.int .i64) _ 3 ?hg (N := 57) ?hd (xs := ([2, 14] : List Int)) (inner := [.int .i64 2, .int .i64 14]) (ok := fun _ => True) (okp := fun _ => True) ?hr ?hp (fun _ hk => hk) trivial (Below.refl _ _) (Nat.le_refl _) (by simp) ?_; (case hd => rfl); (case hg => rfl); (case hr => first | (go_simp; done) | (go_simp; rfl)); (case hp => exact (Reps.one (show Kd.M (Kd.int .i64) _ _ _ 2 [.int .i64 2] from rfl) (Reps.one (show Kd.M (Kd.int .i64) _ _ _ 14 [.int .i64 14] from rfl) (Reps.none _ _)))); intro v344 w106 ho107 hb hg_ hnew_; clear hg_ hnew_; (first | rw [← Ny343.out] at ho107 | (simp only [Int.reduceToNat] at ho107; rw [← Ny343.out] at ho107)); have n0_ := Aside0.mk (Kd.R_lower ho107 (qm z76_0)); have n1_ := Aside0.mk (qo (g := gb240) (o := .cells #[.int .i64 0, .slice none 0 0, .int .u32 0, .int .u32 0] 80 (0, 0)) z76_1 hb); have n2_ := Aside0.mk (qe z76_0 hb); clear BK240; clear HB; have HO345 := n0_; have BK240 := n1_; have HB := n2_; clear n0_ n1_ n2_; clear hb ho107; obtain ⟨Ao108, co108, eo108⟩ := Kd.R_slice HO345.out; subst eo108) | ((with_reducible refine ql (f := 117) rfl ?_); refine q1b (some 58) rfl rfl Tryz.func117 z76_2 rfl #[.int .i64 5, .slice Ao108 y343.length co108] rfl z76_4 ?_; (with_reducible refine (q1l.calls 5 (fun k_ => some k_ = (.slice Ao108 y343.length co108 : Value).ownBlock) (.slice Ao108 y343.length co108) y343 t346 t347 t350 t351 w _ ?side1 ?side2 A105.out).mono ?_); (case side1 => repeat (first | (with_reducible first | exact HB.out | apply qg | apply qa | apply qi | refine qw ?_ GE240.out) | exact HB.out)); (case side2 => exact Kd.R_tight rfl HO345.out); rintro e w109 ⟨v348, rfl, ho0, hb, hkp⟩; refine ⟨_, rfl, ?_⟩; have n0_ := Aside0.mk (blk_kept z76_1 hkp (fun hs_ => (fun e_ => (Kd.R_ne HO345.out BK240.out (by decide)) e_) hs_)); have n1_ := Aside0.mk (Kd.R_mono (ok' := fun k_ => True) ho0 (fun k_ hk_ => trivial)); have n2_ := Aside0.mk (hb); clear BK240; clear HB; clear HO345; have BK240 := n0_; have HO349 := n1_; have HB := n2_; clear n0_ n1_ n2_; (try clear hb); (try clear hkp); (try clear ho0); have hcz110_0 := zbc BK240 0 (.int .i64 0); have hcz110_1 := zbc BK240 1 (.slice none 0 0); have hcz110_2 := zbc BK240 2 (.int .u32 0); have hcz110_3 := zbc BK240 3 (.int .u32 0); have hfz110_0 := q9 BK240.out 0; have hfz110_1 := q9 BK240.out 1; have hfz110_2 := q9 BK240.out 2; have hfz110_3 := q9 BK240.out 3; obtain ⟨Ao111, co111, eo111⟩ := Kd.R_slice HO349.out; subst eo111))
        refine bodyPost_ret (results_cell_row rfl _ _ gb240 80 #[.int .i64 t346, .slice Ao111 t347.length co111, .int .u32 t350, .int .u32 t351] (0, 0) _ rfl (by (with_reducible repeat (first | refine qd ?_ _ | refine qf ?_ | refine qc ?_ _)); refine qx (cs := #[.int .i64 t346, .slice Ao111 t347.length co111, .int .u32 t350, .int .u32 0]) ?_ 3 _ rfl; (with_reducible repeat (first | refine qd ?_ _ | refine qf ?_ | refine qc ?_ _)); refine qx (cs := #[.int .i64 t346, .slice Ao111 t347.length co111, .int .u32 0, .int .u32 0]) ?_ 2 _ rfl; (with_reducible repeat (first | refine qd ?_ _ | refine qf ?_ | refine qc ?_ _)); refine qx (cs := #[.int .i64 t346, .slice none 0 0, .int .u32 0, .int .u32 0]) ?_ 1 _ rfl; (with_reducible repeat (first | refine qd ?_ _ | refine qf ?_ | refine qc ?_ _)); refine qx (cs := #[.int .i64 0, .slice none 0 0, .int .u32 0, .int .u32 0]) ?_ 0 _ rfl; (with_reducible repeat (first | refine qd ?_ _ | refine qf ?_ | refine qc ?_ _)); exact BK240.out) Tryz.underlying80 rfl z76_2) rfl ?_
        exact ⟨_, z76_3, (by (with_reducible repeat (first | apply Kd.R_alloc | apply Kd.R_drewN | apply Kd.R_drew)); exact Kd.R_mono (Kd.R_far (p := ⟨gb240, 3, none⟩) (Kd.R_far (p := ⟨gb240, 2, none⟩) (Kd.R_far (p := ⟨gb240, 1, none⟩) (Kd.R_far (p := ⟨gb240, 0, none⟩) (Kd.R_types HO349.out BK240.out (by decide)) (fun _ hk => hk.2) (.int .i64 t346)) (fun _ hk => hk.2) (.slice Ao111 t347.length co111)) (fun _ hk => hk.2) (.int .u32 t350)) (fun _ hk => hk.2) (.int .u32 t351)) (fun _ hk => trivial)), z76_0⟩
       rw [if_neg c104] at H
       have c104b0 : (a0 == 28) = false := beq_eq_false_iff_ne.mpr c104
       have c104b1 : (a0 != 28) = true := bne_iff_ne.mpr c104
       by_cases c112 : a0 = 31
       ·rw [if_pos c112] at H
        have c112b0 : (a0 == 31) = true := beq_iff_eq.mpr c112
        have c112b1 : (a0 != 31) = false := bne_eq_false_iff_eq.mpr c112
        clear c112
        obtain ⟨y352, hy352⟩ : ∃ y_ : List Int, y_ = (([2, 4, 5, 6, 7, 9, 11, 14, 15] : List Int)) := ⟨_, rfl⟩
        replace H : ((q1l.f 5 y352).bind fun bt355 => (some (bt355.1, bt355.2.1, bt355.2.2.1, bt355.2.2.2))) = some (r1, r2, r3, r4) := by first | (rw [hy352]; with_reducible exact H) | (have H2_ := (Option.bind_some _ _).symm.trans H; rw [hy352]; with_reducible exact H2_) | (have H2_ := (Option.bind_some _ _).symm.trans H; with_reducible exact H2_) | with_reducible exact H | (rw [hy352]; exact H) | exact H
        have Ny352 := Aside0.mk hy352
        clear hy352
        replace H := Option.bind_eq_some_iff.mp H
        obtain ⟨⟨t355, t356, t359, t360⟩, A1130, H⟩ := H
        replace H : (some (t355, t356, t359, t360)) = some (r1, r2, r3, r4) := H
        have A113 := Aside0.mk A1130
        clear A1130
        simp only [Option.some.injEq, Prod.mk.injEq] at H
        obtain ⟨rfl, rfl, rfl, rfl⟩ := H
        go_wp2_with (first | ((with_reducible refine q1c (N := 61) rfl ?_); refine Kd.R_lit (Kd.int .i64) _ 3 ?hg (N := 61) ?hd (xs := ([2, 4, 5, 6, 7, 9, 11, 14, 15] : List Int)) (inner := [.int .i64 2, .int .i64 4, .int .i64 5, .int .i64 6, .int .i64 7, .int .i64 9, .int .i64 11, .int .i64 14, .int .i64 15]) (ok := fun _ => True) (okp := fun _ => True) ?hr ?hp (fun _ hk => hk) trivial (Below.refl _ _) (Nat.le_refl _) (by simp) ?_; (case hd => rfl); (case hg => rfl); (case hr => first | (go_simp; done) | (go_simp; rfl)); (case hp => exact (Reps.one (show Kd.M (Kd.int .i64) _ _ _ 2 [.int .i64 2] from rfl) (Reps.one (show Kd.M (Kd.int .i64) _ _ _ 4 [.int .i64 4] from rfl) (Reps.one (show Kd.M (Kd.int .i64) _ _ _ 5 [.int .i64 5] from rfl) (Reps.one (show Kd.M (Kd.int .i64) _ _ _ 6 [.int .i64 6] from rfl) (Reps.one (show Kd.M (Kd.int .i64) _ _ _ 7 [.int .i64 7] from rfl) (Reps.one (show Kd.M (Kd.int .i64) _ _ _ 9 [.int .i64 9] from rfl) (Reps.one (show Kd.M (Kd.int .i64) _ _ _ 11 [.int .i64 11] from rfl) (Reps.one (show Kd.M (Kd.int .i64) _ _ _ 14 [.int .i64 14] from rfl) (Reps.one (show Kd.M (Kd.int .i64) _ _ _ 15 [.int .i64 15] from rfl) (Reps.none _ _))))))))))); intro v353 w114 ho115 hb hg_ hnew_; clear hg_ hnew_; (first | rw [← Ny352.out] at ho115 | (simp only [Int.reduceToNat] at ho115; rw [← Ny352.out] at ho115)); have n0_ := Aside0.mk (Kd.R_lower ho115 (qm z76_0)); have n1_ := Aside0.mk (qo (g := gb240) (o := .cells #[.int .i64 0, .slice none 0 0, .int .u32 0, .int .u32 0] 80 (0, 0)) z76_1 hb); have n2_ := Aside0.mk (qe z76_0 hb); clear BK240; clear HB; have HO354 := n0_; have BK240 := n1_; have HB := n2_; clear n0_ n1_ n2_; clear hb ho115; obtain ⟨Ao116, co116, eo116⟩ := Kd.R_slice HO354.out; subst eo116) | ((with_reducible refine ql (f := 117) rfl ?_); refine q1b (some 62) rfl rfl Tryz.func117 z76_2 rfl #[.int .i64 5, .slice Ao116 y352.length co116] rfl z76_4 ?_; (with_reducible refine (q1l.calls 5 (fun k_ => some k_ = (.slice Ao116 y352.length co116 : Value).ownBlock) (.slice Ao116 y352.length co116) y352 t355 t356 t359 t360 w _ ?side1 ?side2 A113.out).mono ?_); (case side1 => repeat (first | (with_reducible first | exact HB.out | apply qg | apply qa | apply qi | refine qw ?_ GE240.out) | exact HB.out)); (case side2 => exact Kd.R_tight rfl HO354.out); rintro e w117 ⟨v357, rfl, ho0, hb, hkp⟩; refine ⟨_, rfl, ?_⟩; have n0_ := Aside0.mk (blk_kept z76_1 hkp (fun hs_ => (fun e_ => (Kd.R_ne HO354.out BK240.out (by decide)) e_) hs_)); have n1_ := Aside0.mk (Kd.R_mono (ok' := fun k_ => True) ho0 (fun k_ hk_ => trivial)); have n2_ := Aside0.mk (hb); clear BK240; clear HB; clear HO354; have BK240 := n0_; have HO358 := n1_; have HB := n2_; clear n0_ n1_ n2_; (try clear hb); (try clear hkp); (try clear ho0); have hcz118_0 := zbc BK240 0 (.int .i64 0); have hcz118_1 := zbc BK240 1 (.slice none 0 0); have hcz118_2 := zbc BK240 2 (.int .u32 0); have hcz118_3 := zbc BK240 3 (.int .u32 0); have hfz118_0 := q9 BK240.out 0; have hfz118_1 := q9 BK240.out 1; have hfz118_2 := q9 BK240.out 2; have hfz118_3 := q9 BK240.out 3; obtain ⟨Ao119, co119, eo119⟩ := Kd.R_slice HO358.out; subst eo119))
        refine bodyPost_ret (results_cell_row rfl _ _ gb240 80 #[.int .i64 t355, .slice Ao119 t356.length co119, .int .u32 t359, .int .u32 t360] (0, 0) _ rfl (by (with_reducible repeat (first | refine qd ?_ _ | refine qf ?_ | refine qc ?_ _)); refine qx (cs := #[.int .i64 t355, .slice Ao119 t356.length co119, .int .u32 t359, .int .u32 0]) ?_ 3 _ rfl; (with_reducible repeat (first | refine qd ?_ _ | refine qf ?_ | refine qc ?_ _)); refine qx (cs := #[.int .i64 t355, .slice Ao119 t356.length co119, .int .u32 0, .int .u32 0]) ?_ 2 _ rfl; (with_reducible repeat (first | refine qd ?_ _ | refine qf ?_ | refine qc ?_ _)); refine qx (cs := #[.int .i64 t355, .slice none 0 0, .int .u32 0, .int .u32 0]) ?_ 1 _ rfl; (with_reducible repeat (first | refine qd ?_ _ | refine qf ?_ | refine qc ?_ _)); refine qx (cs := #[.int .i64 0, .slice none 0 0, .int .u32 0, .int .u32 0]) ?_ 0 _ rfl; (with_reducible repeat (first | refine qd ?_ _ | refine qf ?_ | refine qc ?_ _)); exact BK240.out) Tryz.underlying80 rfl z76_2) rfl ?_
        exact ⟨_, z76_3, (by (with_reducible repeat (first | apply Kd.R_alloc | apply Kd.R_drewN | apply Kd.R_drew)); exact Kd.R_mono (Kd.R_far (p := ⟨gb240, 3, none⟩) (Kd.R_far (p := ⟨gb240, 2, none⟩) (Kd.R_far (p := ⟨gb240, 1, none⟩) (Kd.R_far (p := ⟨gb240, 0, none⟩) (Kd.R_types HO358.out BK240.out (by decide)) (fun _ hk => hk.2) (.int .i64 t355)) (fun _ hk => hk.2) (.slice Ao119 t356.length co119)) (fun _ hk => hk.2) (.int .u32 t359)) (fun _ hk => hk.2) (.int .u32 t360)) (fun _ hk => trivial)), z76_0⟩
       rw [if_neg c112] at H
       have c112b0 : (a0 == 31) = false := beq_eq_false_iff_ne.mpr c112
       have c112b1 : (a0 != 31) = true := bne_iff_ne.mpr c112
       by_cases c120 : a0 = 33
       ·rw [if_pos c120] at H
        have c120b0 : (a0 == 33) = true := beq_iff_eq.mpr c120
        have c120b1 : (a0 != 33) = false := bne_eq_false_iff_eq.mpr c120
        clear c120
        obtain ⟨y361, hy361⟩ : ∃ y_ : List Int, y_ = (([1, 2] : List Int)) := ⟨_, rfl⟩
        replace H : ((polyglotref05_two.f y361 1).bind fun bt364 => (some (bt364.1, bt364.2.1, bt364.2.2.1, bt364.2.2.2))) = some (r1, r2, r3, r4) := by first | (rw [hy361]; with_reducible exact H) | (have H2_ := (Option.bind_some _ _).symm.trans H; rw [hy361]; with_reducible exact H2_) | (have H2_ := (Option.bind_some _ _).symm.trans H; with_reducible exact H2_) | with_reducible exact H | (rw [hy361]; exact H) | exact H
        have Ny361 := Aside0.mk hy361
        clear hy361
        replace H := Option.bind_eq_some_iff.mp H
        obtain ⟨⟨t364, t365, t368, t369⟩, A1210, H⟩ := H
        replace H : (some (t364, t365, t368, t369)) = some (r1, r2, r3, r4) := H
        have A121 := Aside0.mk A1210
        clear A1210
        simp only [Option.some.injEq, Prod.mk.injEq] at H
        obtain ⟨rfl, rfl, rfl, rfl⟩ := H
        go_wp2_with (first | ((with_reducible refine q1c (N := 65) rfl ?_); refine Kd.R_lit (Kd.int .i64) _ 3 ?hg (N := 65) ?hd (xs := ([1, 2] : List Int)) (inner := [.int .i64 1, .int .i64 2]) (ok := fun _ => True) (okp := fun _ => True) ?hr ?hp (fun _ hk => hk) trivial (Below.refl _ _) (Nat.le_refl _) (by simp) ?_; (case hd => rfl); (case hg => rfl); (case hr => first | (go_simp; done) | (go_simp; rfl)); (case hp => exact (Reps.one (show Kd.M (Kd.int .i64) _ _ _ 1 [.int .i64 1] from rfl) (Reps.one (show Kd.M (Kd.int .i64) _ _ _ 2 [.int .i64 2] from rfl) (Reps.none _ _)))); intro v362 w122 ho123 hb hg_ hnew_; clear hg_ hnew_; (first | rw [← Ny361.out] at ho123 | (simp only [Int.reduceToNat] at ho123; rw [← Ny361.out] at ho123)); have n0_ := Aside0.mk (Kd.R_lower ho123 (qm z76_0)); have n1_ := Aside0.mk (qo (g := gb240) (o := .cells #[.int .i64 0, .slice none 0 0, .int .u32 0, .int .u32 0] 80 (0, 0)) z76_1 hb); have n2_ := Aside0.mk (qe z76_0 hb); clear BK240; clear HB; have HO363 := n0_; have BK240 := n1_; have HB := n2_; clear n0_ n1_ n2_; clear hb ho123; obtain ⟨Ao124, co124, eo124⟩ := Kd.R_slice HO363.out; subst eo124) | ((with_reducible refine ql (f := 118) rfl ?_); refine q1b (some 66) rfl rfl Tryz.func118 z76_2 rfl #[.slice Ao124 y361.length co124, .int .u32 1] rfl z76_4 ?_; (with_reducible refine (polyglotref05_two.calls (fun k_ => some k_ = (.slice Ao124 y361.length co124 : Value).ownBlock) (.slice Ao124 y361.length co124) y361 1 t364 t365 t368 t369 w _ ?side1 ?side2 A121.out).mono ?_); (case side1 => repeat (first | (with_reducible first | exact HB.out | apply qg | apply qa | apply qi | refine qw ?_ GE240.out) | exact HB.out)); (case side2 => exact Kd.R_tight rfl HO363.out); rintro e w125 ⟨v366, rfl, ho0, hb, hkp⟩; refine ⟨_, rfl, ?_⟩; have n0_ := Aside0.mk (blk_kept z76_1 hkp (fun hs_ => (fun e_ => (Kd.R_ne HO363.out BK240.out (by decide)) e_) hs_)); have n1_ := Aside0.mk (Kd.R_mono (ok' := fun k_ => True) ho0 (fun k_ hk_ => trivial)); have n2_ := Aside0.mk (hb); clear BK240; clear HB; clear HO363; have BK240 := n0_; have HO367 := n1_; have HB := n2_; clear n0_ n1_ n2_; (try clear hb); (try clear hkp); (try clear ho0); have hcz126_0 := zbc BK240 0 (.int .i64 0); have hcz126_1 := zbc BK240 1 (.slice none 0 0); have hcz126_2 := zbc BK240 2 (.int .u32 0); have hcz126_3 := zbc BK240 3 (.int .u32 0); have hfz126_0 := q9 BK240.out 0; have hfz126_1 := q9 BK240.out 1; have hfz126_2 := q9 BK240.out 2; have hfz126_3 := q9 BK240.out 3; obtain ⟨Ao127, co127, eo127⟩ := Kd.R_slice HO367.out; subst eo127))
        refine bodyPost_ret (results_cell_row rfl _ _ gb240 80 #[.int .i64 t364, .slice Ao127 t365.length co127, .int .u32 t368, .int .u32 t369] (0, 0) _ rfl (by (with_reducible repeat (first | refine qd ?_ _ | refine qf ?_ | refine qc ?_ _)); refine qx (cs := #[.int .i64 t364, .slice Ao127 t365.length co127, .int .u32 t368, .int .u32 0]) ?_ 3 _ rfl; (with_reducible repeat (first | refine qd ?_ _ | refine qf ?_ | refine qc ?_ _)); refine qx (cs := #[.int .i64 t364, .slice Ao127 t365.length co127, .int .u32 0, .int .u32 0]) ?_ 2 _ rfl; (with_reducible repeat (first | refine qd ?_ _ | refine qf ?_ | refine qc ?_ _)); refine qx (cs := #[.int .i64 t364, .slice none 0 0, .int .u32 0, .int .u32 0]) ?_ 1 _ rfl; (with_reducible repeat (first | refine qd ?_ _ | refine qf ?_ | refine qc ?_ _)); refine qx (cs := #[.int .i64 0, .slice none 0 0, .int .u32 0, .int .u32 0]) ?_ 0 _ rfl; (with_reducible repeat (first | refine qd ?_ _ | refine qf ?_ | refine qc ?_ _)); exact BK240.out) Tryz.underlying80 rfl z76_2) rfl ?_
        exact ⟨_, z76_3, (by (with_reducible repeat (first | apply Kd.R_alloc | apply Kd.R_drewN | apply Kd.R_drew)); exact Kd.R_mono (Kd.R_far (p := ⟨gb240, 3, none⟩) (Kd.R_far (p := ⟨gb240, 2, none⟩) (Kd.R_far (p := ⟨gb240, 1, none⟩) (Kd.R_far (p := ⟨gb240, 0, none⟩) (Kd.R_types HO367.out BK240.out (by decide)) (fun _ hk => hk.2) (.int .i64 t364)) (fun _ hk => hk.2) (.slice Ao127 t365.length co127)) (fun _ hk => hk.2) (.int .u32 t368)) (fun _ hk => hk.2) (.int .u32 t369)) (fun _ hk => trivial)), z76_0⟩
       rw [if_neg c120] at H
       have c120b0 : (a0 == 33) = false := beq_eq_false_iff_ne.mpr c120
       have c120b1 : (a0 != 33) = true := bne_iff_ne.mpr c120
       by_cases c128 : a0 = 34
       ·rw [if_pos c128] at H
        have c128b0 : (a0 == 34) = true := beq_iff_eq.mpr c128
        have c128b1 : (a0 != 34) = false := bne_eq_false_iff_eq.mpr c128
        clear c128
        obtain ⟨y370, hy370⟩ : ∃ y_ : List Int, y_ = (([1, 2] : List Int)) := ⟨_, rfl⟩
        replace H : ((polyglotref05_two.f y370 0).bind fun bt373 => (some (bt373.1, bt373.2.1, bt373.2.2.1, bt373.2.2.2))) = some (r1, r2, r3, r4) := by first | (rw [hy370]; with_reducible exact H) | (have H2_ := (Option.bind_some _ _).symm.trans H; rw [hy370]; with_reducible exact H2_) | (have H2_ := (Option.bind_some _ _).symm.trans H; with_reducible exact H2_) | with_reducible exact H | (rw [hy370]; exact H) | exact H
        have Ny370 := Aside0.mk hy370
        clear hy370
        replace H := Option.bind_eq_some_iff.mp H
        obtain ⟨⟨t373, t374, t377, t378⟩, A1290, H⟩ := H
        replace H : (some (t373, t374, t377, t378)) = some (r1, r2, r3, r4) := H
        have A129 := Aside0.mk A1290
        clear A1290
        simp only [Option.some.injEq, Prod.mk.injEq] at H
        obtain ⟨rfl, rfl, rfl, rfl⟩ := H
        go_wp2_with (first | ((with_reducible refine q1c (N := 69) rfl ?_); refine Kd.R_lit (Kd.int .i64) _ 3 ?hg (N := 69) ?hd (xs := ([1, 2] : List Int)) (inner := [.int .i64 1, .int .i64 2]) (ok := fun _ => True) (okp := fun _ => True) ?hr ?hp (fun _ hk => hk) trivial (Below.refl _ _) (Nat.le_refl _) (by simp) ?_; (case hd => rfl); (case hg => rfl); (case hr => first | (go_simp; done) | (go_simp; rfl)); (case hp => exact (Reps.one (show Kd.M (Kd.int .i64) _ _ _ 1 [.int .i64 1] from rfl) (Reps.one (show Kd.M (Kd.int .i64) _ _ _ 2 [.int .i64 2] from rfl) (Reps.none _ _)))); intro v371 w130 ho131 hb hg_ hnew_; clear hg_ hnew_; (first | rw [← Ny370.out] at ho131 | (simp only [Int.reduceToNat] at ho131; rw [← Ny370.out] at ho131)); have n0_ := Aside0.mk (Kd.R_lower ho131 (qm z76_0)); have n1_ := Aside0.mk (qo (g := gb240) (o := .cells #[.int .i64 0, .slice none 0 0, .int .u32 0, .int .u32 0] 80 (0, 0)) z76_1 hb); have n2_ := Aside0.mk (qe z76_0 hb); clear BK240; clear HB; have HO372 := n0_; have BK240 := n1_; have HB := n2_; clear n0_ n1_ n2_; clear hb ho131; obtain ⟨Ao132, co132, eo132⟩ := Kd.R_slice HO372.out; subst eo132) | ((with_reducible refine ql (f := 118) rfl ?_); refine q1b (some 70) rfl rfl Tryz.func118 z76_2 rfl #[.slice Ao132 y370.length co132, .int .u32 0] rfl z76_4 ?_; (with_reducible refine (polyglotref05_two.calls (fun k_ => some k_ = (.slice Ao132 y370.length co132 : Value).ownBlock) (.slice Ao132 y370.length co132) y370 0 t373 t374 t377 t378 w _ ?side1 ?side2 A129.out).mono ?_); (case side1 => repeat (first | (with_reducible first | exact HB.out | apply qg | apply qa | apply qi | refine qw ?_ GE240.out) | exact HB.out)); (case side2 => exact Kd.R_tight rfl HO372.out); rintro e w133 ⟨v375, rfl, ho0, hb, hkp⟩; refine ⟨_, rfl, ?_⟩; have n0_ := Aside0.mk (blk_kept z76_1 hkp (fun hs_ => (fun e_ => (Kd.R_ne HO372.out BK240.out (by decide)) e_) hs_)); have n1_ := Aside0.mk (Kd.R_mono (ok' := fun k_ => True) ho0 (fun k_ hk_ => trivial)); have n2_ := Aside0.mk (hb); clear BK240; clear HB; clear HO372; have BK240 := n0_; have HO376 := n1_; have HB := n2_; clear n0_ n1_ n2_; (try clear hb); (try clear hkp); (try clear ho0); have hcz134_0 := zbc BK240 0 (.int .i64 0); have hcz134_1 := zbc BK240 1 (.slice none 0 0); have hcz134_2 := zbc BK240 2 (.int .u32 0); have hcz134_3 := zbc BK240 3 (.int .u32 0); have hfz134_0 := q9 BK240.out 0; have hfz134_1 := q9 BK240.out 1; have hfz134_2 := q9 BK240.out 2; have hfz134_3 := q9 BK240.out 3; obtain ⟨Ao135, co135, eo135⟩ := Kd.R_slice HO376.out; subst eo135))
        refine bodyPost_ret (results_cell_row rfl _ _ gb240 80 #[.int .i64 t373, .slice Ao135 t374.length co135, .int .u32 t377, .int .u32 t378] (0, 0) _ rfl (by (with_reducible repeat (first | refine qd ?_ _ | refine qf ?_ | refine qc ?_ _)); refine qx (cs := #[.int .i64 t373, .slice Ao135 t374.length co135, .int .u32 t377, .int .u32 0]) ?_ 3 _ rfl; (with_reducible repeat (first | refine qd ?_ _ | refine qf ?_ | refine qc ?_ _)); refine qx (cs := #[.int .i64 t373, .slice Ao135 t374.length co135, .int .u32 0, .int .u32 0]) ?_ 2 _ rfl; (with_reducible repeat (first | refine qd ?_ _ | refine qf ?_ | refine qc ?_ _)); refine qx (cs := #[.int .i64 t373, .slice none 0 0, .int .u32 0, .int .u32 0]) ?_ 1 _ rfl; (with_reducible repeat (first | refine qd ?_ _ | refine qf ?_ | refine qc ?_ _)); refine qx (cs := #[.int .i64 0, .slice none 0 0, .int .u32 0, .int .u32 0]) ?_ 0 _ rfl; (with_reducible repeat (first | refine qd ?_ _ | refine qf ?_ | refine qc ?_ _)); exact BK240.out) Tryz.underlying80 rfl z76_2) rfl ?_
        exact ⟨_, z76_3, (by (with_reducible repeat (first | apply Kd.R_alloc | apply Kd.R_drewN | apply Kd.R_drew)); exact Kd.R_mono (Kd.R_far (p := ⟨gb240, 3, none⟩) (Kd.R_far (p := ⟨gb240, 2, none⟩) (Kd.R_far (p := ⟨gb240, 1, none⟩) (Kd.R_far (p := ⟨gb240, 0, none⟩) (Kd.R_types HO376.out BK240.out (by decide)) (fun _ hk => hk.2) (.int .i64 t373)) (fun _ hk => hk.2) (.slice Ao135 t374.length co135)) (fun _ hk => hk.2) (.int .u32 t377)) (fun _ hk => hk.2) (.int .u32 t378)) (fun _ hk => trivial)), z76_0⟩
       rw [if_neg c128] at H
       have c128b0 : (a0 == 34) = false := beq_eq_false_iff_ne.mpr c128
       have c128b1 : (a0 != 34) = true := bne_iff_ne.mpr c128
       by_cases c136 : a0 = 35
       ·rw [if_pos c136] at H
        have c136b0 : (a0 == 35) = true := beq_iff_eq.mpr c136
        have c136b1 : (a0 != 35) = false := bne_eq_false_iff_eq.mpr c136
        clear c136
        obtain ⟨y379, hy379⟩ : ∃ y_ : List Int, y_ = (([3] : List Int)) := ⟨_, rfl⟩
        replace H : ((polyglotref05_two.f y379 1).bind fun bt382 => (some (bt382.1, bt382.2.1, bt382.2.2.1, bt382.2.2.2))) = some (r1, r2, r3, r4) := by first | (rw [hy379]; with_reducible exact H) | (have H2_ := (Option.bind_some _ _).symm.trans H; rw [hy379]; with_reducible exact H2_) | (have H2_ := (Option.bind_some _ _).symm.trans H; with_reducible exact H2_) | with_reducible exact H | (rw [hy379]; exact H) | exact H
        have Ny379 := Aside0.mk hy379
        clear hy379
        replace H := Option.bind_eq_some_iff.mp H
        obtain ⟨⟨t382, t383, t386, t387⟩, A1370, H⟩ := H
        replace H : (some (t382, t383, t386, t387)) = some (r1, r2, r3, r4) := H
        have A137 := Aside0.mk A1370
        clear A1370
        simp only [Option.some.injEq, Prod.mk.injEq] at H
        obtain ⟨rfl, rfl, rfl, rfl⟩ := H
        go_wp2_with (first | ((with_reducible refine q1c (N := 73) rfl ?_); refine Kd.R_lit (Kd.int .i64) _ 3 ?hg (N := 73) ?hd (xs := ([3] : List Int)) (inner := [.int .i64 3]) (ok := fun _ => True) (okp := fun _ => True) ?hr ?hp (fun _ hk => hk) trivial (Below.refl _ _) (Nat.le_refl _) (by simp) ?_; (case hd => rfl); (case hg => rfl); (case hr => first | (go_simp; done) | (go_simp; rfl)); (case hp => exact (Reps.one (show Kd.M (Kd.int .i64) _ _ _ 3 [.int .i64 3] from rfl) (Reps.none _ _))); intro v380 w138 ho139 hb hg_ hnew_; clear hg_ hnew_; (first | rw [← Ny379.out] at ho139 | (simp only [Int.reduceToNat] at ho139; rw [← Ny379.out] at ho139)); have n0_ := Aside0.mk (Kd.R_lower ho139 (qm z76_0)); have n1_ := Aside0.mk (qo (g := gb240) (o := .cells #[.int .i64 0, .slice none 0 0, .int .u32 0, .int .u32 0] 80 (0, 0)) z76_1 hb); have n2_ := Aside0.mk (qe z76_0 hb); clear BK240; clear HB; have HO381 := n0_; have BK240 := n1_; have HB := n2_; clear n0_ n1_ n2_; clear hb ho139; obtain ⟨Ao140, co140, eo140⟩ := Kd.R_slice HO381.out; subst eo140) | ((with_reducible refine ql (f := 118) rfl ?_); refine q1b (some 74) rfl rfl Tryz.func118 z76_2 rfl #[.slice Ao140 y379.length co140, .int .u32 1] rfl z76_4 ?_; (with_reducible refine (polyglotref05_two.calls (fun k_ => some k_ = (.slice Ao140 y379.length co140 : Value).ownBlock) (.slice Ao140 y379.length co140) y379 1 t382 t383 t386 t387 w _ ?side1 ?side2 A137.out).mono ?_); (case side1 => repeat (first | (with_reducible first | exact HB.out | apply qg | apply qa | apply qi | refine qw ?_ GE240.out) | exact HB.out)); (case side2 => exact Kd.R_tight rfl HO381.out); rintro e w141 ⟨v384, rfl, ho0, hb, hkp⟩; refine ⟨_, rfl, ?_⟩; have n0_ := Aside0.mk (blk_kept z76_1 hkp (fun hs_ => (fun e_ => (Kd.R_ne HO381.out BK240.out (by decide)) e_) hs_)); have n1_ := Aside0.mk (Kd.R_mono (ok' := fun k_ => True) ho0 (fun k_ hk_ => trivial)); have n2_ := Aside0.mk (hb); clear BK240; clear HB; clear HO381; have BK240 := n0_; have HO385 := n1_; have HB := n2_; clear n0_ n1_ n2_; (try clear hb); (try clear hkp); (try clear ho0); have hcz142_0 := zbc BK240 0 (.int .i64 0); have hcz142_1 := zbc BK240 1 (.slice none 0 0); have hcz142_2 := zbc BK240 2 (.int .u32 0); have hcz142_3 := zbc BK240 3 (.int .u32 0); have hfz142_0 := q9 BK240.out 0; have hfz142_1 := q9 BK240.out 1; have hfz142_2 := q9 BK240.out 2; have hfz142_3 := q9 BK240.out 3; obtain ⟨Ao143, co143, eo143⟩ := Kd.R_slice HO385.out; subst eo143))
        refine bodyPost_ret (results_cell_row rfl _ _ gb240 80 #[.int .i64 t382, .slice Ao143 t383.length co143, .int .u32 t386, .int .u32 t387] (0, 0) _ rfl (by (with_reducible repeat (first | refine qd ?_ _ | refine qf ?_ | refine qc ?_ _)); refine qx (cs := #[.int .i64 t382, .slice Ao143 t383.length co143, .int .u32 t386, .int .u32 0]) ?_ 3 _ rfl; (with_reducible repeat (first | refine qd ?_ _ | refine qf ?_ | refine qc ?_ _)); refine qx (cs := #[.int .i64 t382, .slice Ao143 t383.length co143, .int .u32 0, .int .u32 0]) ?_ 2 _ rfl; (with_reducible repeat (first | refine qd ?_ _ | refine qf ?_ | refine qc ?_ _)); refine qx (cs := #[.int .i64 t382, .slice none 0 0, .int .u32 0, .int .u32 0]) ?_ 1 _ rfl; (with_reducible repeat (first | refine qd ?_ _ | refine qf ?_ | refine qc ?_ _)); refine qx (cs := #[.int .i64 0, .slice none 0 0, .int .u32 0, .int .u32 0]) ?_ 0 _ rfl; (with_reducible repeat (first | refine qd ?_ _ | refine qf ?_ | refine qc ?_ _)); exact BK240.out) Tryz.underlying80 rfl z76_2) rfl ?_
        exact ⟨_, z76_3, (by (with_reducible repeat (first | apply Kd.R_alloc | apply Kd.R_drewN | apply Kd.R_drew)); exact Kd.R_mono (Kd.R_far (p := ⟨gb240, 3, none⟩) (Kd.R_far (p := ⟨gb240, 2, none⟩) (Kd.R_far (p := ⟨gb240, 1, none⟩) (Kd.R_far (p := ⟨gb240, 0, none⟩) (Kd.R_types HO385.out BK240.out (by decide)) (fun _ hk => hk.2) (.int .i64 t382)) (fun _ hk => hk.2) (.slice Ao143 t383.length co143)) (fun _ hk => hk.2) (.int .u32 t386)) (fun _ hk => hk.2) (.int .u32 t387)) (fun _ hk => trivial)), z76_0⟩
       rw [if_neg c136] at H
       have c136b0 : (a0 == 35) = false := beq_eq_false_iff_ne.mpr c136
       have c136b1 : (a0 != 35) = true := bne_iff_ne.mpr c136
       have HC144 := Aside0.mk H
       clear H
       go_upto_if 75 with (fail)
       go_cut [75] (fun v75 wc => ∃ (kq : Nat) (x75_143 : Bool), v75 = .bool x75_143 ∧ Aside0 (qn.j3 kq a0 x75_143 = some (r1, r2, r3, r4)) ∧ Aside0 (kq ≤ kj85) ∧ Aside0 (wc.heap[gb240]? = some (.cells #[.int .i64 0, (.slice none 0 0), .int .u32 0, .int .u32 0] 80 (0, 0))) ∧ Aside0 (Below w.heap.size w wc))
       case first =>
        have H := HC144.out
        clear HC144
        by_cases c145 : a0 = 36
        ·rw [if_pos c145] at H
         have c145b0 : (a0 == 36) = true := beq_iff_eq.mpr c145
         have c145b1 : (a0 != 36) = false := bne_eq_false_iff_eq.mpr c145
         clear c145
         (first | rw [c145b0] | (simp only [i64_w, i32_w]; rw [c145b0]) | skip)
         have H' := Aside0.mk H
         clear H
         go_wp2
         go_meet
         case rel => exact ⟨_, ((a0 == 36)), z76_5, H', ⟨z76_7⟩, ⟨z76_1⟩, ⟨z76_0⟩⟩
        rw [if_neg c145] at H
        have c145b0 : (a0 == 36) = false := beq_eq_false_iff_ne.mpr c145
        have c145b1 : (a0 != 36) = true := bne_iff_ne.mpr c145
        (first | rw [c145b0] | (simp only [i64_w, i32_w]; rw [c145b0]) | skip)
        by_cases c146 : a0 = 37
        ·rw [if_pos c146] at H
         have c146b0 : (a0 == 37) = true := beq_iff_eq.mpr c146
         have c146b1 : (a0 != 37) = false := bne_eq_false_iff_eq.mpr c146
         clear c146
         have H' := Aside0.mk H
         clear H
         go_wp2
         go_meet
         case rel => exact ⟨_, ((a0 == 37)), z76_5, H', ⟨z76_7⟩, ⟨z76_1⟩, ⟨z76_0⟩⟩
        rw [if_neg c146] at H
        have c146b0 : (a0 == 37) = false := beq_eq_false_iff_ne.mpr c146
        have c146b1 : (a0 != 37) = true := bne_iff_ne.mpr c146
        by_cases c147 : a0 = 40
        ·rw [if_pos c147] at H
         have c147b0 : (a0 == 40) = true := beq_iff_eq.mpr c147
         have c147b1 : (a0 != 40) = false := bne_eq_false_iff_eq.mpr c147
         clear c147
         have H' := Aside0.mk H
         clear H
         go_wp2
         go_meet
         case rel => exact ⟨_, ((a0 == 40)), z76_5, H', ⟨z76_7⟩, ⟨z76_1⟩, ⟨z76_0⟩⟩
        rw [if_neg c147] at H
        have c147b0 : (a0 == 40) = false := beq_eq_false_iff_ne.mpr c147
        have c147b1 : (a0 != 40) = true := bne_iff_ne.mpr c147
        by_cases c148 : a0 = 41
        ·rw [if_pos c148] at H
         have c148b0 : (a0 == 41) = true := beq_iff_eq.mpr c148
         have c148b1 : (a0 != 41) = false := bne_eq_false_iff_eq.mpr c148
         clear c148
         have H' := Aside0.mk H
         clear H
         go_wp2
         go_meet
         case rel => exact ⟨_, ((a0 == 41)), z76_5, H', ⟨z76_7⟩, ⟨z76_1⟩, ⟨z76_0⟩⟩
        rw [if_neg c148] at H
        have c148b0 : (a0 == 41) = false := beq_eq_false_iff_ne.mpr c148
        have c148b1 : (a0 != 41) = true := bne_iff_ne.mpr c148
        have H' := Aside0.mk H
        clear H
        go_wp2
        go_meet
        case rel => exact ⟨_, ((a0 == 42)), z76_5, H', ⟨z76_7⟩, ⟨z76_1⟩, ⟨z76_0⟩⟩
       case rest =>
        clear HC144
        clear c96 c96b0 c96b1 c104 c104b0 c104b1 c112 c112b0 c112b1 c120 c120b0 c120b1 c128 c128b0 c128b1 c136 c136b0 c136b1
        obtain ⟨kq, x75_143, rfl, HA, HJ143, BK240, HB⟩ := hcut
        cases kq with
        | zero => exact absurd HA.out (by simp [qn.j3])
        | succ kj143 =>
         have H := HA.out
         clear HA
         simp only [qn.j3] at H
         by_cases c149 : x75_143 = true
         ·subst c149
          rw [if_pos rfl] at H
          obtain ⟨y388, hy388⟩ : ∃ y_ : List Int, y_ = (([2] : List Int)) := ⟨_, rfl⟩
          replace H : ((polyglotref05_one.f y388).bind fun bt391 => (some (bt391.1, bt391.2.1, bt391.2.2.1, bt391.2.2.2))) = some (r1, r2, r3, r4) := by first | (rw [hy388]; with_reducible exact H) | (have H2_ := (Option.bind_some _ _).symm.trans H; rw [hy388]; with_reducible exact H2_) | (have H2_ := (Option.bind_some _ _).symm.trans H; with_reducible exact H2_) | with_reducible exact H | (rw [hy388]; exact H) | exact H
          have Ny388 := Aside0.mk hy388
          clear hy388
          replace H := Option.bind_eq_some_iff.mp H
          obtain ⟨⟨t391, t392, t395, t396⟩, A1500, H⟩ := H
          replace H : (some (t391, t392, t395, t396)) = some (r1, r2, r3, r4) := H
          have A150 := Aside0.mk A1500
          clear A1500
          simp only [Option.some.injEq, Prod.mk.injEq] at H
          obtain ⟨rfl, rfl, rfl, rfl⟩ := H
          go_wp2_with (first | ((with_reducible refine q1c (N := 81) rfl ?_); refine Kd.R_lit (Kd.int .i64) _ 3 ?hg (N := 81) ?hd (xs := ([2] : List Int)) (inner := [.int .i64 2]) (ok := fun _ => True) (okp := fun _ => True) ?hr ?hp (fun _ hk => hk) trivial (Below.refl _ _) (Nat.le_refl _) (by simp) ?_; (case hd => rfl); (case hg => rfl); (case hr => first | (go_simp; done) | (go_simp; rfl)); (case hp => exact (Reps.one (show Kd.M (Kd.int .i64) _ _ _ 2 [.int .i64 2] from rfl) (Reps.none _ _))); intro v389 w151 ho152 hb hg_ hnew_; clear hg_ hnew_; (first | rw [← Ny388.out] at ho152 | (simp only [Int.reduceToNat] at ho152; rw [← Ny388.out] at ho152)); have n0_ := Aside0.mk (Kd.R_lower ho152 (qm z76_0)); have n1_ := Aside0.mk (qo (g := gb240) (o := .cells #[.int .i64 0, .slice none 0 0, .int .u32 0, .int .u32 0] 80 (0, 0)) z76_1 hb); have n2_ := Aside0.mk (qe z76_0 hb); clear BK240; clear HB; have HO390 := n0_; have BK240 := n1_; have HB := n2_; clear n0_ n1_ n2_; clear hb ho152; obtain ⟨Ao153, co153, eo153⟩ := Kd.R_slice HO390.out; subst eo153) | ((with_reducible refine ql (f := 115) rfl ?_); refine q1b (some 82) rfl rfl Tryz.func115 z76_2 rfl #[.slice Ao153 y388.length co153] rfl z76_4 ?_; (with_reducible refine (polyglotref05_one.calls (fun k_ => some k_ = (.slice Ao153 y388.length co153 : Value).ownBlock) (.slice Ao153 y388.length co153) y388 t391 t392 t395 t396 w _ ?side1 ?side2 A150.out).mono ?_); (case side1 => repeat (first | (with_reducible first | exact HB.out | apply qg | apply qa | apply qi | refine qw ?_ GE240.out) | exact HB.out)); (case side2 => exact Kd.R_tight rfl HO390.out); rintro e w154 ⟨v393, rfl, ho0, hb, hkp⟩; refine ⟨_, rfl, ?_⟩; have n0_ := Aside0.mk (blk_kept z76_1 hkp (fun hs_ => (fun e_ => (Kd.R_ne HO390.out BK240.out (by decide)) e_) hs_)); have n1_ := Aside0.mk (Kd.R_mono (ok' := fun k_ => True) ho0 (fun k_ hk_ => trivial)); have n2_ := Aside0.mk (hb); clear BK240; clear HB; clear HO390; have BK240 := n0_; have HO394 := n1_; have HB := n2_; clear n0_ n1_ n2_; (try clear hb); (try clear hkp); (try clear ho0); have hcz155_0 := zbc BK240 0 (.int .i64 0); have hcz155_1 := zbc BK240 1 (.slice none 0 0); have hcz155_2 := zbc BK240 2 (.int .u32 0); have hcz155_3 := zbc BK240 3 (.int .u32 0); have hfz155_0 := q9 BK240.out 0; have hfz155_1 := q9 BK240.out 1; have hfz155_2 := q9 BK240.out 2; have hfz155_3 := q9 BK240.out 3; obtain ⟨Ao156, co156, eo156⟩ := Kd.R_slice HO394.out; subst eo156))
          refine bodyPost_ret (results_cell_row rfl _ _ gb240 80 #[.int .i64 t391, .slice Ao156 t392.length co156, .int .u32 t395, .int .u32 t396] (0, 0) _ rfl (by (with_reducible repeat (first | refine qd ?_ _ | refine qf ?_ | refine qc ?_ _)); refine qx (cs := #[.int .i64 t391, .slice Ao156 t392.length co156, .int .u32 t395, .int .u32 0]) ?_ 3 _ rfl; (with_reducible repeat (first | refine qd ?_ _ | refine qf ?_ | refine qc ?_ _)); refine qx (cs := #[.int .i64 t391, .slice Ao156 t392.length co156, .int .u32 0, .int .u32 0]) ?_ 2 _ rfl; (with_reducible repeat (first | refine qd ?_ _ | refine qf ?_ | refine qc ?_ _)); refine qx (cs := #[.int .i64 t391, .slice none 0 0, .int .u32 0, .int .u32 0]) ?_ 1 _ rfl; (with_reducible repeat (first | refine qd ?_ _ | refine qf ?_ | refine qc ?_ _)); refine qx (cs := #[.int .i64 0, .slice none 0 0, .int .u32 0, .int .u32 0]) ?_ 0 _ rfl; (with_reducible repeat (first | refine qd ?_ _ | refine qf ?_ | refine qc ?_ _)); exact BK240.out) Tryz.underlying80 rfl z76_2) rfl ?_
          exact ⟨_, z76_3, (by (with_reducible repeat (first | apply Kd.R_alloc | apply Kd.R_drewN | apply Kd.R_drew)); exact Kd.R_mono (Kd.R_far (p := ⟨gb240, 3, none⟩) (Kd.R_far (p := ⟨gb240, 2, none⟩) (Kd.R_far (p := ⟨gb240, 1, none⟩) (Kd.R_far (p := ⟨gb240, 0, none⟩) (Kd.R_types HO394.out BK240.out (by decide)) (fun _ hk => hk.2) (.int .i64 t391)) (fun _ hk => hk.2) (.slice Ao156 t392.length co156)) (fun _ hk => hk.2) (.int .u32 t395)) (fun _ hk => hk.2) (.int .u32 t396)) (fun _ hk => trivial)), z76_0⟩
         replace c149 := Bool.eq_false_iff.mpr c149
         subst c149
         rw [if_neg (show ¬ (false = true) by decide)] at H
         by_cases c157 : a0 = 38
         ·rw [if_pos c157] at H
          have c157b0 : (a0 == 38) = true := beq_iff_eq.mpr c157
          have c157b1 : (a0 != 38) = false := bne_eq_false_iff_eq.mpr c157
          clear c157
          obtain ⟨y397, hy397⟩ : ∃ y_ : List Int, y_ = (([1, 2, 3, 4, 5, 6, 7, 8, 9, 10, 11, 14, 15, 16] : List Int)) := ⟨_, rfl⟩
          replace H : ((q1l.f 7 y397).bind fun bt400 => (some (bt400.1, bt400.2.1, bt400.2.2.1, bt400.2.2.2))) = some (r1, r2, r3, r4) := by first | (rw [hy397]; with_reducible exact H) | (have H2_ := (Option.bind_some _ _).symm.trans H; rw [hy397]; with_reducible exact H2_) | (have H2_ := (Option.bind_some _ _).symm.trans H; with_reducible exact H2_) | with_reducible exact H | (rw [hy397]; exact H) | exact H
          have Ny397 := Aside0.mk hy397
          clear hy397
          replace H := Option.bind_eq_some_iff.mp H
          obtain ⟨⟨t400, t401, t404, t405⟩, A1580, H⟩ := H
          replace H : (some (t400, t401, t404, t405)) = some (r1, r2, r3, r4) := H
          have A158 := Aside0.mk A1580
          clear A1580
          simp only [Option.some.injEq, Prod.mk.injEq] at H
          obtain ⟨rfl, rfl, rfl, rfl⟩ := H
          go_wp2_with (first | ((with_reducible refine q1c (N := 85) rfl ?_); refine Kd.R_lit (Kd.int .i64) _ 3 ?hg (N := 85) ?hd (xs := ([1, 2, 3, 4, 5, 6, 7, 8, 9, 10, 11, 14, 15, 16] : List Int)) (inner := [.int .i64 1, .int .i64 2, .int .i64 3, .int .i64 4, .int .i64 5, .int .i64 6, .int .i64 7, .int .i64 8, .int .i64 9, .int .i64 10, .int .i64 11, .int .i64 14, .int .i64 15, .int .i64 16]) (ok := fun _ => True) (okp := fun _ => True) ?hr ?hp (fun _ hk => hk) trivial (Below.refl _ _) (Nat.le_refl _) (by simp) ?_; (case hd => rfl); (case hg => rfl); (case hr => first | (go_simp; done) | (go_simp; rfl)); (case hp => exact (Reps.one (show Kd.M (Kd.int .i64) _ _ _ 1 [.int .i64 1] from rfl) (Reps.one (show Kd.M (Kd.int .i64) _ _ _ 2 [.int .i64 2] from rfl) (Reps.one (show Kd.M (Kd.int .i64) _ _ _ 3 [.int .i64 3] from rfl) (Reps.one (show Kd.M (Kd.int .i64) _ _ _ 4 [.int .i64 4] from rfl) (Reps.one (show Kd.M (Kd.int .i64) _ _ _ 5 [.int .i64 5] from rfl) (Reps.one (show Kd.M (Kd.int .i64) _ _ _ 6 [.int .i64 6] from rfl) (Reps.one (show Kd.M (Kd.int .i64) _ _ _ 7 [.int .i64 7] from rfl) (Reps.one (show Kd.M (Kd.int .i64) _ _ _ 8 [.int .i64 8] from rfl) (Reps.one (show Kd.M (Kd.int .i64) _ _ _ 9 [.int .i64 9] from rfl) (Reps.one (show Kd.M (Kd.int .i64) _ _ _ 10 [.int .i64 10] from rfl) (Reps.one (show Kd.M (Kd.int .i64) _ _ _ 11 [.int .i64 11] from rfl) (Reps.one (show Kd.M (Kd.int .i64) _ _ _ 14 [.int .i64 14] from rfl) (Reps.one (show Kd.M (Kd.int .i64) _ _ _ 15 [.int .i64 15] from rfl) (Reps.one (show Kd.M (Kd.int .i64) _ _ _ 16 [.int .i64 16] from rfl) (Reps.none _ _)))))))))))))))); intro v398 w159 ho160 hb hg_ hnew_; clear hg_ hnew_; (first | rw [← Ny397.out] at ho160 | (simp only [Int.reduceToNat] at ho160; rw [← Ny397.out] at ho160)); have n0_ := Aside0.mk (Kd.R_lower ho160 (qm z76_0)); have n1_ := Aside0.mk (qo (g := gb240) (o := .cells #[.int .i64 0, .slice none 0 0, .int .u32 0, .int .u32 0] 80 (0, 0)) z76_1 hb); have n2_ := Aside0.mk (qe z76_0 hb); clear BK240; clear HB; have HO399 := n0_; have BK240 := n1_; have HB := n2_; clear n0_ n1_ n2_; clear hb ho160; obtain ⟨Ao161, co161, eo161⟩ := Kd.R_slice HO399.out; subst eo161) | ((with_reducible refine ql (f := 117) rfl ?_); refine q1b (some 86) rfl rfl Tryz.func117 z76_2 rfl #[.int .i64 7, .slice Ao161 y397.length co161] rfl z76_4 ?_; (with_reducible refine (q1l.calls 7 (fun k_ => some k_ = (.slice Ao161 y397.length co161 : Value).ownBlock) (.slice Ao161 y397.length co161) y397 t400 t401 t404 t405 w _ ?side1 ?side2 A158.out).mono ?_); (case side1 => repeat (first | (with_reducible first | exact HB.out | apply qg | apply qa | apply qi | refine qw ?_ GE240.out) | exact HB.out)); (case side2 => exact Kd.R_tight rfl HO399.out); rintro e w162 ⟨v402, rfl, ho0, hb, hkp⟩; refine ⟨_, rfl, ?_⟩; have n0_ := Aside0.mk (blk_kept z76_1 hkp (fun hs_ => (fun e_ => (Kd.R_ne HO399.out BK240.out (by decide)) e_) hs_)); have n1_ := Aside0.mk (Kd.R_mono (ok' := fun k_ => True) ho0 (fun k_ hk_ => trivial)); have n2_ := Aside0.mk (hb); clear BK240; clear HB; clear HO399; have BK240 := n0_; have HO403 := n1_; have HB := n2_; clear n0_ n1_ n2_; (try clear hb); (try clear hkp); (try clear ho0); have hcz163_0 := zbc BK240 0 (.int .i64 0); have hcz163_1 := zbc BK240 1 (.slice none 0 0); have hcz163_2 := zbc BK240 2 (.int .u32 0); have hcz163_3 := zbc BK240 3 (.int .u32 0); have hfz163_0 := q9 BK240.out 0; have hfz163_1 := q9 BK240.out 1; have hfz163_2 := q9 BK240.out 2; have hfz163_3 := q9 BK240.out 3; obtain ⟨Ao164, co164, eo164⟩ := Kd.R_slice HO403.out; subst eo164))
          refine bodyPost_ret (results_cell_row rfl _ _ gb240 80 #[.int .i64 t400, .slice Ao164 t401.length co164, .int .u32 t404, .int .u32 t405] (0, 0) _ rfl (by (with_reducible repeat (first | refine qd ?_ _ | refine qf ?_ | refine qc ?_ _)); refine qx (cs := #[.int .i64 t400, .slice Ao164 t401.length co164, .int .u32 t404, .int .u32 0]) ?_ 3 _ rfl; (with_reducible repeat (first | refine qd ?_ _ | refine qf ?_ | refine qc ?_ _)); refine qx (cs := #[.int .i64 t400, .slice Ao164 t401.length co164, .int .u32 0, .int .u32 0]) ?_ 2 _ rfl; (with_reducible repeat (first | refine qd ?_ _ | refine qf ?_ | refine qc ?_ _)); refine qx (cs := #[.int .i64 t400, .slice none 0 0, .int .u32 0, .int .u32 0]) ?_ 1 _ rfl; (with_reducible repeat (first | refine qd ?_ _ | refine qf ?_ | refine qc ?_ _)); refine qx (cs := #[.int .i64 0, .slice none 0 0, .int .u32 0, .int .u32 0]) ?_ 0 _ rfl; (with_reducible repeat (first | refine qd ?_ _ | refine qf ?_ | refine qc ?_ _)); exact BK240.out) Tryz.underlying80 rfl z76_2) rfl ?_
          exact ⟨_, z76_3, (by (with_reducible repeat (first | apply Kd.R_alloc | apply Kd.R_drewN | apply Kd.R_drew)); exact Kd.R_mono (Kd.R_far (p := ⟨gb240, 3, none⟩) (Kd.R_far (p := ⟨gb240, 2, none⟩) (Kd.R_far (p := ⟨gb240, 1, none⟩) (Kd.R_far (p := ⟨gb240, 0, none⟩) (Kd.R_types HO403.out BK240.out (by decide)) (fun _ hk => hk.2) (.int .i64 t400)) (fun _ hk => hk.2) (.slice Ao164 t401.length co164)) (fun _ hk => hk.2) (.int .u32 t404)) (fun _ hk => hk.2) (.int .u32 t405)) (fun _ hk => trivial)), z76_0⟩
         rw [if_neg c157] at H
         have c157b0 : (a0 == 38) = false := beq_eq_false_iff_ne.mpr c157
         have c157b1 : (a0 != 38) = true := bne_iff_ne.mpr c157
         by_cases c165 : a0 = 39
         ·rw [if_pos c165] at H
          have c165b0 : (a0 == 39) = true := beq_iff_eq.mpr c165
          have c165b1 : (a0 != 39) = false := bne_eq_false_iff_eq.mpr c165
          clear c165
          obtain ⟨y406, hy406⟩ : ∃ y_ : List Int, y_ = (([1, 2] : List Int)) := ⟨_, rfl⟩
          replace H : ((polyglotref05_four.f y406 1).bind fun bt409 => (some (bt409.1, bt409.2.1, bt409.2.2.1, bt409.2.2.2))) = some (r1, r2, r3, r4) := by first | (rw [hy406]; with_reducible exact H) | (have H2_ := (Option.bind_some _ _).symm.trans H; rw [hy406]; with_reducible exact H2_) | (have H2_ := (Option.bind_some _ _).symm.trans H; with_reducible exact H2_) | with_reducible exact H | (rw [hy406]; exact H) | exact H
          have Ny406 := Aside0.mk hy406
          clear hy406
          replace H := Option.bind_eq_some_iff.mp H
          obtain ⟨⟨t409, t410, t413, t414⟩, A1660, H⟩ := H
          replace H : (some (t409, t410, t413, t414)) = some (r1, r2, r3, r4) := H
          have A166 := Aside0.mk A1660
          clear A1660
          simp only [Option.some.injEq, Prod.mk.injEq] at H
          obtain ⟨rfl, rfl, rfl, rfl⟩ := H
          go_wp2_with (first | ((with_reducible refine q1c (N := 89) rfl ?_); refine Kd.R_lit (Kd.int .i64) _ 3 ?hg (N := 89) ?hd (xs := ([1, 2] : List Int)) (inner := [.int .i64 1, .int .i64 2]) (ok := fun _ => True) (okp := fun _ => True) ?hr ?hp (fun _ hk => hk) trivial (Below.refl _ _) (Nat.le_refl _) (by simp) ?_; (case hd => rfl); (case hg => rfl); (case hr => first | (go_simp; done) | (go_simp; rfl)); (case hp => exact (Reps.one (show Kd.M (Kd.int .i64) _ _ _ 1 [.int .i64 1] from rfl) (Reps.one (show Kd.M (Kd.int .i64) _ _ _ 2 [.int .i64 2] from rfl) (Reps.none _ _)))); intro v407 w167 ho168 hb hg_ hnew_; clear hg_ hnew_; (first | rw [← Ny406.out] at ho168 | (simp only [Int.reduceToNat] at ho168; rw [← Ny406.out] at ho168)); have n0_ := Aside0.mk (Kd.R_lower ho168 (qm z76_0)); have n1_ := Aside0.mk (qo (g := gb240) (o := .cells #[.int .i64 0, .slice none 0 0, .int .u32 0, .int .u32 0] 80 (0, 0)) z76_1 hb); have n2_ := Aside0.mk (qe z76_0 hb); clear BK240; clear HB; have HO408 := n0_; have BK240 := n1_; have HB := n2_; clear n0_ n1_ n2_; clear hb ho168; obtain ⟨Ao169, co169, eo169⟩ := Kd.R_slice HO408.out; subst eo169) | ((with_reducible refine ql (f := 116) rfl ?_); refine q1b (some 90) rfl rfl Tryz.func116 z76_2 rfl #[.slice Ao169 y406.length co169, .int .u32 1] rfl z76_4 ?_; (with_reducible refine (polyglotref05_four.calls (fun k_ => some k_ = (.slice Ao169 y406.length co169 : Value).ownBlock) (.slice Ao169 y406.length co169) y406 1 t409 t410 t413 t414 w _ ?side1 ?side2 A166.out).mono ?_); (case side1 => repeat (first | (with_reducible first | exact HB.out | apply qg | apply qa | apply qi | refine qw ?_ GE240.out) | exact HB.out)); (case side2 => exact Kd.R_tight rfl HO408.out); rintro e w170 ⟨v411, rfl, ho0, hb, hkp⟩; refine ⟨_, rfl, ?_⟩; have n0_ := Aside0.mk (blk_kept z76_1 hkp (fun hs_ => (fun e_ => (Kd.R_ne HO408.out BK240.out (by decide)) e_) hs_)); have n1_ := Aside0.mk (Kd.R_mono (ok' := fun k_ => True) ho0 (fun k_ hk_ => trivial)); have n2_ := Aside0.mk (hb); clear BK240; clear HB; clear HO408; have BK240 := n0_; have HO412 := n1_; have HB := n2_; clear n0_ n1_ n2_; (try clear hb); (try clear hkp); (try clear ho0); have hcz171_0 := zbc BK240 0 (.int .i64 0); have hcz171_1 := zbc BK240 1 (.slice none 0 0); have hcz171_2 := zbc BK240 2 (.int .u32 0); have hcz171_3 := zbc BK240 3 (.int .u32 0); have hfz171_0 := q9 BK240.out 0; have hfz171_1 := q9 BK240.out 1; have hfz171_2 := q9 BK240.out 2; have hfz171_3 := q9 BK240.out 3; obtain ⟨Ao172, co172, eo172⟩ := Kd.R_slice HO412.out; subst eo172))
          refine bodyPost_ret (results_cell_row rfl _ _ gb240 80 #[.int .i64 t409, .slice Ao172 t410.length co172, .int .u32 t413, .int .u32 t414] (0, 0) _ rfl (by (with_reducible repeat (first | refine qd ?_ _ | refine qf ?_ | refine qc ?_ _)); refine qx (cs := #[.int .i64 t409, .slice Ao172 t410.length co172, .int .u32 t413, .int .u32 0]) ?_ 3 _ rfl; (with_reducible repeat (first | refine qd ?_ _ | refine qf ?_ | refine qc ?_ _)); refine qx (cs := #[.int .i64 t409, .slice Ao172 t410.length co172, .int .u32 0, .int .u32 0]) ?_ 2 _ rfl; (with_reducible repeat (first | refine qd ?_ _ | refine qf ?_ | refine qc ?_ _)); refine qx (cs := #[.int .i64 t409, .slice none 0 0, .int .u32 0, .int .u32 0]) ?_ 1 _ rfl; (with_reducible repeat (first | refine qd ?_ _ | refine qf ?_ | refine qc ?_ _)); refine qx (cs := #[.int .i64 0, .slice none 0 0, .int .u32 0, .int .u32 0]) ?_ 0 _ rfl; (with_reducible repeat (first | refine qd ?_ _ | refine qf ?_ | refine qc ?_ _)); exact BK240.out) Tryz.underlying80 rfl z76_2) rfl ?_
          exact ⟨_, z76_3, (by (with_reducible repeat (first | apply Kd.R_alloc | apply Kd.R_drewN | apply Kd.R_drew)); exact Kd.R_mono (Kd.R_far (p := ⟨gb240, 3, none⟩) (Kd.R_far (p := ⟨gb240, 2, none⟩) (Kd.R_far (p := ⟨gb240, 1, none⟩) (Kd.R_far (p := ⟨gb240, 0, none⟩) (Kd.R_types HO412.out BK240.out (by decide)) (fun _ hk => hk.2) (.int .i64 t409)) (fun _ hk => hk.2) (.slice Ao172 t410.length co172)) (fun _ hk => hk.2) (.int .u32 t413)) (fun _ hk => hk.2) (.int .u32 t414)) (fun _ hk => trivial)), z76_0⟩
         rw [if_neg c165] at H
         have c165b0 : (a0 == 39) = false := beq_eq_false_iff_ne.mpr c165
         have c165b1 : (a0 != 39) = true := bne_iff_ne.mpr c165
         simp only [Option.some.injEq, Prod.mk.injEq] at H
         obtain ⟨rfl, rfl, rfl, rfl⟩ := H
         have hcz173_0 := zbc BK240 0 (.int .i64 0)
         have hcz173_1 := zbc BK240 1 (.slice none 0 0)
         have hcz173_2 := zbc BK240 2 (.int .u32 0)
         have hcz173_3 := zbc BK240 3 (.int .u32 0)
         have hfz173_0 := q9 BK240.out 0
         have hfz173_1 := q9 BK240.out 1
         have hfz173_2 := q9 BK240.out 2
         have hfz173_3 := q9 BK240.out 3
         go_wp2
         refine bodyPost_ret (results_cell_row rfl _ _ gb240 80 #[.int .i64 0, .slice none 0 0, .int .u32 0, .int .u32 0] (0, 0) _ rfl (by (with_reducible repeat (first | refine qd ?_ _ | refine qf ?_ | refine qc ?_ _)); refine qx (cs := #[.int .i64 0, .slice none 0 0, .int .u32 0, .int .u32 0]) ?_ 3 _ rfl; (with_reducible repeat (first | refine qd ?_ _ | refine qf ?_ | refine qc ?_ _)); refine qx (cs := #[.int .i64 0, .slice none 0 0, .int .u32 0, .int .u32 0]) ?_ 2 _ rfl; (with_reducible repeat (first | refine qd ?_ _ | refine qf ?_ | refine qc ?_ _)); refine qx (cs := #[.int .i64 0, .slice none 0 0, .int .u32 0, .int .u32 0]) ?_ 1 _ rfl; (with_reducible repeat (first | refine qd ?_ _ | refine qf ?_ | refine qc ?_ _)); refine qx (cs := #[.int .i64 0, .slice none 0 0, .int .u32 0, .int .u32 0]) ?_ 0 _ rfl; (with_reducible repeat (first | refine qd ?_ _ | refine qf ?_ | refine qc ?_ _)); exact BK240.out) Tryz.underlying80 rfl z76_2) rfl ?_
         exact ⟨_, z76_3, (by first | exact Kd.R_nil _ _ _ _ _ | exact Kd.N_nil _ _ _ _ _ | exact Kd.V_nil _ _ _ _ _ | exact Kd.Q_nil _ _ _ _ _ | exact Kd.S_nil _ _ _ _ _), z76_0⟩

end Go.Proofs.YtngmipfobcaojaaGreat.HA
end

-- YtngmipfobcaojaaGreatHA106
section
namespace Go.Proofs.YtngmipfobcaojaaGreat.HA
open Go.RowKit Go.Proofs.YtngmipfobcaojaaGreatW.PrintWords Go.Proofs.YtngmipfobcaojaaGreatW.PrintLast Go.Proofs.YtngmipfobcaojaaGreatW.PrintMore
attribute [local go_sem] q1k q1j q1s q1t q1a q19 q1h q1i

def q1f.j0 : Nat → ByteArray → Int → Int → Int → Bool → Int → Int → ByteArray → ByteArray → Option (Int × Int × ByteArray × ByteArray × Int × Int)
 | 0, _, _, _, _, _, _, _, _, _ => none
 | k + 1, x0, x6, x7, x21, x22, x565000, x565001, x565002, x565003 => if x22 = true then ((some (([0, 1, 2, 4] : List Int) : List Int)).bind fun y571 => (if 0 ≤ x6 then (if x6 < (y571.length : Int) then (if (wrap64 ((x0.size : Int) - x7)) < (rd y571 x6) then (some (x565000, x565001, x565002, x565003, 0, 5)) else (if 0 ≤ x7 then (if x7 ≤ (wrap64 (x7 + (rd y571 x6))) then (if (wrap64 (x7 + (rd y571 x6))) ≤ (x0.size : Int) then ((q1p.f k (x0.extract (x7 : Int).toNat ((wrap64 (x7 + (rd y571 x6))) : Int).toNat)).bind fun t575 => (some (x565000, (t575) % 4294967296, x565002, x565003, wrap64 (x7 + (rd y571 x6)), 0))) else (none)) else (none)) else (none))) else (none)) else (none))) else (if x21 = 4 then (if 0 ≤ x7 then (if x7 ≤ (x0.size : Int) then ((q1g.f k (x0.extract (x7 : Int).toNat x0.size)).bind fun bt576 => (if bt576.2.2 = 0 then (some (x565000, (bt576.1) % 4294967296, x565002, x565003, wrap64 (x7 + bt576.2.1), 0)) else (some (x565000, x565001, x565002, x565003, 0, 5)))) else (none)) else (none)) else ((polyglotref05_text.f k x0 x7 x6).bind fun bt579 => (if bt579.2.2 = 0 then (if x6 = 7 then ((polyglotref05_text.f k x0 bt579.2.1 x6).bind fun bt582 => (some (x565000, x565001, bt579.1, bt582.1, bt582.2.1, bt582.2.2))) else (some (x565000, x565001, bt579.1, x565003, bt579.2.1, bt579.2.2))) else (some (x565000, x565001, bt579.1, x565003, bt579.2.1, bt579.2.2)))))
def q1f.f (k : Nat) (a0 : ByteArray) : Option (Int × Int × ByteArray × ByteArray × Int × Int) := if 0 < (a0.size : Int) then ((qn.f k (wrap64 (bt a0 0))).bind fun bt565 => (if bt565.1 = 1 then (q1f.j0 k a0 bt565.1 1 bt565.1 (bt565.1 == 1) (wrap64 (bt a0 0)) 0 (⟨#[]⟩ : ByteArray) (⟨#[]⟩ : ByteArray)) else (if bt565.1 = 2 then (q1f.j0 k a0 bt565.1 1 bt565.1 (bt565.1 == 2) (wrap64 (bt a0 0)) 0 (⟨#[]⟩ : ByteArray) (⟨#[]⟩ : ByteArray)) else (q1f.j0 k a0 bt565.1 1 bt565.1 (bt565.1 == 3) (wrap64 (bt a0 0)) 0 (⟨#[]⟩ : ByteArray) (⟨#[]⟩ : ByteArray))))) else (none)
theorem z77_0 {p : Prop} (h : p := by repeat (first | (with_reducible first | exact HB.out | apply qg | apply qa | apply qi | refine qw ?_ GE563.out | refine qw ?_ GE564.out) | exact HB.out)) : p := h
theorem z77_1 {p : Prop} (h : p := by kernel_rfl) : p := h
theorem z77_2 {p : Prop} (h : p := by (with_reducible repeat (first | refine qd ?_ _ | refine qf ?_ | refine qc ?_ _)); exact BK563.out) : p := h
theorem z77_3 {p : Prop} (h : p := by (with_reducible repeat (first | refine qd ?_ _ | refine qf ?_ | refine qc ?_ _)); exact BK564.out) : p := h
theorem z77_4 {p : Prop} (h : p := by (try simp only [List.map_toArray, List.map_cons, List.map_nil]); first | done | rfl | (simp only [List.length_drop, List.length_take]; rfl)) : p := h
theorem z77_5 {p : Prop} (h : p := by first | rfl | (simp [qq, qp] <;> rfl) | (simp [*, qq, qp] <;> rfl)) : p := h
theorem z77_6 {p : Prop} (h : p := by first | (with_reducible assumption) | assumption) : p := h
theorem z77_7 {p : Prop} (h : p := by repeat (first | (with_reducible first | exact HB.out | apply qg | apply qa | apply qi) | exact HB.out)) : p := h
theorem z77_8 {p : Prop} (h : p := by repeat (first | (with_reducible first | exact HB.out | apply qg | apply qa | apply qi | refine qw ?_ GE563.out) | exact HB.out)) : p := h
theorem z77_9 {p : Prop} (h : p := by first | rfl | (simp; done) | (simp [*]; done) | (simp; exact qh _) | exact qh _ | (simp; exact (qh _).symm) | (simp; exact q15 _)) : p := h
theorem z77_10 {p : Prop} (h : p := by (with_reducible repeat (first | refine qd ?_ _ | refine qf ?_ | refine qc ?_ _)); refine qx (cs := #[.int .i64 (wrap64 (bt a0 0)), .int .u32 0, .string t579, .string (⟨#[]⟩ : ByteArray)]) ?_ 3 _ rfl; (with_reducible repeat (first | refine qd ?_ _ | refine qf ?_ | refine qc ?_ _)); refine qx (cs := #[.int .i64 (wrap64 (bt a0 0)), .int .u32 0, .string (⟨#[]⟩ : ByteArray), .string (⟨#[]⟩ : ByteArray)]) ?_ 2 _ rfl; (with_reducible repeat (first | refine qd ?_ _ | refine qf ?_ | refine qc ?_ _)); refine qx (cs := #[.int .i64 (wrap64 (bt a0 0)), .int .u32 0, .string (⟨#[]⟩ : ByteArray), .string (⟨#[]⟩ : ByteArray)]) ?_ 1 _ rfl; (with_reducible repeat (first | refine qd ?_ _ | refine qf ?_ | refine qc ?_ _)); refine qx (cs := #[.int .i64 0, .int .u32 0, .string (⟨#[]⟩ : ByteArray), .string (⟨#[]⟩ : ByteArray)]) ?_ 0 _ rfl; (with_reducible repeat (first | refine qd ?_ _ | refine qf ?_ | refine qc ?_ _)); refine blk_far ?_ NB563_564.out _; (with_reducible repeat (first | refine qd ?_ _ | refine qf ?_ | refine qc ?_ _)); exact BK563.out) : p := h
theorem z77_11 {p : Prop} (h : p := by (with_reducible repeat (first | refine qd ?_ _ | refine qf ?_ | refine qc ?_ _)); refine qx (cs := #[.int .i64 (wrap64 (bt a0 0)), .int .u32 0, .string (⟨#[]⟩ : ByteArray), .string (⟨#[]⟩ : ByteArray)]) ?_ 3 _ rfl; (with_reducible repeat (first | refine qd ?_ _ | refine qf ?_ | refine qc ?_ _)); refine qx (cs := #[.int .i64 (wrap64 (bt a0 0)), .int .u32 0, .string (⟨#[]⟩ : ByteArray), .string (⟨#[]⟩ : ByteArray)]) ?_ 2 _ rfl; (with_reducible repeat (first | refine qd ?_ _ | refine qf ?_ | refine qc ?_ _)); refine qx (cs := #[.int .i64 (wrap64 (bt a0 0)), .int .u32 0, .string (⟨#[]⟩ : ByteArray), .string (⟨#[]⟩ : ByteArray)]) ?_ 1 _ rfl; (with_reducible repeat (first | refine qd ?_ _ | refine qf ?_ | refine qc ?_ _)); refine qx (cs := #[.int .i64 0, .int .u32 0, .string (⟨#[]⟩ : ByteArray), .string (⟨#[]⟩ : ByteArray)]) ?_ 0 _ rfl; (with_reducible repeat (first | refine qd ?_ _ | refine qf ?_ | refine qc ?_ _)); exact BK563.out) : p := h
set_option maxHeartbeats 8000000 in
set_option maxRecDepth 100000 in
theorem q1f.calls (k : Nat) (a0 : ByteArray) (r1 : Int) (r2 : Int) (r3 : ByteArray) (r4 : ByteArray) (r5 : Int) (r6 : Int) (w : World) (h : q1f.f k a0 = some (r1, r2, r3, r4, r5, r6)) :
  Calls Tryz.prog 56 #[.string a0] w fun e w' => e = .returned (.tuple #[.agg #[.int .i64 r1, .int .u32 r2, .string r3, .string r4], .int .i64 r5, .int .i64 r6]) ∧ Below w.heap.size w w' := by
 have hu24 := Tryz.underlying24
 have hf80_0 : ∀ (v0 v1 v2 v3 : Value) (W : World), (Instr.field 80 (.agg #[v0, v1, v2, v3]) 0).run Tryz.prog W = .ok (v0) W := fun _ _ _ _ _ => by kernel_rfl
 have HB := Aside0.mk (Below.refl w.heap.size w)
 have H : (if 0 < (a0.size : Int) then ((qn.f k (wrap64 (bt a0 0))).bind fun bt565 => (if bt565.1 = 1 then (q1f.j0 k a0 bt565.1 1 bt565.1 (bt565.1 == 1) (wrap64 (bt a0 0)) 0 (⟨#[]⟩ : ByteArray) (⟨#[]⟩ : ByteArray)) else (if bt565.1 = 2 then (q1f.j0 k a0 bt565.1 1 bt565.1 (bt565.1 == 2) (wrap64 (bt a0 0)) 0 (⟨#[]⟩ : ByteArray) (⟨#[]⟩ : ByteArray)) else (q1f.j0 k a0 bt565.1 1 bt565.1 (bt565.1 == 3) (wrap64 (bt a0 0)) 0 (⟨#[]⟩ : ByteArray) (⟨#[]⟩ : ByteArray))))) else (none)) = some (r1, r2, r3, r4, r5, r6) := h
 clear h
 by_cases c2 : 0 < (a0.size : Int)
 ·rw [if_pos c2] at H
  have c2b0 : decide (0 < (a0.size : Int)) = true := decide_eq_true c2
  have c2b1 : decide (0 < a0.size) = true := decide_eq_true (by omega)
  clear c2
  replace H := Option.bind_eq_some_iff.mp H
  obtain ⟨⟨t565, t566, t569, t570⟩, A40, H⟩ := H
  replace H : (if t565 = 1 then (q1f.j0 k a0 t565 1 t565 (t565 == 1) (wrap64 (bt a0 0)) 0 (⟨#[]⟩ : ByteArray) (⟨#[]⟩ : ByteArray)) else (if t565 = 2 then (q1f.j0 k a0 t565 1 t565 (t565 == 2) (wrap64 (bt a0 0)) 0 (⟨#[]⟩ : ByteArray) (⟨#[]⟩ : ByteArray)) else (q1f.j0 k a0 t565 1 t565 (t565 == 3) (wrap64 (bt a0 0)) 0 (⟨#[]⟩ : ByteArray) (⟨#[]⟩ : ByteArray)))) = some (r1, r2, r3, r4, r5, r6) := H
  have A4 := Aside0.mk A40
  clear A40
  have HC5 := Aside0.mk H
  clear H
  go_enter Tryz.func56, Tryz.ntmps56
  go_upto_if 22 with (first | ((with_reducible refine q1c (N := 2) rfl ?_); refine q1r ?hg (N := 2) ?hd (cs := #[.int .i64 0, .int .u32 0, .string (⟨#[]⟩ : ByteArray), .string (⟨#[]⟩ : ByteArray)]) (t := 24) ?hr ?_; (case hd => rfl); (case hg => rfl); (case hr => first | (go_simp; done) | (go_simp; rfl)); intro gb563 hg w6 hbox hb; have n0_ := Aside0.mk (qe z77_7 hb); have n1_ := Aside0.mk (hbox); have n2_ := Aside0.mk ((by rw [hg]; exact (qm z77_7) : w.heap.size ≤ gb563)); have n3_ := Aside0.mk ((by rw [hg]; exact (qm z77_7) : w.heap.size ≤ gb563)); clear HB; have HB := n0_; have BK563 := n1_; have GW563 := n2_; have GE563 := n3_; clear n0_ n1_ n2_ n3_; clear hb hbox hg; have p3 : 0 ≤ (0 : Int) := (by omega); have q3 : 0 < a0.size := (by have : (0 : Int) < (a0.size : Int) := of_decide_eq_true z77_6; omega); have hx3 : ∀ h : 0 < a0.size, ((a0[0]'h).toNat : Int) = bt a0 0 := bt_at a0 0; clear p3; have qi3 : (0 < (a0.size : Int)) = True := eq_true (of_decide_eq_true z77_6); replace q3 := eq_true q3) | ((with_reducible refine q1c (N := 5) rfl ?_); refine q1r ?hg (N := 5) ?hd (cs := #[.int .i64 0, .int .u32 0, .string (⟨#[]⟩ : ByteArray), .string (⟨#[]⟩ : ByteArray)]) (t := 24) ?hr ?_; (case hd => rfl); (case hg => rfl); (case hr => first | (go_simp; done) | (go_simp; rfl)); intro gb564 hg w7 hbox hb; have n0_ := Aside0.mk (qo (g := gb563) (o := .cells #[.int .i64 0, .int .u32 0, .string (⟨#[]⟩ : ByteArray), .string (⟨#[]⟩ : ByteArray)] 24 (0, 0)) z77_2 hb); have n1_ := Aside0.mk (qe z77_8 hb); have n2_ := Aside0.mk (hbox); have n3_ := Aside0.mk ((by rw [hg]; exact (qm z77_8) : w.heap.size ≤ gb564)); have n4_ := Aside0.mk ((by rw [hg]; exact (qm z77_8) : w.heap.size ≤ gb564)); have n5_ := Aside0.mk ((by rw [hg]; exact Nat.ne_of_lt (blk_lt (g := gb563) (o := .cells #[.int .i64 0, .int .u32 0, .string (⟨#[]⟩ : ByteArray), .string (⟨#[]⟩ : ByteArray)] 24 (0, 0)) z77_2) : gb563 ≠ gb564)); have n6_ := Aside0.mk ((by rw [hg]; exact Nat.ne_of_gt (blk_lt (g := gb563) (o := .cells #[.int .i64 0, .int .u32 0, .string (⟨#[]⟩ : ByteArray), .string (⟨#[]⟩ : ByteArray)] 24 (0, 0)) z77_2) : gb564 ≠ gb563)); clear BK563; clear HB; have BK563 := n0_; have HB := n1_; have BK564 := n2_; have GW564 := n3_; have GE564 := n4_; have NB563_564 := n5_; have NB564_563 := n6_; clear n0_ n1_ n2_ n3_ n4_ n5_ n6_; clear hb hbox hg; have hnb8 := NB564_563.out; have hnc8 := NB563_564.out; have hcz9_0 := zbc BK564 0 (.int .i64 0); have hcz9_1 := zbc BK564 1 (.int .u32 0); have hcz9_2 := zbc BK564 2 (.string (⟨#[]⟩ : ByteArray)); have hcz9_3 := zbc BK564 3 (.string (⟨#[]⟩ : ByteArray)); have hfz9_0 := q9 BK564.out 0; have hfz9_1 := q9 BK564.out 1; have hfz9_2 := q9 BK564.out 2; have hfz9_3 := q9 BK564.out 3) | ((with_reducible refine ql (f := 59) rfl ?_); refine q1b (some 19) rfl rfl Tryz.func59 z77_1 rfl #[.int .i64 (wrap64 (bt a0 0))] rfl z77_4 ?_; (with_reducible refine (qn.calls k (wrap64 (bt a0 0)) t565 t566 t569 t570 _ A4.out).mono ?_); rintro e w10 ⟨v567, rfl, ho0, hb⟩; refine ⟨_, rfl, ?_⟩; have n0_ := Aside0.mk (Kd.R_lower ho0 (qm z77_0)); have n1_ := Aside0.mk (qo (g := gb563) (o := .cells #[.int .i64 0, .int .u32 0, .string (⟨#[]⟩ : ByteArray), .string (⟨#[]⟩ : ByteArray)] 24 (0, 0)) (by (with_reducible repeat (first | refine qd ?_ _ | refine qf ?_ | refine qc ?_ _)); refine blk_far ?_ NB563_564.out _; (with_reducible repeat (first | refine qd ?_ _ | refine qf ?_ | refine qc ?_ _)); refine blk_far ?_ NB563_564.out _; (with_reducible repeat (first | refine qd ?_ _ | refine qf ?_ | refine qc ?_ _)); refine blk_far ?_ NB563_564.out _; (with_reducible repeat (first | refine qd ?_ _ | refine qf ?_ | refine qc ?_ _)); refine blk_far ?_ NB563_564.out _; (with_reducible repeat (first | refine qd ?_ _ | refine qf ?_ | refine qc ?_ _)); exact BK563.out) hb); have n2_ := Aside0.mk (qo (g := gb564) (o := .cells #[.int .i64 (wrap64 (bt a0 0)), .int .u32 0, .string (⟨#[]⟩ : ByteArray), .string (⟨#[]⟩ : ByteArray)] 24 (0, 0)) (by (with_reducible repeat (first | refine qd ?_ _ | refine qf ?_ | refine qc ?_ _)); refine qx (cs := #[.int .i64 (wrap64 (bt a0 0)), .int .u32 0, .string (⟨#[]⟩ : ByteArray), .string (⟨#[]⟩ : ByteArray)]) ?_ 3 _ rfl; (with_reducible repeat (first | refine qd ?_ _ | refine qf ?_ | refine qc ?_ _)); refine qx (cs := #[.int .i64 (wrap64 (bt a0 0)), .int .u32 0, .string (⟨#[]⟩ : ByteArray), .string (⟨#[]⟩ : ByteArray)]) ?_ 2 _ rfl; (with_reducible repeat (first | refine qd ?_ _ | refine qf ?_ | refine qc ?_ _)); refine qx (cs := #[.int .i64 (wrap64 (bt a0 0)), .int .u32 0, .string (⟨#[]⟩ : ByteArray), .string (⟨#[]⟩ : ByteArray)]) ?_ 1 _ rfl; (with_reducible repeat (first | refine qd ?_ _ | refine qf ?_ | refine qc ?_ _)); refine qx (cs := #[.int .i64 0, .int .u32 0, .string (⟨#[]⟩ : ByteArray), .string (⟨#[]⟩ : ByteArray)]) ?_ 0 _ rfl; (with_reducible repeat (first | refine qd ?_ _ | refine qf ?_ | refine qc ?_ _)); exact BK564.out) hb); have n3_ := Aside0.mk (qe z77_0 hb); clear BK563; clear BK564; clear HB; have HO568 := n0_; have BK563 := n1_; have BK564 := n2_; have HB := n3_; clear n0_ n1_ n2_ n3_; (try clear hb); (try clear hb2); (try clear hk); (try clear hi); (try clear ho0)))
  (try simp only [Act.put, List.setIfInBounds_toArray, List.set_cons_zero, List.set_cons_succ])
  go_cut [22] (fun v22 wc => ∃ (kq : Nat) (x22_4 : Bool), v22 = .bool x22_4 ∧ Aside0 (q1f.j0 kq a0 t565 1 t565 x22_4 (wrap64 (bt a0 0)) 0 (⟨#[]⟩ : ByteArray) (⟨#[]⟩ : ByteArray) = some (r1, r2, r3, r4, r5, r6)) ∧ Aside0 (kq ≤ k) ∧ Aside0 (wc.heap[gb563]? = some (.cells #[.int .i64 0, .int .u32 0, .string (⟨#[]⟩ : ByteArray), .string (⟨#[]⟩ : ByteArray)] 24 (0, 0))) ∧ Aside0 (wc.heap[gb564]? = some (.cells #[.int .i64 (wrap64 (bt a0 0)), .int .u32 0, .string (⟨#[]⟩ : ByteArray), .string (⟨#[]⟩ : ByteArray)] 24 (0, 0))) ∧ Aside0 (Below w.heap.size w wc))
  case first =>
   have H := HC5.out
   clear HC5
   by_cases c11 : t565 = 1
   ·rw [if_pos c11] at H
    have c11b0 : (t565 == 1) = true := beq_iff_eq.mpr c11
    have c11b1 : (t565 != 1) = false := bne_eq_false_iff_eq.mpr c11
    clear c11
    (first | rw [c11b0] | (simp only [i64_w, i32_w]; rw [c11b0]) | skip)
    have H' := Aside0.mk H
    clear H
    go_wp2
    go_meet
    case rel => exact ⟨_, ((t565 == 1)), z77_9, H', ⟨(by first | omega | exact Nat.le_refl _)⟩, ⟨z77_2⟩, ⟨z77_3⟩, ⟨z77_0⟩⟩
   rw [if_neg c11] at H
   have c11b0 : (t565 == 1) = false := beq_eq_false_iff_ne.mpr c11
   have c11b1 : (t565 != 1) = true := bne_iff_ne.mpr c11
   (first | rw [c11b0] | (simp only [i64_w, i32_w]; rw [c11b0]) | skip)
   by_cases c12 : t565 = 2
   ·rw [if_pos c12] at H
    have c12b0 : (t565 == 2) = true := beq_iff_eq.mpr c12
    have c12b1 : (t565 != 2) = false := bne_eq_false_iff_eq.mpr c12
    clear c12
    have H' := Aside0.mk H
    clear H
    go_wp2
    go_meet
    case rel => exact ⟨_, ((t565 == 2)), z77_9, H', ⟨(by first | omega | exact Nat.le_refl _)⟩, ⟨z77_2⟩, ⟨z77_3⟩, ⟨z77_0⟩⟩
   rw [if_neg c12] at H
   have c12b0 : (t565 == 2) = false := beq_eq_false_iff_ne.mpr c12
   have c12b1 : (t565 != 2) = true := bne_iff_ne.mpr c12
   have H' := Aside0.mk H
   clear H
   go_wp2
   go_meet
   case rel => exact ⟨_, ((t565 == 3)), z77_9, H', ⟨(by first | omega | exact Nat.le_refl _)⟩, ⟨z77_2⟩, ⟨z77_3⟩, ⟨z77_0⟩⟩
  case rest =>
   clear HC5
   clear c2b0 c2b1 q3 hx3 qi3 hcz9_0 hcz9_1 hcz9_2 hcz9_3 hfz9_0 hfz9_1 hfz9_2 hfz9_3
   obtain ⟨kq, x22_4, rfl, HA, HJ4, BK563, BK564, HB⟩ := hcut
   cases kq with
   | zero => exact absurd HA.out (by simp [q1f.j0])
   | succ kj4 =>
    have H := HA.out
    clear HA
    simp only [q1f.j0] at H
    by_cases c13 : x22_4 = true
    ·subst c13
     have H1 : ((some (([0, 1, 2, 4] : List Int) : List Int)).bind fun y571 => (if 0 ≤ t565 then (if t565 < (y571.length : Int) then (if (wrap64 ((a0.size : Int) - 1)) < (rd y571 t565) then (some ((wrap64 (bt a0 0)), 0, (⟨#[]⟩ : ByteArray), (⟨#[]⟩ : ByteArray), 0, 5)) else (if 0 ≤ 1 then (if 1 ≤ (wrap64 (1 + (rd y571 t565))) then (if (wrap64 (1 + (rd y571 t565))) ≤ (a0.size : Int) then ((q1p.f kj4 (a0.extract (1 : Int).toNat ((wrap64 (1 + (rd y571 t565))) : Int).toNat)).bind fun t575 => (some ((wrap64 (bt a0 0)), (t575) % 4294967296, (⟨#[]⟩ : ByteArray), (⟨#[]⟩ : ByteArray), wrap64 (1 + (rd y571 t565)), 0))) else (none)) else (none)) else (none))) else (none)) else (none))) = some (r1, r2, r3, r4, r5, r6) := by rw [if_pos rfl] at H; exact H
     clear H
     have H := H1
     clear H1
     obtain ⟨y571, hy571⟩ : ∃ y_ : List Int, y_ = (([0, 1, 2, 4] : List Int)) := ⟨_, rfl⟩
     replace H : (if 0 ≤ t565 then (if t565 < (y571.length : Int) then (if (wrap64 ((a0.size : Int) - 1)) < (rd y571 t565) then (some ((wrap64 (bt a0 0)), 0, (⟨#[]⟩ : ByteArray), (⟨#[]⟩ : ByteArray), 0, 5)) else (if 0 ≤ 1 then (if 1 ≤ (wrap64 (1 + (rd y571 t565))) then (if (wrap64 (1 + (rd y571 t565))) ≤ (a0.size : Int) then ((q1p.f kj4 (a0.extract (1 : Int).toNat ((wrap64 (1 + (rd y571 t565))) : Int).toNat)).bind fun t575 => (some ((wrap64 (bt a0 0)), (t575) % 4294967296, (⟨#[]⟩ : ByteArray), (⟨#[]⟩ : ByteArray), wrap64 (1 + (rd y571 t565)), 0))) else (none)) else (none)) else (none))) else (none)) else (none)) = some (r1, r2, r3, r4, r5, r6) := by first | (rw [hy571]; with_reducible exact H) | (have H2_ := (Option.bind_some _ _).symm.trans H; rw [hy571]; with_reducible exact H2_) | (have H2_ := (Option.bind_some _ _).symm.trans H; with_reducible exact H2_) | with_reducible exact H | (rw [hy571]; exact H) | exact H
     have Ny571 := Aside0.mk hy571
     clear hy571
     by_cases c14 : 0 ≤ t565
     ·rw [if_pos c14] at H
      have c14b0 : decide (0 ≤ t565) = true := decide_eq_true c14
      clear c14
      by_cases c15 : t565 < (y571.length : Int)
      ·rw [if_pos c15] at H
       have c15b0 : decide (t565 < (y571.length : Int)) = true := decide_eq_true c15
       clear c15
       by_cases c16 : (wrap64 ((a0.size : Int) - 1)) < (rd y571 t565)
       ·rw [if_pos c16] at H
        have c16b0 : decide ((wrap64 ((a0.size : Int) - 1)) < (rd y571 t565)) = true := decide_eq_true c16
        clear c16
        simp only [Option.some.injEq, Prod.mk.injEq] at H
        obtain ⟨rfl, rfl, rfl, rfl, rfl, rfl⟩ := H
        go_wp2_with (first | ((with_reducible refine q1c (N := 26) rfl ?_); refine Kd.R_lit (Kd.int .i64) _ 3 ?hg (N := 26) ?hd (xs := ([0, 1, 2, 4] : List Int)) (inner := [.int .i64 0, .int .i64 1, .int .i64 2, .int .i64 4]) (ok := fun _ => True) (okp := fun _ => True) ?hr ?hp (fun _ hk => hk) trivial (Below.refl _ _) (Nat.le_refl _) (by simp) ?_; (case hd => rfl); (case hg => rfl); (case hr => first | (go_simp; done) | (go_simp; rfl)); (case hp => exact (Reps.one (show Kd.M (Kd.int .i64) _ _ _ 0 [.int .i64 0] from rfl) (Reps.one (show Kd.M (Kd.int .i64) _ _ _ 1 [.int .i64 1] from rfl) (Reps.one (show Kd.M (Kd.int .i64) _ _ _ 2 [.int .i64 2] from rfl) (Reps.one (show Kd.M (Kd.int .i64) _ _ _ 4 [.int .i64 4] from rfl) (Reps.none _ _)))))); intro v572 w17 ho18 hb hg_ hnew_; clear hg_ hnew_; (first | rw [← Ny571.out] at ho18 | (simp only [Int.reduceToNat] at ho18; rw [← Ny571.out] at ho18)); have n0_ := Aside0.mk (Kd.R_lower ho18 (qm z77_0)); have n1_ := Aside0.mk (qo (g := gb563) (o := .cells #[.int .i64 0, .int .u32 0, .string (⟨#[]⟩ : ByteArray), .string (⟨#[]⟩ : ByteArray)] 24 (0, 0)) z77_2 hb); have n2_ := Aside0.mk (qo (g := gb564) (o := .cells #[.int .i64 (wrap64 (bt a0 0)), .int .u32 0, .string (⟨#[]⟩ : ByteArray), .string (⟨#[]⟩ : ByteArray)] 24 (0, 0)) z77_3 hb); have n3_ := Aside0.mk (qe z77_0 hb); clear BK563; clear BK564; clear HB; have HO573 := n0_; have BK563 := n1_; have BK564 := n2_; have HB := n3_; clear n0_ n1_ n2_ n3_; clear hb ho18; obtain ⟨Ao19, co19, eo19⟩ := Kd.R_slice HO573.out; subst eo19; have p574 : 0 ≤ (t565 : Int) := of_decide_eq_true z77_6; have q574 : t565 < (y571.length : Int) := of_decide_eq_true z77_6; obtain ⟨ad574, e574, hx574_0⟩ := Kd.at_int (Kd.R_reads' HO573.out).2.2 t565 p574 q574; cases e574; replace p574 := eq_true p574; replace q574 := eq_true q574; have hnb20 := NB564_563.out; have hnc20 := NB563_564.out; have hcz21_0 := zbc BK564 0 (.int .i64 (wrap64 (bt a0 0))); have hcz21_1 := zbc BK564 1 (.int .u32 0); have hcz21_2 := zbc BK564 2 (.string (⟨#[]⟩ : ByteArray)); have hcz21_3 := zbc BK564 3 (.string (⟨#[]⟩ : ByteArray)); have hfz21_0 := q9 BK564.out 0; have hfz21_1 := q9 BK564.out 1; have hfz21_2 := q9 BK564.out 2; have hfz21_3 := q9 BK564.out 3; have hcz22_0 := zbc BK563 0 (.int .i64 0); have hcz22_1 := zbc BK563 1 (.int .u32 0); have hcz22_2 := zbc BK563 2 (.string (⟨#[]⟩ : ByteArray)); have hcz22_3 := zbc BK563 3 (.string (⟨#[]⟩ : ByteArray)); have hfz22_0 := q9 BK563.out 0; have hfz22_1 := q9 BK563.out 1; have hfz22_2 := q9 BK563.out 2; have hfz22_3 := q9 BK563.out 3))
        refine bodyPost_ret (results_ctt rfl _ _ gb563 24 #[.int .i64 (wrap64 (bt a0 0)), .int .u32 0, .string (⟨#[]⟩ : ByteArray), .string (⟨#[]⟩ : ByteArray)] (0, 0) _ rfl z77_11 Tryz.underlying24 rfl z77_1) rfl ?_
        exact ⟨z77_5, z77_0⟩
       rw [if_neg c16] at H
       have c16b0 : decide ((wrap64 ((a0.size : Int) - 1)) < (rd y571 t565)) = false := decide_eq_false c16
       clear c16
       by_cases c23 : 0 ≤ 1
       ·rw [if_pos c23] at H
        have c23b0 := eq_true c23
        have c23b1 : decide (0 ≤ 1) = true := decide_eq_true c23
        clear c23
        by_cases c24 : 1 ≤ (wrap64 (1 + (rd y571 t565)))
        ·rw [if_pos c24] at H
         have c24b0 := eq_true c24
         have c24b1 : decide (1 ≤ (wrap64 (1 + (rd y571 t565)))) = true := decide_eq_true c24
         by_cases c25 : (wrap64 (1 + (rd y571 t565))) ≤ (a0.size : Int)
         ·rw [if_pos c25] at H
          have c25b0 := eq_true c25
          have c25b1 : decide ((wrap64 (1 + (rd y571 t565))) ≤ (a0.size : Int)) = true := decide_eq_true c25
          replace H := Option.bind_eq_some_iff.mp H
          obtain ⟨t575, A260, H⟩ := H
          replace H : (some ((wrap64 (bt a0 0)), (t575) % 4294967296, (⟨#[]⟩ : ByteArray), (⟨#[]⟩ : ByteArray), wrap64 (1 + (rd y571 t565)), 0)) = some (r1, r2, r3, r4, r5, r6) := H
          have A26 := Aside0.mk A260
          clear A260
          simp only [Option.some.injEq, Prod.mk.injEq] at H
          obtain ⟨rfl, rfl, rfl, rfl, rfl, rfl⟩ := H
          go_wp2_with (first | ((with_reducible refine q1c (N := 26) rfl ?_); refine Kd.R_lit (Kd.int .i64) _ 3 ?hg (N := 26) ?hd (xs := ([0, 1, 2, 4] : List Int)) (inner := [.int .i64 0, .int .i64 1, .int .i64 2, .int .i64 4]) (ok := fun _ => True) (okp := fun _ => True) ?hr ?hp (fun _ hk => hk) trivial (Below.refl _ _) (Nat.le_refl _) (by simp) ?_; (case hd => rfl); (case hg => rfl); (case hr => first | (go_simp; done) | (go_simp; rfl)); (case hp => exact (Reps.one (show Kd.M (Kd.int .i64) _ _ _ 0 [.int .i64 0] from rfl) (Reps.one (show Kd.M (Kd.int .i64) _ _ _ 1 [.int .i64 1] from rfl) (Reps.one (show Kd.M (Kd.int .i64) _ _ _ 2 [.int .i64 2] from rfl) (Reps.one (show Kd.M (Kd.int .i64) _ _ _ 4 [.int .i64 4] from rfl) (Reps.none _ _)))))); intro v572 w27 ho28 hb hg_ hnew_; clear hg_ hnew_; (first | rw [← Ny571.out] at ho28 | (simp only [Int.reduceToNat] at ho28; rw [← Ny571.out] at ho28)); have n0_ := Aside0.mk (Kd.R_lower ho28 (qm z77_0)); have n1_ := Aside0.mk (qo (g := gb563) (o := .cells #[.int .i64 0, .int .u32 0, .string (⟨#[]⟩ : ByteArray), .string (⟨#[]⟩ : ByteArray)] 24 (0, 0)) z77_2 hb); have n2_ := Aside0.mk (qo (g := gb564) (o := .cells #[.int .i64 (wrap64 (bt a0 0)), .int .u32 0, .string (⟨#[]⟩ : ByteArray), .string (⟨#[]⟩ : ByteArray)] 24 (0, 0)) z77_3 hb); have n3_ := Aside0.mk (qe z77_0 hb); clear BK563; clear BK564; clear HB; have HO573 := n0_; have BK563 := n1_; have BK564 := n2_; have HB := n3_; clear n0_ n1_ n2_ n3_; clear hb ho28; obtain ⟨Ao29, co29, eo29⟩ := Kd.R_slice HO573.out; subst eo29; have p574 : 0 ≤ (t565 : Int) := of_decide_eq_true z77_6; have q574 : t565 < (y571.length : Int) := of_decide_eq_true z77_6; obtain ⟨ad574, e574, hx574_0⟩ := Kd.at_int (Kd.R_reads' HO573.out).2.2 t565 p574 q574; cases e574; replace p574 := eq_true p574; replace q574 := eq_true q574) | ((with_reducible refine ql (f := 113) rfl ?_); refine q1b (some 43) rfl rfl Tryz.func113 z77_1 rfl #[.string (a0.extract (1 : Int).toNat ((wrap64 (1 + (rd y571 t565))) : Int).toNat)] rfl z77_4 ?_; (with_reducible refine (q1p.calls kj4 (a0.extract (1 : Int).toNat ((wrap64 (1 + (rd y571 t565))) : Int).toNat) t575 _ A26.out).mono ?_); rintro e w30 ⟨rfl, hb⟩; refine ⟨_, rfl, ?_⟩; have n0_ := Aside0.mk (Kd.R_below (by (with_reducible repeat (first | apply Kd.R_alloc | apply Kd.R_drewN | apply Kd.R_drew)); exact HO573.out) hb); have n1_ := Aside0.mk (qo (g := gb563) (o := .cells #[.int .i64 0, .int .u32 0, .string (⟨#[]⟩ : ByteArray), .string (⟨#[]⟩ : ByteArray)] 24 (0, 0)) z77_2 hb); have n2_ := Aside0.mk (qo (g := gb564) (o := .cells #[.int .i64 (wrap64 (bt a0 0)), .int .u32 0, .string (⟨#[]⟩ : ByteArray), .string (⟨#[]⟩ : ByteArray)] 24 (0, 0)) z77_3 hb); have n3_ := Aside0.mk (qe z77_0 hb); clear HO573; clear BK563; clear BK564; clear HB; have HO573 := n0_; have BK563 := n1_; have BK564 := n2_; have HB := n3_; clear n0_ n1_ n2_ n3_; (try clear hb); (try clear hb2); (try clear hk); (try clear hi); have hnb31 := NB564_563.out; have hnc31 := NB563_564.out; have hcz32_0 := zbc BK564 0 (.int .i64 (wrap64 (bt a0 0))); have hcz32_1 := zbc BK564 1 (.int .u32 0); have hcz32_2 := zbc BK564 2 (.string (⟨#[]⟩ : ByteArray)); have hcz32_3 := zbc BK564 3 (.string (⟨#[]⟩ : ByteArray)); have hfz32_0 := q9 BK564.out 0; have hfz32_1 := q9 BK564.out 1; have hfz32_2 := q9 BK564.out 2; have hfz32_3 := q9 BK564.out 3; have hcz33_0 := zbc BK563 0 (.int .i64 0); have hcz33_1 := zbc BK563 1 (.int .u32 0); have hcz33_2 := zbc BK563 2 (.string (⟨#[]⟩ : ByteArray)); have hcz33_3 := zbc BK563 3 (.string (⟨#[]⟩ : ByteArray)); have hfz33_0 := q9 BK563.out 0; have hfz33_1 := q9 BK563.out 1; have hfz33_2 := q9 BK563.out 2; have hfz33_3 := q9 BK563.out 3))
          refine bodyPost_ret (results_ctt rfl _ _ gb563 24 #[.int .i64 (wrap64 (bt a0 0)), .int .u32 ((t575) % 4294967296), .string (⟨#[]⟩ : ByteArray), .string (⟨#[]⟩ : ByteArray)] (0, 0) _ rfl (by (with_reducible repeat (first | refine qd ?_ _ | refine qf ?_ | refine qc ?_ _)); refine qx (cs := #[.int .i64 (wrap64 (bt a0 0)), .int .u32 ((t575) % 4294967296), .string (⟨#[]⟩ : ByteArray), .string (⟨#[]⟩ : ByteArray)]) ?_ 3 _ rfl; (with_reducible repeat (first | refine qd ?_ _ | refine qf ?_ | refine qc ?_ _)); refine qx (cs := #[.int .i64 (wrap64 (bt a0 0)), .int .u32 ((t575) % 4294967296), .string (⟨#[]⟩ : ByteArray), .string (⟨#[]⟩ : ByteArray)]) ?_ 2 _ rfl; (with_reducible repeat (first | refine qd ?_ _ | refine qf ?_ | refine qc ?_ _)); refine qx (cs := #[.int .i64 (wrap64 (bt a0 0)), .int .u32 0, .string (⟨#[]⟩ : ByteArray), .string (⟨#[]⟩ : ByteArray)]) ?_ 1 _ rfl; (with_reducible repeat (first | refine qd ?_ _ | refine qf ?_ | refine qc ?_ _)); refine qx (cs := #[.int .i64 0, .int .u32 0, .string (⟨#[]⟩ : ByteArray), .string (⟨#[]⟩ : ByteArray)]) ?_ 0 _ rfl; (with_reducible repeat (first | refine qd ?_ _ | refine qf ?_ | refine qc ?_ _)); refine blk_far ?_ NB563_564.out _; (with_reducible repeat (first | refine qd ?_ _ | refine qf ?_ | refine qc ?_ _)); exact BK563.out) Tryz.underlying24 rfl z77_1) rfl ?_
          exact ⟨z77_5, z77_0⟩
         rw [if_neg c25] at H
         exact absurd H (by simp)
        rw [if_neg c24] at H
        exact absurd H (by simp)
       rw [if_neg c23] at H
       exact absurd H (by simp)
      rw [if_neg c15] at H
      exact absurd H (by simp)
     rw [if_neg c14] at H
     exact absurd H (by simp)
    replace c13 := Bool.eq_false_iff.mpr c13
    subst c13
    have H1 : (if t565 = 4 then (if 0 ≤ 1 then (if 1 ≤ (a0.size : Int) then ((q1g.f kj4 (a0.extract (1 : Int).toNat a0.size)).bind fun bt576 => (if bt576.2.2 = 0 then (some ((wrap64 (bt a0 0)), (bt576.1) % 4294967296, (⟨#[]⟩ : ByteArray), (⟨#[]⟩ : ByteArray), wrap64 (1 + bt576.2.1), 0)) else (some ((wrap64 (bt a0 0)), 0, (⟨#[]⟩ : ByteArray), (⟨#[]⟩ : ByteArray), 0, 5)))) else (none)) else (none)) else ((polyglotref05_text.f kj4 a0 1 t565).bind fun bt579 => (if bt579.2.2 = 0 then (if t565 = 7 then ((polyglotref05_text.f kj4 a0 bt579.2.1 t565).bind fun bt582 => (some ((wrap64 (bt a0 0)), 0, bt579.1, bt582.1, bt582.2.1, bt582.2.2))) else (some ((wrap64 (bt a0 0)), 0, bt579.1, (⟨#[]⟩ : ByteArray), bt579.2.1, bt579.2.2))) else (some ((wrap64 (bt a0 0)), 0, bt579.1, (⟨#[]⟩ : ByteArray), bt579.2.1, bt579.2.2))))) = some (r1, r2, r3, r4, r5, r6) := by rw [if_neg (show ¬ (false = true) by decide)] at H; exact H
    clear H
    have H := H1
    clear H1
    by_cases c34 : t565 = 4
    ·rw [if_pos c34] at H
     have c34b0 : (t565 == 4) = true := beq_iff_eq.mpr c34
     have c34b1 : (t565 != 4) = false := bne_eq_false_iff_eq.mpr c34
     clear c34
     by_cases c35 : 0 ≤ 1
     ·rw [if_pos c35] at H
      have c35b0 := eq_true c35
      have c35b1 : decide (0 ≤ 1) = true := decide_eq_true c35
      clear c35
      by_cases c36 : 1 ≤ (a0.size : Int)
      ·rw [if_pos c36] at H
       have c36b0 := eq_true c36
       have c36b1 : decide (1 ≤ (a0.size : Int)) = true := decide_eq_true c36
       clear c36
       replace H := Option.bind_eq_some_iff.mp H
       obtain ⟨⟨t576, t577, t578⟩, A370, H⟩ := H
       replace H : (if t578 = 0 then (some ((wrap64 (bt a0 0)), (t576) % 4294967296, (⟨#[]⟩ : ByteArray), (⟨#[]⟩ : ByteArray), wrap64 (1 + t577), 0)) else (some ((wrap64 (bt a0 0)), 0, (⟨#[]⟩ : ByteArray), (⟨#[]⟩ : ByteArray), 0, 5))) = some (r1, r2, r3, r4, r5, r6) := H
       have A37 := Aside0.mk A370
       clear A370
       by_cases c38 : t578 = 0
       ·rw [if_pos c38] at H
        have c38b0 : (t578 == 0) = true := beq_iff_eq.mpr c38
        have c38b1 : (t578 != 0) = false := bne_eq_false_iff_eq.mpr c38
        clear c38
        simp only [Option.some.injEq, Prod.mk.injEq] at H
        obtain ⟨rfl, rfl, rfl, rfl, rfl, rfl⟩ := H
        go_wp2_with (first | ((with_reducible refine ql (f := 55) rfl ?_); refine q1b (some 56) rfl rfl Tryz.func55 z77_1 rfl #[.string (a0.extract (1 : Int).toNat a0.size)] rfl z77_4 ?_; (with_reducible refine (q1g.calls kj4 (a0.extract (1 : Int).toNat a0.size) t576 t577 t578 _ A37.out).mono ?_); rintro e w' ⟨rfl, ⟨nd, rfl⟩⟩; refine ⟨_, rfl, ?_⟩; (try (rw [drewN_self wc]; generalize hq_ : World.drewN wc _ = wc; have n0_ : Aside0 (wc.heap[gb563]? = some (.cells #[.int .i64 0, .int .u32 0, .string (⟨#[]⟩ : ByteArray), .string (⟨#[]⟩ : ByteArray)] 24 (0, 0))) := ⟨by rw [← hq_]; exact z77_2⟩; have n1_ : Aside0 (wc.heap[gb564]? = some (.cells #[.int .i64 (wrap64 (bt a0 0)), .int .u32 0, .string (⟨#[]⟩ : ByteArray), .string (⟨#[]⟩ : ByteArray)] 24 (0, 0))) := ⟨by rw [← hq_]; exact z77_3⟩; have n2_ : Aside0 (Below w.heap.size w wc) := ⟨by rw [← hq_]; exact z77_0⟩; clear BK563 BK564 HB hq_; have BK563 := n0_; have BK564 := n1_; have HB := n2_; clear n0_ n1_ n2_)); have hnb39 := NB564_563.out; have hnc39 := NB563_564.out; have hcz40_0 := zbc BK564 0 (.int .i64 (wrap64 (bt a0 0))); have hcz40_1 := zbc BK564 1 (.int .u32 0); have hcz40_2 := zbc BK564 2 (.string (⟨#[]⟩ : ByteArray)); have hcz40_3 := zbc BK564 3 (.string (⟨#[]⟩ : ByteArray)); have hfz40_0 := q9 BK564.out 0; have hfz40_1 := q9 BK564.out 1; have hfz40_2 := q9 BK564.out 2; have hfz40_3 := q9 BK564.out 3; have hcz41_0 := zbc BK563 0 (.int .i64 0); have hcz41_1 := zbc BK563 1 (.int .u32 0); have hcz41_2 := zbc BK563 2 (.string (⟨#[]⟩ : ByteArray)); have hcz41_3 := zbc BK563 3 (.string (⟨#[]⟩ : ByteArray)); have hfz41_0 := q9 BK563.out 0; have hfz41_1 := q9 BK563.out 1; have hfz41_2 := q9 BK563.out 2; have hfz41_3 := q9 BK563.out 3))
        refine bodyPost_ret (results_ctt rfl _ _ gb563 24 #[.int .i64 (wrap64 (bt a0 0)), .int .u32 ((t576) % 4294967296), .string (⟨#[]⟩ : ByteArray), .string (⟨#[]⟩ : ByteArray)] (0, 0) _ rfl (by (with_reducible repeat (first | refine qd ?_ _ | refine qf ?_ | refine qc ?_ _)); refine qx (cs := #[.int .i64 (wrap64 (bt a0 0)), .int .u32 ((t576) % 4294967296), .string (⟨#[]⟩ : ByteArray), .string (⟨#[]⟩ : ByteArray)]) ?_ 3 _ rfl; (with_reducible repeat (first | refine qd ?_ _ | refine qf ?_ | refine qc ?_ _)); refine qx (cs := #[.int .i64 (wrap64 (bt a0 0)), .int .u32 ((t576) % 4294967296), .string (⟨#[]⟩ : ByteArray), .string (⟨#[]⟩ : ByteArray)]) ?_ 2 _ rfl; (with_reducible repeat (first | refine qd ?_ _ | refine qf ?_ | refine qc ?_ _)); refine qx (cs := #[.int .i64 (wrap64 (bt a0 0)), .int .u32 0, .string (⟨#[]⟩ : ByteArray), .string (⟨#[]⟩ : ByteArray)]) ?_ 1 _ rfl; (with_reducible repeat (first | refine qd ?_ _ | refine qf ?_ | refine qc ?_ _)); refine qx (cs := #[.int .i64 0, .int .u32 0, .string (⟨#[]⟩ : ByteArray), .string (⟨#[]⟩ : ByteArray)]) ?_ 0 _ rfl; (with_reducible repeat (first | refine qd ?_ _ | refine qf ?_ | refine qc ?_ _)); refine blk_far ?_ NB563_564.out _; (with_reducible repeat (first | refine qd ?_ _ | refine qf ?_ | refine qc ?_ _)); exact BK563.out) Tryz.underlying24 rfl z77_1) rfl ?_
        exact ⟨z77_5, z77_0⟩
       rw [if_neg c38] at H
       have c38b0 : (t578 == 0) = false := beq_eq_false_iff_ne.mpr c38
       have c38b1 : (t578 != 0) = true := bne_iff_ne.mpr c38
       simp only [Option.some.injEq, Prod.mk.injEq] at H
       obtain ⟨rfl, rfl, rfl, rfl, rfl, rfl⟩ := H
       go_wp2_with (first | ((with_reducible refine ql (f := 55) rfl ?_); refine q1b (some 56) rfl rfl Tryz.func55 z77_1 rfl #[.string (a0.extract (1 : Int).toNat a0.size)] rfl z77_4 ?_; (with_reducible refine (q1g.calls kj4 (a0.extract (1 : Int).toNat a0.size) t576 t577 t578 _ A37.out).mono ?_); rintro e w' ⟨rfl, ⟨nd, rfl⟩⟩; refine ⟨_, rfl, ?_⟩; (try (rw [drewN_self wc]; generalize hq_ : World.drewN wc _ = wc; have n0_ : Aside0 (wc.heap[gb563]? = some (.cells #[.int .i64 0, .int .u32 0, .string (⟨#[]⟩ : ByteArray), .string (⟨#[]⟩ : ByteArray)] 24 (0, 0))) := ⟨by rw [← hq_]; exact z77_2⟩; have n1_ : Aside0 (wc.heap[gb564]? = some (.cells #[.int .i64 (wrap64 (bt a0 0)), .int .u32 0, .string (⟨#[]⟩ : ByteArray), .string (⟨#[]⟩ : ByteArray)] 24 (0, 0))) := ⟨by rw [← hq_]; exact z77_3⟩; have n2_ : Aside0 (Below w.heap.size w wc) := ⟨by rw [← hq_]; exact z77_0⟩; clear BK563 BK564 HB hq_; have BK563 := n0_; have BK564 := n1_; have HB := n2_; clear n0_ n1_ n2_)); have hnb42 := NB564_563.out; have hnc42 := NB563_564.out; have hcz43_0 := zbc BK564 0 (.int .i64 (wrap64 (bt a0 0))); have hcz43_1 := zbc BK564 1 (.int .u32 0); have hcz43_2 := zbc BK564 2 (.string (⟨#[]⟩ : ByteArray)); have hcz43_3 := zbc BK564 3 (.string (⟨#[]⟩ : ByteArray)); have hfz43_0 := q9 BK564.out 0; have hfz43_1 := q9 BK564.out 1; have hfz43_2 := q9 BK564.out 2; have hfz43_3 := q9 BK564.out 3; have hcz44_0 := zbc BK563 0 (.int .i64 0); have hcz44_1 := zbc BK563 1 (.int .u32 0); have hcz44_2 := zbc BK563 2 (.string (⟨#[]⟩ : ByteArray)); have hcz44_3 := zbc BK563 3 (.string (⟨#[]⟩ : ByteArray)); have hfz44_0 := q9 BK563.out 0; have hfz44_1 := q9 BK563.out 1; have hfz44_2 := q9 BK563.out 2; have hfz44_3 := q9 BK563.out 3))
       refine bodyPost_ret (results_ctt rfl _ _ gb563 24 #[.int .i64 (wrap64 (bt a0 0)), .int .u32 0, .string (⟨#[]⟩ : ByteArray), .string (⟨#[]⟩ : ByteArray)] (0, 0) _ rfl z77_11 Tryz.underlying24 rfl z77_1) rfl ?_
       exact ⟨z77_5, z77_0⟩
      rw [if_neg c36] at H
      exact absurd H (by simp)
     rw [if_neg c35] at H
     exact absurd H (by simp)
    rw [if_neg c34] at H
    have c34b0 : (t565 == 4) = false := beq_eq_false_iff_ne.mpr c34
    have c34b1 : (t565 != 4) = true := bne_iff_ne.mpr c34
    replace H := Option.bind_eq_some_iff.mp H
    obtain ⟨⟨t579, t580, t581⟩, A450, H⟩ := H
    replace H : (if t581 = 0 then (if t565 = 7 then ((polyglotref05_text.f kj4 a0 t580 t565).bind fun bt582 => (some ((wrap64 (bt a0 0)), 0, t579, bt582.1, bt582.2.1, bt582.2.2))) else (some ((wrap64 (bt a0 0)), 0, t579, (⟨#[]⟩ : ByteArray), t580, t581))) else (some ((wrap64 (bt a0 0)), 0, t579, (⟨#[]⟩ : ByteArray), t580, t581))) = some (r1, r2, r3, r4, r5, r6) := H
    have A45 := Aside0.mk A450
    clear A450
    by_cases c46 : t581 = 0
    ·rw [if_pos c46] at H
     have c46b0 : (t581 == 0) = true := beq_iff_eq.mpr c46
     have c46b1 : (t581 != 0) = false := bne_eq_false_iff_eq.mpr c46
     clear c46
     by_cases c47 : t565 = 7
     ·rw [if_pos c47] at H
      have c47b0 : (t565 == 7) = true := beq_iff_eq.mpr c47
      have c47b1 : (t565 != 7) = false := bne_eq_false_iff_eq.mpr c47
      clear c47
      replace H := Option.bind_eq_some_iff.mp H
      obtain ⟨⟨t582, t583, t584⟩, A480, H⟩ := H
      replace H : (some ((wrap64 (bt a0 0)), 0, t579, t582, t583, t584)) = some (r1, r2, r3, r4, r5, r6) := H
      have A48 := Aside0.mk A480
      clear A480
      simp only [Option.some.injEq, Prod.mk.injEq] at H
      obtain ⟨rfl, rfl, rfl, rfl, rfl, rfl⟩ := H
      go_wp2_with (first | ((with_reducible refine ql (f := 114) rfl ?_); refine q1b (some 74) rfl rfl Tryz.func114 z77_1 rfl #[.string a0, .int .i64 1, .int .i64 t565] rfl z77_4 ?_; (with_reducible refine (polyglotref05_text.calls kj4 a0 1 t565 t579 t580 t581 _ A45.out).mono ?_); rintro e w49 ⟨rfl, hb⟩; refine ⟨_, rfl, ?_⟩; have n0_ := Aside0.mk (qo (g := gb563) (o := .cells #[.int .i64 0, .int .u32 0, .string (⟨#[]⟩ : ByteArray), .string (⟨#[]⟩ : ByteArray)] 24 (0, 0)) z77_2 hb); have n1_ := Aside0.mk (qo (g := gb564) (o := .cells #[.int .i64 (wrap64 (bt a0 0)), .int .u32 0, .string (⟨#[]⟩ : ByteArray), .string (⟨#[]⟩ : ByteArray)] 24 (0, 0)) z77_3 hb); have n2_ := Aside0.mk (qe z77_0 hb); clear BK563; clear BK564; clear HB; have BK563 := n0_; have BK564 := n1_; have HB := n2_; clear n0_ n1_ n2_; (try clear hb); (try clear hb2); (try clear hk); (try clear hi); have hnb50 := NB564_563.out; have hnc50 := NB563_564.out; have hcz51_0 := zbc BK564 0 (.int .i64 (wrap64 (bt a0 0))); have hcz51_1 := zbc BK564 1 (.int .u32 0); have hcz51_2 := zbc BK564 2 (.string (⟨#[]⟩ : ByteArray)); have hcz51_3 := zbc BK564 3 (.string (⟨#[]⟩ : ByteArray)); have hfz51_0 := q9 BK564.out 0; have hfz51_1 := q9 BK564.out 1; have hfz51_2 := q9 BK564.out 2; have hfz51_3 := q9 BK564.out 3) | ((with_reducible refine ql (f := 114) rfl ?_); refine q1b (some 89) rfl rfl Tryz.func114 z77_1 rfl #[.string a0, .int .i64 t580, .int .i64 t565] rfl z77_4 ?_; (with_reducible refine (polyglotref05_text.calls kj4 a0 t580 t565 t582 t583 t584 _ A48.out).mono ?_); rintro e w52 ⟨rfl, hb⟩; refine ⟨_, rfl, ?_⟩; have n0_ := Aside0.mk (qo (g := gb563) (o := .cells #[.int .i64 0, .int .u32 0, .string (⟨#[]⟩ : ByteArray), .string (⟨#[]⟩ : ByteArray)] 24 (0, 0)) (by (with_reducible repeat (first | refine qd ?_ _ | refine qf ?_ | refine qc ?_ _)); refine blk_far ?_ NB563_564.out _; (with_reducible repeat (first | refine qd ?_ _ | refine qf ?_ | refine qc ?_ _)); exact BK563.out) hb); have n1_ := Aside0.mk (qo (g := gb564) (o := .cells #[.int .i64 (wrap64 (bt a0 0)), .int .u32 0, .string t579, .string (⟨#[]⟩ : ByteArray)] 24 (0, 0)) (by (with_reducible repeat (first | refine qd ?_ _ | refine qf ?_ | refine qc ?_ _)); refine qx (cs := #[.int .i64 (wrap64 (bt a0 0)), .int .u32 0, .string (⟨#[]⟩ : ByteArray), .string (⟨#[]⟩ : ByteArray)]) ?_ 2 _ rfl; (with_reducible repeat (first | refine qd ?_ _ | refine qf ?_ | refine qc ?_ _)); exact BK564.out) hb); have n2_ := Aside0.mk (qe z77_0 hb); clear BK563; clear BK564; clear HB; have BK563 := n0_; have BK564 := n1_; have HB := n2_; clear n0_ n1_ n2_; (try clear hb); (try clear hb2); (try clear hk); (try clear hi); have hcz53_0 := zbc BK564 0 (.int .i64 (wrap64 (bt a0 0))); have hcz53_1 := zbc BK564 1 (.int .u32 0); have hcz53_2 := zbc BK564 2 (.string t579); have hcz53_3 := zbc BK564 3 (.string (⟨#[]⟩ : ByteArray)); have hfz53_0 := q9 BK564.out 0; have hfz53_1 := q9 BK564.out 1; have hfz53_2 := q9 BK564.out 2; have hfz53_3 := q9 BK564.out 3; have hcz54_0 := zbc BK563 0 (.int .i64 0); have hcz54_1 := zbc BK563 1 (.int .u32 0); have hcz54_2 := zbc BK563 2 (.string (⟨#[]⟩ : ByteArray)); have hcz54_3 := zbc BK563 3 (.string (⟨#[]⟩ : ByteArray)); have hfz54_0 := q9 BK563.out 0; have hfz54_1 := q9 BK563.out 1; have hfz54_2 := q9 BK563.out 2; have hfz54_3 := q9 BK563.out 3))
      refine bodyPost_ret (results_ctt rfl _ _ gb563 24 #[.int .i64 (wrap64 (bt a0 0)), .int .u32 0, .string t579, .string t582] (0, 0) _ rfl z77_10 Tryz.underlying24 rfl z77_1) rfl ?_
      exact ⟨z77_5, z77_0⟩
     rw [if_neg c47] at H
     have c47b0 : (t565 == 7) = false := beq_eq_false_iff_ne.mpr c47
     have c47b1 : (t565 != 7) = true := bne_iff_ne.mpr c47
     simp only [Option.some.injEq, Prod.mk.injEq] at H
     obtain ⟨rfl, rfl, rfl, rfl, rfl, rfl⟩ := H
     go_wp2_with (first | ((with_reducible refine ql (f := 114) rfl ?_); refine q1b (some 74) rfl rfl Tryz.func114 z77_1 rfl #[.string a0, .int .i64 1, .int .i64 t565] rfl z77_4 ?_; (with_reducible refine (polyglotref05_text.calls kj4 a0 1 t565 t579 t580 t581 _ A45.out).mono ?_); rintro e w55 ⟨rfl, hb⟩; refine ⟨_, rfl, ?_⟩; have n0_ := Aside0.mk (qo (g := gb563) (o := .cells #[.int .i64 0, .int .u32 0, .string (⟨#[]⟩ : ByteArray), .string (⟨#[]⟩ : ByteArray)] 24 (0, 0)) z77_2 hb); have n1_ := Aside0.mk (qo (g := gb564) (o := .cells #[.int .i64 (wrap64 (bt a0 0)), .int .u32 0, .string (⟨#[]⟩ : ByteArray), .string (⟨#[]⟩ : ByteArray)] 24 (0, 0)) z77_3 hb); have n2_ := Aside0.mk (qe z77_0 hb); clear BK563; clear BK564; clear HB; have BK563 := n0_; have BK564 := n1_; have HB := n2_; clear n0_ n1_ n2_; (try clear hb); (try clear hb2); (try clear hk); (try clear hi); have hnb56 := NB564_563.out; have hnc56 := NB563_564.out; have hcz57_0 := zbc BK564 0 (.int .i64 (wrap64 (bt a0 0))); have hcz57_1 := zbc BK564 1 (.int .u32 0); have hcz57_2 := zbc BK564 2 (.string (⟨#[]⟩ : ByteArray)); have hcz57_3 := zbc BK564 3 (.string (⟨#[]⟩ : ByteArray)); have hfz57_0 := q9 BK564.out 0; have hfz57_1 := q9 BK564.out 1; have hfz57_2 := q9 BK564.out 2; have hfz57_3 := q9 BK564.out 3; have hcz58_0 := zbc BK563 0 (.int .i64 0); have hcz58_1 := zbc BK563 1 (.int .u32 0); have hcz58_2 := zbc BK563 2 (.string (⟨#[]⟩ : ByteArray)); have hcz58_3 := zbc BK563 3 (.string (⟨#[]⟩ : ByteArray)); have hfz58_0 := q9 BK563.out 0; have hfz58_1 := q9 BK563.out 1; have hfz58_2 := q9 BK563.out 2; have hfz58_3 := q9 BK563.out 3))
     refine bodyPost_ret (results_ctt rfl _ _ gb563 24 #[.int .i64 (wrap64 (bt a0 0)), .int .u32 0, .string t579, .string (⟨#[]⟩ : ByteArray)] (0, 0) _ rfl z77_10 Tryz.underlying24 rfl z77_1) rfl ?_
     exact ⟨z77_5, z77_0⟩
    rw [if_neg c46] at H
    have c46b0 : (t581 == 0) = false := beq_eq_false_iff_ne.mpr c46
    have c46b1 : (t581 != 0) = true := bne_iff_ne.mpr c46
    simp only [Option.some.injEq, Prod.mk.injEq] at H
    obtain ⟨rfl, rfl, rfl, rfl, rfl, rfl⟩ := H
    go_wp2_with (first | ((with_reducible refine ql (f := 114) rfl ?_); refine q1b (some 74) rfl rfl Tryz.func114 z77_1 rfl #[.string a0, .int .i64 1, .int .i64 t565] rfl z77_4 ?_; (with_reducible refine (polyglotref05_text.calls kj4 a0 1 t565 t579 t580 t581 _ A45.out).mono ?_); rintro e w59 ⟨rfl, hb⟩; refine ⟨_, rfl, ?_⟩; have n0_ := Aside0.mk (qo (g := gb563) (o := .cells #[.int .i64 0, .int .u32 0, .string (⟨#[]⟩ : ByteArray), .string (⟨#[]⟩ : ByteArray)] 24 (0, 0)) z77_2 hb); have n1_ := Aside0.mk (qo (g := gb564) (o := .cells #[.int .i64 (wrap64 (bt a0 0)), .int .u32 0, .string (⟨#[]⟩ : ByteArray), .string (⟨#[]⟩ : ByteArray)] 24 (0, 0)) z77_3 hb); have n2_ := Aside0.mk (qe z77_0 hb); clear BK563; clear BK564; clear HB; have BK563 := n0_; have BK564 := n1_; have HB := n2_; clear n0_ n1_ n2_; (try clear hb); (try clear hb2); (try clear hk); (try clear hi); have hnb60 := NB564_563.out; have hnc60 := NB563_564.out; have hcz61_0 := zbc BK564 0 (.int .i64 (wrap64 (bt a0 0))); have hcz61_1 := zbc BK564 1 (.int .u32 0); have hcz61_2 := zbc BK564 2 (.string (⟨#[]⟩ : ByteArray)); have hcz61_3 := zbc BK564 3 (.string (⟨#[]⟩ : ByteArray)); have hfz61_0 := q9 BK564.out 0; have hfz61_1 := q9 BK564.out 1; have hfz61_2 := q9 BK564.out 2; have hfz61_3 := q9 BK564.out 3; have hcz62_0 := zbc BK563 0 (.int .i64 0); have hcz62_1 := zbc BK563 1 (.int .u32 0); have hcz62_2 := zbc BK563 2 (.string (⟨#[]⟩ : ByteArray)); have hcz62_3 := zbc BK563 3 (.string (⟨#[]⟩ : ByteArray)); have hfz62_0 := q9 BK563.out 0; have hfz62_1 := q9 BK563.out 1; have hfz62_2 := q9 BK563.out 2; have hfz62_3 := q9 BK563.out 3))
    refine bodyPost_ret (results_ctt rfl _ _ gb563 24 #[.int .i64 (wrap64 (bt a0 0)), .int .u32 0, .string t579, .string (⟨#[]⟩ : ByteArray)] (0, 0) _ rfl z77_10 Tryz.underlying24 rfl z77_1) rfl ?_
    exact ⟨z77_5, z77_0⟩
 rw [if_neg c2] at H
 exact absurd H (by simp)

end Go.Proofs.YtngmipfobcaojaaGreat.HA
end

-- YtngmipfobcaojaaGreatHA67
section
namespace Go.Proofs.YtngmipfobcaojaaGreat.HA
open Go.RowKit Go.Proofs.YtngmipfobcaojaaGreatW.PrintWords Go.Proofs.YtngmipfobcaojaaGreatW.PrintLast Go.Proofs.YtngmipfobcaojaaGreatW.PrintMore
attribute [local go_sem] q1k q1j q1s q1t q1a q19 q1h q1i

def qy.l0 : Nat → Int → List Int → Int → Option (Bool)
 | 0, _, _, _ => none
 | k + 1, x0, x5, x6 => if x6 < (x5.length : Int) then (if 0 ≤ x6 then (if (rd x5 x6) = x0 then (some true) else (qy.l0 k x0 x5 (wrap64 (x6 + 1)))) else (none)) else (some false)
def qy.f (k : Nat) (a0 : Int) (a1 : Int) : Option (Bool) := (qn.f k a1).bind fun bt415 => (qy.l0 k a0 bt415.2.1 0)
theorem z78_0 {p : Prop} (h : p := by repeat (first | (with_reducible first | exact HB.out | apply qg | apply qa | apply qi) | exact HB.out)) : p := h
theorem z78_1 {p : Prop} (h : p := by first | (with_reducible assumption) | assumption) : p := h
theorem z78_2 {p : Prop} (h : p := by first | rfl | (simp; done) | (simp [*]; done) | (simp; exact qh _) | exact qh _ | (simp; exact (qh _).symm) | (simp; exact q15 _)) : p := h
set_option maxHeartbeats 8000000 in
set_option maxRecDepth 100000 in
theorem qy.calls (k : Nat) (a0 : Int) (a1 : Int) (r : Bool) (w : World) (h : qy.f k a0 a1 = some r) :
  Calls Tryz.prog 19 #[.int .i64 a0, .int .i64 a1] w fun e w' => e = .returned (.bool r) ∧ Below w.heap.size w w' := by
 have hf80_1 : ∀ (v0 v1 v2 v3 : Value) (W : World), (Instr.field 80 (.agg #[v0, v1, v2, v3]) 1).run Tryz.prog W = .ok (v1) W := fun _ _ _ _ _ => by kernel_rfl
 have HB := Aside0.mk (Below.refl w.heap.size w)
 have H : ((qn.f k a1).bind fun bt415 => (qy.l0 k a0 bt415.2.1 0)) = some r := h
 clear h
 replace H := Option.bind_eq_some_iff.mp H
 obtain ⟨⟨t415, t416, t419, t420⟩, A30, H⟩ := H
 replace H : (qy.l0 k a0 t416 0) = some r := H
 have A3 := Aside0.mk A30
 clear A30
 have H' := Aside0.mk H
 clear H
 go_enter Tryz.func19, Tryz.ntmps19
 go_wp2_with (first | ((with_reducible refine ql (f := 59) rfl ?_); refine q1b (some 8) rfl rfl Tryz.func59 (by kernel_rfl) rfl #[.int .i64 a1] rfl (by (try simp only [List.map_toArray, List.map_cons, List.map_nil]); first | done | rfl | (simp only [List.length_drop, List.length_take]; rfl)) ?_; (with_reducible refine (qn.calls k a1 t415 t416 t419 t420 _ A3.out).mono ?_); rintro e w4 ⟨v417, rfl, ho0, hb⟩; refine ⟨_, rfl, ?_⟩; have n0_ := Aside0.mk (Kd.R_lower ho0 (qm z78_0)); have n1_ := Aside0.mk (qe z78_0 hb); clear HB; have HO418 := n0_; have HB := n1_; clear n0_ n1_; (try clear hb); (try clear hb2); (try clear hk); (try clear hi); (try clear ho0)))
 go_loopg [6] k (fun kq v6 w' => ∃ (x6_1 : Int), v6 = .int .i64 x6_1 ∧ Aside0 (qy.l0 kq a0 t416 x6_1 = some r) ∧ Aside0 (kq ≤ k) ∧ Aside0 (Kd.R (Kd.int .i64) 3 w' w.heap.size (fun _ => True) v417 t416) ∧ Aside0 (Below w.heap.size w w'))
 case atStart => exact ⟨(0), z78_2, H', ⟨Nat.le_refl _⟩, ⟨(by (with_reducible repeat (first | apply Kd.R_alloc | apply Kd.R_drewN | apply Kd.R_drew)); exact HO418.out)⟩, ⟨z78_0⟩⟩
 case round =>
  clear H'
  obtain ⟨x6_1, rfl, HA, HK1, HO_5, HB⟩ := hrel
  cases gk with
  | zero => exact absurd HA.out (by simp [qy.l0])
  | succ k1 =>
   have H := HA.out
   clear HA
   simp only [qy.l0] at H
   by_cases c5 : x6_1 < (t416.length : Int)
   ·rw [if_pos c5] at H
    have c5b0 : decide (x6_1 < (t416.length : Int)) = true := decide_eq_true c5
    clear c5
    by_cases c6 : 0 ≤ x6_1
    ·rw [if_pos c6] at H
     have c6b0 : decide (0 ≤ x6_1) = true := decide_eq_true c6
     clear c6
     by_cases c7 : (rd t416 x6_1) = a0
     ·rw [if_pos c7] at H
      have c7b0 : ((rd t416 x6_1) == a0) = true := beq_iff_eq.mpr c7
      have c7b1 : ((rd t416 x6_1) != a0) = false := bne_eq_false_iff_eq.mpr c7
      clear c7
      obtain rfl := Option.some.inj H
      obtain ⟨Ao8, co8, eo8⟩ := Kd.R_slice HO_5.out
      subst eo8
      have p421 : 0 ≤ (x6_1 : Int) := of_decide_eq_true z78_1
      have q421 : x6_1 < (t416.length : Int) := of_decide_eq_true z78_1
      obtain ⟨ad421, e421, hx421_0⟩ := Kd.at_int (Kd.R_reads' HO_5.out).2.2 x6_1 p421 q421
      cases e421
      replace p421 := eq_true p421
      replace q421 := eq_true q421
      go_wp2
      go_ret
      exact ⟨(by first | rfl | (simp [qq, qp] <;> rfl) | (simp [*, qq, qp] <;> rfl)), z78_0⟩
     rw [if_neg c7] at H
     have c7b0 : ((rd t416 x6_1) == a0) = false := beq_eq_false_iff_ne.mpr c7
     have c7b1 : ((rd t416 x6_1) != a0) = true := bne_iff_ne.mpr c7
     have H' := Aside0.mk H
     clear H
     obtain ⟨Ao9, co9, eo9⟩ := Kd.R_slice HO_5.out
     subst eo9
     have p421 : 0 ≤ (x6_1 : Int) := of_decide_eq_true z78_1
     have q421 : x6_1 < (t416.length : Int) := of_decide_eq_true z78_1
     obtain ⟨ad421, e421, hx421_0⟩ := Kd.at_int (Kd.R_reads' HO_5.out).2.2 x6_1 p421 q421
     cases e421
     replace p421 := eq_true p421
     replace q421 := eq_true q421
     go_wp2
     go_roundg k1
     case measure => have := HK1.out; omega
     case rel => exact ⟨(wrap64 (x6_1 + 1)), z78_2, H', ⟨by have := HK1.out; omega⟩, ⟨by (with_reducible repeat (first | apply Kd.R_alloc | apply Kd.R_drewN | apply Kd.R_drew)); exact HO_5.out⟩, ⟨by repeat (first | (with_reducible first | exact HB.out | apply qg | apply qa | apply qi) | exact HB.out)⟩⟩
    rw [if_neg c6] at H
    exact absurd H (by simp)
   rw [if_neg c5] at H
   have c5b0 : decide (x6_1 < (t416.length : Int)) = false := decide_eq_false c5
   clear c5
   obtain rfl := Option.some.inj H
   obtain ⟨Ao10, co10, eo10⟩ := Kd.R_slice HO_5.out
   subst eo10
   go_wp2
   go_ret
   exact ⟨(by first | rfl | (simp [qq, qp] <;> rfl) | (simp [*, qq, qp] <;> rfl)), z78_0⟩

end Go.Proofs.YtngmipfobcaojaaGreat.HA
end

-- YtngmipfobcaojaaGreatHA72
section
namespace Go.Proofs.YtngmipfobcaojaaGreat.HA
open Go.RowKit Go.Proofs.YtngmipfobcaojaaGreatW.PrintWords Go.Proofs.YtngmipfobcaojaaGreatW.PrintLast Go.Proofs.YtngmipfobcaojaaGreatW.PrintMore
attribute [local go_sem] q1k q1j q1s q1t q1a q19 q1h q1i

def q1m.l0 : Nat → ByteArray → Int → Int → Option (Bool)
 | 0, _, _, _ => none
 | k + 1, x0, x1, x5 => if x5 < (x0.size : Int) then (if 0 ≤ x5 then (if (bt x0 x5) = x1 then (some true) else (q1m.l0 k x0 x1 (wrap64 (x5 + 1)))) else (none)) else (some false)
def q1m.f (k : Nat) (a0 : ByteArray) (a1 : Int) : Option (Bool) := q1m.l0 k a0 a1 0
theorem z79_0 {p : Prop} (h : p := by first | rfl | (simp; done) | (simp [*]; done) | (simp; exact qh _) | exact qh _ | (simp; exact (qh _).symm) | (simp; exact q15 _)) : p := h
theorem z79_1 {p : Prop} (h : p := by first | (with_reducible assumption) | assumption) : p := h
set_option maxHeartbeats 8000000 in
set_option maxRecDepth 100000 in
theorem q1m.calls (k : Nat) (a0 : ByteArray) (a1 : Int) (r : Bool) (w : World) (h : q1m.f k a0 a1 = some r) :
  Calls Tryz.prog 120 #[.string a0, .int .u8 a1] w fun e w' => e = .returned (.bool r) ∧ Drawn0 w w' := by
 have H : (q1m.l0 k a0 a1 0) = some r := h
 clear h
 have H' := Aside0.mk H
 clear H
 go_enter Tryz.func120, Tryz.ntmps120
 go_wp2
 go_loopg [5] k (fun kq v5 w' => ∃ (x5_1 : Int), v5 = .int .i64 x5_1 ∧ Aside0 (q1m.l0 kq a0 a1 x5_1 = some r) ∧ Aside0 (kq ≤ k) ∧ Drawn0 w w')
 case atStart => exact ⟨(0), z79_0, H', ⟨Nat.le_refl _⟩, by repeat (first | exact Drawn0.refl _ | apply Drawn0.step)⟩
 case round =>
  clear H'
  obtain ⟨x5_1, rfl, HA, HK1, ⟨m1, rfl⟩⟩ := hrel
  cases gk with
  | zero => exact absurd HA.out (by simp [q1m.l0])
  | succ k1 =>
   have H := HA.out
   clear HA
   simp only [q1m.l0] at H
   by_cases c3 : x5_1 < (a0.size : Int)
   ·rw [if_pos c3] at H
    have c3b0 : decide (x5_1 < (a0.size : Int)) = true := decide_eq_true c3
    clear c3
    by_cases c4 : 0 ≤ x5_1
    ·rw [if_pos c4] at H
     have c4b0 : decide (0 ≤ x5_1) = true := decide_eq_true c4
     clear c4
     by_cases c6 : (bt a0 x5_1) = a1
     ·rw [if_pos c6] at H
      have c6b0 : ((bt a0 x5_1) == a1) = true := beq_iff_eq.mpr c6
      have c6b1 : ((bt a0 x5_1) != a1) = false := bne_eq_false_iff_eq.mpr c6
      clear c6
      obtain rfl := Option.some.inj H
      have p5 : 0 ≤ (x5_1 : Int) := of_decide_eq_true z79_1
      have q5 : x5_1 < (a0.size : Int) := of_decide_eq_true z79_1
      have hx5 := bt_at a0 x5_1
      replace p5 := eq_true p5
      replace q5 := eq_true q5
      go_wp2
      go_ret
      exact ⟨z79_0, (by repeat (first | exact Drawn0.refl _ | apply Drawn0.step))⟩
     rw [if_neg c6] at H
     have c6b0 : ((bt a0 x5_1) == a1) = false := beq_eq_false_iff_ne.mpr c6
     have c6b1 : ((bt a0 x5_1) != a1) = true := bne_iff_ne.mpr c6
     have H' := Aside0.mk H
     clear H
     have p5 : 0 ≤ (x5_1 : Int) := of_decide_eq_true z79_1
     have q5 : x5_1 < (a0.size : Int) := of_decide_eq_true z79_1
     have hx5 := bt_at a0 x5_1
     replace p5 := eq_true p5
     replace q5 := eq_true q5
     go_wp2
     go_roundg k1
     case measure => have := HK1.out; omega
     case rel => exact ⟨(wrap64 (x5_1 + 1)), z79_0, H', ⟨by have := HK1.out; omega⟩, by repeat (first | exact Drawn0.refl _ | apply Drawn0.step)⟩
    rw [if_neg c4] at H
    exact absurd H (by simp)
   rw [if_neg c3] at H
   have c3b0 : decide (x5_1 < (a0.size : Int)) = false := decide_eq_false c3
   clear c3
   obtain rfl := Option.some.inj H
   go_wp2
   go_ret
   exact ⟨z79_0, (by repeat (first | exact Drawn0.refl _ | apply Drawn0.step))⟩

end Go.Proofs.YtngmipfobcaojaaGreat.HA
end

-- YtngmipfobcaojaaGreatHA73
section
namespace Go.Proofs.YtngmipfobcaojaaGreat.HA
open Go.RowKit Go.Proofs.YtngmipfobcaojaaGreatW.PrintWords Go.Proofs.YtngmipfobcaojaaGreatW.PrintLast Go.Proofs.YtngmipfobcaojaaGreatW.PrintMore
attribute [local go_sem] q1k q1j q1s q1t q1a q19 q1h q1i

def polyglotref04_Name.f (k : Nat) (a0 : ByteArray) : Option (Bool) := if a0.toList = ([] : List UInt8) then (some false) else ((q1d.f k a0).bind fun t427 => (if t427 = true then ((q1m.f k a0 43).bind fun t428 => (if t428 = true then (some false) else ((q1m.f k a0 35).bind fun t429 => (some (!t429))))) else (some false)))
theorem z80_0 {p : Prop} (h : p := by first | rfl | (simp; done) | (simp [*]; done) | (simp; exact qh _) | exact qh _ | (simp; exact (qh _).symm) | (simp; exact q15 _)) : p := h
theorem z80_1 {p : Prop} (h : p := by repeat (first | exact Drawn0.refl _ | apply Drawn0.step)) : p := h
set_option maxHeartbeats 8000000 in
set_option maxRecDepth 100000 in
theorem polyglotref04_Name.calls (k : Nat) (a0 : ByteArray) (r : Bool) (w : World) (h : polyglotref04_Name.f k a0 = some r) :
  Calls Tryz.prog 63 #[.string a0] w fun e w' => e = .returned (.bool r) ∧ Drawn0 w w' := by
 have H : (if a0.toList = ([] : List UInt8) then (some false) else ((q1d.f k a0).bind fun t427 => (if t427 = true then ((q1m.f k a0 43).bind fun t428 => (if t428 = true then (some false) else ((q1m.f k a0 35).bind fun t429 => (some (!t429))))) else (some false)))) = some r := h
 clear h
 by_cases c2 : a0.toList = ([] : List UInt8)
 ·rw [if_pos c2] at H
  have c2b0 : (a0.toList == ([] : List UInt8)) = true := beq_iff_eq.mpr c2
  have c2b1 : (a0.toList != ([] : List UInt8)) = false := bne_eq_false_iff_eq.mpr c2
  clear c2
  obtain rfl := Option.some.inj H
  go_enter Tryz.func63, Tryz.ntmps63
  go_wp2
  go_ret
  exact ⟨z80_0, z80_1⟩
 rw [if_neg c2] at H
 have c2b0 : (a0.toList == ([] : List UInt8)) = false := beq_eq_false_iff_ne.mpr c2
 have c2b1 : (a0.toList != ([] : List UInt8)) = true := bne_iff_ne.mpr c2
 replace H := Option.bind_eq_some_iff.mp H
 obtain ⟨t427, A30, H⟩ := H
 replace H : (if t427 = true then ((q1m.f k a0 43).bind fun t428 => (if t428 = true then (some false) else ((q1m.f k a0 35).bind fun t429 => (some (!t429))))) else (some false)) = some r := H
 have A3 := Aside0.mk A30
 clear A30
 by_cases c4 : t427 = true
 ·subst c4
  rw [if_pos rfl] at H
  replace H := Option.bind_eq_some_iff.mp H
  obtain ⟨t428, A50, H⟩ := H
  replace H : (if t428 = true then (some false) else ((q1m.f k a0 35).bind fun t429 => (some (!t429)))) = some r := H
  have A5 := Aside0.mk A50
  clear A50
  by_cases c6 : t428 = true
  ·subst c6
   rw [if_pos rfl] at H
   obtain rfl := Option.some.inj H
   go_enter Tryz.func63, Tryz.ntmps63
   go_wp2_with (first | (go_at_call 62; (with_reducible refine (q1d.calls k a0 true _ A3.out).mono ?_); rintro e w' ⟨rfl, ⟨nd, rfl⟩⟩) | (go_at_call 120; (with_reducible refine (q1m.calls k a0 43 true _ A5.out).mono ?_); rintro e w' ⟨rfl, ⟨nd, rfl⟩⟩))
   go_ret
   exact ⟨z80_0, z80_1⟩
  replace c6 := Bool.eq_false_iff.mpr c6
  subst c6
  rw [if_neg (show ¬ (false = true) by decide)] at H
  replace H := Option.bind_eq_some_iff.mp H
  obtain ⟨t429, A70, H⟩ := H
  replace H : (some (!t429)) = some r := H
  have A7 := Aside0.mk A70
  clear A70
  obtain rfl := Option.some.inj H
  go_enter Tryz.func63, Tryz.ntmps63
  go_wp2_with (first | (go_at_call 62; (with_reducible refine (q1d.calls k a0 true _ A3.out).mono ?_); rintro e w' ⟨rfl, ⟨nd, rfl⟩⟩) | (go_at_call 120; (with_reducible refine (q1m.calls k a0 43 false _ A5.out).mono ?_); rintro e w' ⟨rfl, ⟨nd, rfl⟩⟩) | (go_at_call 120; (with_reducible refine (q1m.calls k a0 35 t429 _ A7.out).mono ?_); rintro e w' ⟨rfl, ⟨nd, rfl⟩⟩))
  go_ret
  exact ⟨z80_0, z80_1⟩
 replace c4 := Bool.eq_false_iff.mpr c4
 subst c4
 rw [if_neg (show ¬ (false = true) by decide)] at H
 obtain rfl := Option.some.inj H
 go_enter Tryz.func63, Tryz.ntmps63
 go_wp2_with (first | (go_at_call 62; (with_reducible refine (q1d.calls k a0 false _ A3.out).mono ?_); rintro e w' ⟨rfl, ⟨nd, rfl⟩⟩))
 go_ret
 exact ⟨z80_0, z80_1⟩

end Go.Proofs.YtngmipfobcaojaaGreat.HA
end

-- YtngmipfobcaojaaGreatHA74
section
namespace Go.Proofs.YtngmipfobcaojaaGreat.HA
open Go.RowKit Go.Proofs.YtngmipfobcaojaaGreatW.PrintWords Go.Proofs.YtngmipfobcaojaaGreatW.PrintLast Go.Proofs.YtngmipfobcaojaaGreatW.PrintMore
attribute [local go_sem] q1k q1j q1s q1t q1a q19 q1h q1i

mutual
def qb.j0 : Nat → Bool → Bool → Int → Int → ByteArray → ByteArray → Int → List Int → Int → Int → Option (Int)
 | 0, _, _, _, _, _, _, _, _, _, _ => none
 | k + 1, x6, x43, x431000, x431001, x431002, x431003, x439000, x439001, x439002, x439003 => if x43 = true then (some 2) else (if x6 = true then (if x431001 < x439002 then (qb.j1 k true x431000 x431001 x431002 x431003 x439000 x439001 x439002 x439003) else (qb.j1 k (decide (x431001 > x439003)) x431000 x431001 x431002 x431003 x439000 x439001 x439002 x439003)) else (qb.j1 k false x431000 x431001 x431002 x431003 x439000 x439001 x439002 x439003))
def qb.j1 : Nat → Bool → Int → Int → ByteArray → ByteArray → Int → List Int → Int → Int → Option (Int)
 | 0, _, _, _, _, _, _, _, _, _ => none
 | k + 1, x58, x431000, x431001, x431002, x431003, x439000, x439001, x439002, x439003 => if x58 = true then (some 9) else (if x439000 = 5 then (qb.j2 k true x431000 x431001 x431002 x431003 x439000 x439001 x439002 x439003) else (qb.j2 k (x439000 == 7) x431000 x431001 x431002 x431003 x439000 x439001 x439002 x439003))
def qb.j2 : Nat → Bool → Int → Int → ByteArray → ByteArray → Int → List Int → Int → Int → Option (Int)
 | 0, _, _, _, _, _, _, _, _, _ => none
 | k + 1, x7, x431000, x431001, x431002, x431003, x439000, x439001, x439002, x439003 => if x7 = true then ((q1d.f k x431002).bind fun t439 => (if t439 = true then ((q1d.f k x431003).bind fun t440 => (qb.j3 k (!t440) x431000 x431001 x431002 x431003 x439000 x439001 x439002 x439003)) else (qb.j3 k true x431000 x431001 x431002 x431003 x439000 x439001 x439002 x439003))) else (qb.j3 k false x431000 x431001 x431002 x431003 x439000 x439001 x439002 x439003)
def qb.j3 : Nat → Bool → Int → Int → ByteArray → ByteArray → Int → List Int → Int → Int → Option (Int)
 | 0, _, _, _, _, _, _, _, _, _ => none
 | k + 1, x79, x431000, x431001, x431002, x431003, x439000, x439001, x439002, x439003 => if x79 = true then (some 6) else (if x431000 = 8 then ((polyglotref04_Name.f k x431002).bind fun t441 => (qb.j4 k (!t441) x431000 x431001 x431002 x431003 x439000 x439001 x439002 x439003)) else (qb.j4 k false x431000 x431001 x431002 x431003 x439000 x439001 x439002 x439003))
def qb.j4 : Nat → Bool → Int → Int → ByteArray → ByteArray → Int → List Int → Int → Int → Option (Int)
 | 0, _, _, _, _, _, _, _, _, _ => none
 | k + 1, x88, x431000, x431001, x431002, x431003, x439000, x439001, x439002, x439003 => if x88 = true then (some 9) else (if x439000 = 6 then (if (x431002.size : Int) > 65535 then (some 2) else (some 0)) else (some 0))
end
def qb.f (k : Nat) (a0 : Int) (a1_0 : Int) (a1_1 : Int) (a1_2 : ByteArray) (a1_3 : ByteArray) : Option (Int) := (qy.f k a0 a1_0).bind fun t431 => (if t431 = true then ((qn.f k a1_0).bind fun bt432 => (if bt432.1 ≤ 4 then (if a1_2.toList = ([] : List UInt8) then (if bt432.1 = 7 then (qb.j0 k (decide (bt432.1 ≤ 4)) false a1_0 a1_1 a1_2 a1_3 bt432.1 bt432.2.1 bt432.2.2.1 bt432.2.2.2) else (qb.j0 k (decide (bt432.1 ≤ 4)) (a1_3.toList != ([] : List UInt8)) a1_0 a1_1 a1_2 a1_3 bt432.1 bt432.2.1 bt432.2.2.1 bt432.2.2.2)) else (qb.j0 k (decide (bt432.1 ≤ 4)) true a1_0 a1_1 a1_2 a1_3 bt432.1 bt432.2.1 bt432.2.2.1 bt432.2.2.2)) else (if a1_1 = 0 then (if bt432.1 = 7 then (qb.j0 k (decide (bt432.1 ≤ 4)) false a1_0 a1_1 a1_2 a1_3 bt432.1 bt432.2.1 bt432.2.2.1 bt432.2.2.2) else (qb.j0 k (decide (bt432.1 ≤ 4)) (a1_3.toList != ([] : List UInt8)) a1_0 a1_1 a1_2 a1_3 bt432.1 bt432.2.1 bt432.2.2.1 bt432.2.2.2)) else (qb.j0 k (decide (bt432.1 ≤ 4)) true a1_0 a1_1 a1_2 a1_3 bt432.1 bt432.2.1 bt432.2.2.1 bt432.2.2.2)))) else (some 9))
theorem z81_0 {p : Prop} (h : p := by repeat (first | (with_reducible first | exact HB.out | apply qg | apply qa | apply qi | refine qw ?_ GE430.out | refine qw ?_ GE438.out) | exact HB.out)) : p := h
theorem z81_1 {p : Prop} (h : p := by (with_reducible repeat (first | refine qd ?_ _ | refine qf ?_ | refine qc ?_ _)); exact BK430.out) : p := h
theorem z81_2 {p : Prop} (h : p := by first | rfl | (simp; done) | (simp [*]; done) | (simp; exact qh _) | exact qh _ | (simp; exact (qh _).symm) | (simp; exact q15 _)) : p := h
theorem z81_3 {p : Prop} (h : p := by (with_reducible repeat (first | apply Kd.R_alloc | apply Kd.R_drewN | apply Kd.R_drew)); exact HO_439001.out) : p := h
theorem z81_4 {p : Prop} (h : p := by (with_reducible repeat (first | refine qd ?_ _ | refine qf ?_ | refine qc ?_ _)); exact BK438.out) : p := h
theorem z81_5 {p : Prop} (h : p := by first | rfl | (simp [*]; done)) : p := h
theorem z81_6 {p : Prop} (h : p := by repeat (first | (with_reducible first | exact HB.out | apply qg | apply qa | apply qi | refine qw ?_ GE430.out) | exact HB.out)) : p := h
theorem z81_7 {p : Prop} (h : p := by first | rfl | (simp [qq, qp] <;> rfl) | (simp [*, qq, qp] <;> rfl)) : p := h
theorem z81_8 {p : Prop} (h : p := by repeat (first | (with_reducible first | exact HB.out | apply qg | apply qa | apply qi) | exact HB.out)) : p := h
theorem z81_9 {p : Prop} (h : p := by first | omega | exact Nat.le_refl _) : p := h
theorem z81_10 {p : Prop} (h : p := by (with_reducible repeat (first | apply Kd.R_alloc | apply Kd.R_drewN | apply Kd.R_drew)); exact Kd.R_mono (Kd.R_far (p := ⟨gb438, 3, none⟩) (Kd.R_far (p := ⟨gb438, 2, none⟩) (Kd.R_far (p := ⟨gb438, 1, none⟩) (Kd.R_far (p := ⟨gb438, 0, none⟩) (Kd.R_types HO435.out BK438.out (by decide)) (fun _ hk => hk.2) (.int .i64 t432)) (fun _ hk => hk.2) (.slice Ao15 t433.length co15)) (fun _ hk => hk.2) (.int .u32 t436)) (fun _ hk => hk.2) (.int .u32 t437)) (fun _ hk => trivial)) : p := h
theorem z81_11 {p : Prop} (h : p := by (with_reducible repeat (first | refine qd ?_ _ | refine qf ?_ | refine qc ?_ _)); refine blk_far ?_ NB430_438.out _; (with_reducible repeat (first | refine qd ?_ _ | refine qf ?_ | refine qc ?_ _)); refine blk_far ?_ NB430_438.out _; (with_reducible repeat (first | refine qd ?_ _ | refine qf ?_ | refine qc ?_ _)); refine blk_far ?_ NB430_438.out _; (with_reducible repeat (first | refine qd ?_ _ | refine qf ?_ | refine qc ?_ _)); refine blk_far ?_ NB430_438.out _; (with_reducible repeat (first | refine qd ?_ _ | refine qf ?_ | refine qc ?_ _)); exact BK430.out) : p := h
theorem z81_12 {p : Prop} (h : p := by (with_reducible repeat (first | refine qd ?_ _ | refine qf ?_ | refine qc ?_ _)); refine qx (cs := #[.int .i64 t432, .slice Ao15 t433.length co15, .int .u32 t436, .int .u32 0]) ?_ 3 _ rfl; (with_reducible repeat (first | refine qd ?_ _ | refine qf ?_ | refine qc ?_ _)); refine qx (cs := #[.int .i64 t432, .slice Ao15 t433.length co15, .int .u32 0, .int .u32 0]) ?_ 2 _ rfl; (with_reducible repeat (first | refine qd ?_ _ | refine qf ?_ | refine qc ?_ _)); refine qx (cs := #[.int .i64 t432, .slice none 0 0, .int .u32 0, .int .u32 0]) ?_ 1 _ rfl; (with_reducible repeat (first | refine qd ?_ _ | refine qf ?_ | refine qc ?_ _)); refine qx (cs := #[.int .i64 0, .slice none 0 0, .int .u32 0, .int .u32 0]) ?_ 0 _ rfl; (with_reducible repeat (first | refine qd ?_ _ | refine qf ?_ | refine qc ?_ _)); exact BK438.out) : p := h
theorem z81_13 {p : Prop} (h : p := by (try simp only [List.map_toArray, List.map_cons, List.map_nil]); first | done | rfl | (simp only [List.length_drop, List.length_take]; rfl)) : p := h
theorem z81_14 {p : Prop} (h : p := by have := HJ5.out; first | omega | exact Nat.le_refl _) : p := h
theorem z81_15 {p : Prop} (h : p := by have := HJ5.out; have := HJ37.out; have := HJ47.out; first | omega | exact Nat.le_refl _) : p := h
theorem z81_16 {p : Prop} (h : p := by have := HJ5.out; have := HJ37.out; have := HJ47.out; have := HJ53.out; first | omega | exact Nat.le_refl _) : p := h
set_option maxHeartbeats 8000000 in
set_option maxRecDepth 100000 in
theorem qb.calls (k : Nat) (a0 : Int) (a1_0 : Int) (a1_1 : Int) (a1_2 : ByteArray) (a1_3 : ByteArray) (r : Int) (w : World) (h : qb.f k a0 a1_0 a1_1 a1_2 a1_3 = some r) :
  Calls Tryz.prog 23 #[.int .i64 a0, .agg #[.int .i64 a1_0, .int .u32 a1_1, .string a1_2, .string a1_3]] w fun e w' => e = .returned (.int .i64 r) ∧ Below w.heap.size w w' := by
 have hu24 := Tryz.underlying24
 have hu80 := Tryz.underlying80
 have HB := Aside0.mk (Below.refl w.heap.size w)
 have H : ((qy.f k a0 a1_0).bind fun t431 => (if t431 = true then ((qn.f k a1_0).bind fun bt432 => (if bt432.1 ≤ 4 then (if a1_2.toList = ([] : List UInt8) then (if bt432.1 = 7 then (qb.j0 k (decide (bt432.1 ≤ 4)) false a1_0 a1_1 a1_2 a1_3 bt432.1 bt432.2.1 bt432.2.2.1 bt432.2.2.2) else (qb.j0 k (decide (bt432.1 ≤ 4)) (a1_3.toList != ([] : List UInt8)) a1_0 a1_1 a1_2 a1_3 bt432.1 bt432.2.1 bt432.2.2.1 bt432.2.2.2)) else (qb.j0 k (decide (bt432.1 ≤ 4)) true a1_0 a1_1 a1_2 a1_3 bt432.1 bt432.2.1 bt432.2.2.1 bt432.2.2.2)) else (if a1_1 = 0 then (if bt432.1 = 7 then (qb.j0 k (decide (bt432.1 ≤ 4)) false a1_0 a1_1 a1_2 a1_3 bt432.1 bt432.2.1 bt432.2.2.1 bt432.2.2.2) else (qb.j0 k (decide (bt432.1 ≤ 4)) (a1_3.toList != ([] : List UInt8)) a1_0 a1_1 a1_2 a1_3 bt432.1 bt432.2.1 bt432.2.2.1 bt432.2.2.2)) else (qb.j0 k (decide (bt432.1 ≤ 4)) true a1_0 a1_1 a1_2 a1_3 bt432.1 bt432.2.1 bt432.2.2.1 bt432.2.2.2)))) else (some 9))) = some r := h
 clear h
 replace H := Option.bind_eq_some_iff.mp H
 obtain ⟨t431, A30, H⟩ := H
 replace H : (if t431 = true then ((qn.f k a1_0).bind fun bt432 => (if bt432.1 ≤ 4 then (if a1_2.toList = ([] : List UInt8) then (if bt432.1 = 7 then (qb.j0 k (decide (bt432.1 ≤ 4)) false a1_0 a1_1 a1_2 a1_3 bt432.1 bt432.2.1 bt432.2.2.1 bt432.2.2.2) else (qb.j0 k (decide (bt432.1 ≤ 4)) (a1_3.toList != ([] : List UInt8)) a1_0 a1_1 a1_2 a1_3 bt432.1 bt432.2.1 bt432.2.2.1 bt432.2.2.2)) else (qb.j0 k (decide (bt432.1 ≤ 4)) true a1_0 a1_1 a1_2 a1_3 bt432.1 bt432.2.1 bt432.2.2.1 bt432.2.2.2)) else (if a1_1 = 0 then (if bt432.1 = 7 then (qb.j0 k (decide (bt432.1 ≤ 4)) false a1_0 a1_1 a1_2 a1_3 bt432.1 bt432.2.1 bt432.2.2.1 bt432.2.2.2) else (qb.j0 k (decide (bt432.1 ≤ 4)) (a1_3.toList != ([] : List UInt8)) a1_0 a1_1 a1_2 a1_3 bt432.1 bt432.2.1 bt432.2.2.1 bt432.2.2.2)) else (qb.j0 k (decide (bt432.1 ≤ 4)) true a1_0 a1_1 a1_2 a1_3 bt432.1 bt432.2.1 bt432.2.2.1 bt432.2.2.2)))) else (some 9)) = some r := H
 have A3 := Aside0.mk A30
 clear A30
 by_cases c4 : t431 = true
 ·subst c4
  rw [if_pos rfl] at H
  replace H := Option.bind_eq_some_iff.mp H
  obtain ⟨⟨t432, t433, t436, t437⟩, A50, H⟩ := H
  replace H : (if t432 ≤ 4 then (if a1_2.toList = ([] : List UInt8) then (if t432 = 7 then (qb.j0 k (decide (t432 ≤ 4)) false a1_0 a1_1 a1_2 a1_3 t432 t433 t436 t437) else (qb.j0 k (decide (t432 ≤ 4)) (a1_3.toList != ([] : List UInt8)) a1_0 a1_1 a1_2 a1_3 t432 t433 t436 t437)) else (qb.j0 k (decide (t432 ≤ 4)) true a1_0 a1_1 a1_2 a1_3 t432 t433 t436 t437)) else (if a1_1 = 0 then (if t432 = 7 then (qb.j0 k (decide (t432 ≤ 4)) false a1_0 a1_1 a1_2 a1_3 t432 t433 t436 t437) else (qb.j0 k (decide (t432 ≤ 4)) (a1_3.toList != ([] : List UInt8)) a1_0 a1_1 a1_2 a1_3 t432 t433 t436 t437)) else (qb.j0 k (decide (t432 ≤ 4)) true a1_0 a1_1 a1_2 a1_3 t432 t433 t436 t437))) = some r := H
  have A5 := Aside0.mk A50
  clear A50
  have HC6 := Aside0.mk H
  clear H
  go_enter Tryz.func23, Tryz.ntmps23
  go_upto_region 5 with (first | ((with_reducible refine q1c (N := 3) rfl ?_); (try (refine gate_guard (by rfl) ?_; dsimp only)); refine q1r ?hg (N := 3) ?hd (cs := #[.int .i64 a1_0, .int .u32 a1_1, .string a1_2, .string a1_3]) (t := 24) ?hr ?_; (case hd => rfl); (case hg => rfl); (case hr => first | (go_simp; done) | (go_simp; rfl)); intro gb430 hg w7 hbox hb; have n0_ := Aside0.mk (qe z81_8 hb); have n1_ := Aside0.mk (hbox); have n2_ := Aside0.mk ((by rw [hg]; exact (qm z81_8) : w.heap.size ≤ gb430)); have n3_ := Aside0.mk ((by rw [hg]; exact (qm z81_8) : w.heap.size ≤ gb430)); clear HB; have HB := n0_; have BK430 := n1_; have GW430 := n2_; have GE430 := n3_; clear n0_ n1_ n2_ n3_; clear hb hbox hg; have hcz8_0 := zbc BK430 0 (.int .i64 a1_0); have hcz8_1 := zbc BK430 1 (.int .u32 a1_1); have hcz8_2 := zbc BK430 2 (.string a1_2); have hcz8_3 := zbc BK430 3 (.string a1_3); have hfz8_0 := q9 BK430.out 0; have hfz8_1 := q9 BK430.out 1; have hfz8_2 := q9 BK430.out 2; have hfz8_3 := q9 BK430.out 3) | ((with_reducible refine ql (f := 19) rfl ?_); refine q1b (some 11) rfl rfl Tryz.func19 (by kernel_rfl) rfl #[.int .i64 a0, .int .i64 a1_0] rfl z81_13 ?_; (with_reducible refine (qy.calls k a0 a1_0 true _ A3.out).mono ?_); rintro e w9 ⟨rfl, hb⟩; refine ⟨_, rfl, ?_⟩; have n0_ := Aside0.mk (qo (g := gb430) (o := .cells #[.int .i64 a1_0, .int .u32 a1_1, .string a1_2, .string a1_3] 24 (0, 0)) z81_1 hb); have n1_ := Aside0.mk (qe z81_6 hb); clear BK430; clear HB; have BK430 := n0_; have HB := n1_; clear n0_ n1_; (try clear hb); (try clear hb2); (try clear hk); (try clear hi); have hcz10_0 := zbc BK430 0 (.int .i64 a1_0); have hcz10_1 := zbc BK430 1 (.int .u32 a1_1); have hcz10_2 := zbc BK430 2 (.string a1_2); have hcz10_3 := zbc BK430 3 (.string a1_3); have hfz10_0 := q9 BK430.out 0; have hfz10_1 := q9 BK430.out 1; have hfz10_2 := q9 BK430.out 2; have hfz10_3 := q9 BK430.out 3) | ((with_reducible refine ql (f := 59) rfl ?_); refine q1b (some 15) rfl rfl Tryz.func59 (by kernel_rfl) rfl #[.int .i64 a1_0] rfl z81_13 ?_; (with_reducible refine (qn.calls k a1_0 t432 t433 t436 t437 _ A5.out).mono ?_); rintro e w11 ⟨v434, rfl, ho0, hb⟩; refine ⟨_, rfl, ?_⟩; have n0_ := Aside0.mk (Kd.R_lower ho0 (qm z81_6)); have n1_ := Aside0.mk (qo (g := gb430) (o := .cells #[.int .i64 a1_0, .int .u32 a1_1, .string a1_2, .string a1_3] 24 (0, 0)) z81_1 hb); have n2_ := Aside0.mk (qe z81_6 hb); clear BK430; clear HB; have HO435 := n0_; have BK430 := n1_; have HB := n2_; clear n0_ n1_ n2_; (try clear hb); (try clear hb2); (try clear hk); (try clear hi); (try clear ho0)) | ((with_reducible refine q1c (N := 5) rfl ?_); (try (refine gate_guard (by rfl) ?_; dsimp only)); refine q1r ?hg (N := 5) ?hd (cs := #[.int .i64 0, .slice none 0 0, .int .u32 0, .int .u32 0]) (t := 80) ?hr ?_; (case hd => rfl); (case hg => rfl); (case hr => first | (go_simp; done) | (go_simp; rfl)); intro gb438 hg w12 hbox hb; have n0_ := Aside0.mk (Kd.R_below (by (with_reducible repeat (first | apply Kd.R_alloc | apply Kd.R_drewN | apply Kd.R_drew)); exact HO435.out) hb); have n1_ := Aside0.mk (qo (g := gb430) (o := .cells #[.int .i64 a1_0, .int .u32 a1_1, .string a1_2, .string a1_3] 24 (0, 0)) z81_1 hb); have n2_ := Aside0.mk (qe z81_6 hb); have n3_ := Aside0.mk (hbox); have n4_ := Aside0.mk ((by rw [hg]; exact (qm z81_6) : w.heap.size ≤ gb438)); have n5_ := Aside0.mk ((by rw [hg]; exact (qm z81_6) : w.heap.size ≤ gb438)); have n6_ := Aside0.mk ((by rw [hg]; exact Nat.ne_of_lt (blk_lt (g := gb430) (o := .cells #[.int .i64 a1_0, .int .u32 a1_1, .string a1_2, .string a1_3] 24 (0, 0)) z81_1) : gb430 ≠ gb438)); have n7_ := Aside0.mk ((by rw [hg]; exact Nat.ne_of_gt (blk_lt (g := gb430) (o := .cells #[.int .i64 a1_0, .int .u32 a1_1, .string a1_2, .string a1_3] 24 (0, 0)) z81_1) : gb438 ≠ gb430)); clear HO435; clear BK430; clear HB; have HO435 := n0_; have BK430 := n1_; have HB := n2_; have BK438 := n3_; have GW438 := n4_; have GE438 := n5_; have NB430_438 := n6_; have NB438_430 := n7_; clear n0_ n1_ n2_ n3_ n4_ n5_ n6_ n7_; clear hb hbox hg; have hnb13 := NB438_430.out; have hnc13 := NB430_438.out; have hcz14_0 := zbc BK438 0 (.int .i64 0); have hcz14_1 := zbc BK438 1 (.slice none 0 0); have hcz14_2 := zbc BK438 2 (.int .u32 0); have hcz14_3 := zbc BK438 3 (.int .u32 0); have hfz14_0 := q9 BK438.out 0; have hfz14_1 := q9 BK438.out 1; have hfz14_2 := q9 BK438.out 2; have hfz14_3 := q9 BK438.out 3; obtain ⟨Ao15, co15, eo15⟩ := Kd.R_slice HO435.out; subst eo15))
  (try simp only [Act.put, List.setIfInBounds_toArray, List.set_cons_zero, List.set_cons_succ])
  go_cut [6, 43] (fun v6 v43 wc => ∃ (kq : Nat) (x43_5 : Bool), v6 = .bool (decide (t432 ≤ 4)) ∧ v43 = .bool x43_5 ∧ Aside0 (qb.j0 kq (decide (t432 ≤ 4)) x43_5 a1_0 a1_1 a1_2 a1_3 t432 t433 t436 t437 = some r) ∧ Aside0 (kq ≤ k) ∧ Aside0 (Kd.R (Kd.int .i64) 3 wc w.heap.size (fun _ => True) (.slice Ao15 t433.length co15) t433) ∧ Aside0 (wc.heap[gb430]? = some (.cells #[.int .i64 a1_0, .int .u32 a1_1, .string a1_2, .string a1_3] 24 (0, 0))) ∧ Aside0 (wc.heap[gb438]? = some (.cells #[.int .i64 t432, (.slice Ao15 t433.length co15), .int .u32 t436, .int .u32 t437] 80 (0, 0))) ∧ Aside0 (Below w.heap.size w wc))
  case first =>
   have H := HC6.out
   clear HC6
   by_cases c16 : t432 ≤ 4
   ·rw [if_pos c16] at H
    have c16b0 : decide (t432 ≤ 4) = true := decide_eq_true c16
    clear c16
    (first | rw [c16b0] | (simp only [i64_w, i32_w]; rw [c16b0]) | skip)
    by_cases c17 : a1_2.toList = ([] : List UInt8)
    ·rw [if_pos c17] at H
     have c17b0 : (a1_2.toList == ([] : List UInt8)) = true := beq_iff_eq.mpr c17
     have c17b1 : (a1_2.toList != ([] : List UInt8)) = false := bne_eq_false_iff_eq.mpr c17
     clear c17
     by_cases c18 : t432 = 7
     ·rw [if_pos c18] at H
      have c18b0 : (t432 == 7) = true := beq_iff_eq.mpr c18
      have c18b1 : (t432 != 7) = false := bne_eq_false_iff_eq.mpr c18
      clear c18
      have H' := Aside0.mk H
      clear H
      have hnb19 := NB430_438.out
      have hnc19 := NB438_430.out
      have hcz20_0 := zbc BK430 0 (.int .i64 a1_0)
      have hcz20_1 := zbc BK430 1 (.int .u32 a1_1)
      have hcz20_2 := zbc BK430 2 (.string a1_2)
      have hcz20_3 := zbc BK430 3 (.string a1_3)
      have hfz20_0 := q9 BK430.out 0
      have hfz20_1 := q9 BK430.out 1
      have hfz20_2 := q9 BK430.out 2
      have hfz20_3 := q9 BK430.out 3
      have hcz21_0 := zbc BK438 0 (.int .i64 0)
      have hcz21_1 := zbc BK438 1 (.slice none 0 0)
      have hcz21_2 := zbc BK438 2 (.int .u32 0)
      have hcz21_3 := zbc BK438 3 (.int .u32 0)
      have hfz21_0 := q9 BK438.out 0
      have hfz21_1 := q9 BK438.out 1
      have hfz21_2 := q9 BK438.out 2
      have hfz21_3 := q9 BK438.out 3
      go_wp2
      go_meet
      case rel => exact ⟨_, (false), z81_5, z81_2, H', ⟨z81_9⟩, ⟨z81_10⟩, ⟨z81_11⟩, ⟨z81_12⟩, ⟨z81_0⟩⟩
     rw [if_neg c18] at H
     have c18b0 : (t432 == 7) = false := beq_eq_false_iff_ne.mpr c18
     have c18b1 : (t432 != 7) = true := bne_iff_ne.mpr c18
     have H' := Aside0.mk H
     clear H
     have hnb22 := NB430_438.out
     have hnc22 := NB438_430.out
     have hcz23_0 := zbc BK430 0 (.int .i64 a1_0)
     have hcz23_1 := zbc BK430 1 (.int .u32 a1_1)
     have hcz23_2 := zbc BK430 2 (.string a1_2)
     have hcz23_3 := zbc BK430 3 (.string a1_3)
     have hfz23_0 := q9 BK430.out 0
     have hfz23_1 := q9 BK430.out 1
     have hfz23_2 := q9 BK430.out 2
     have hfz23_3 := q9 BK430.out 3
     have hcz24_0 := zbc BK438 0 (.int .i64 0)
     have hcz24_1 := zbc BK438 1 (.slice none 0 0)
     have hcz24_2 := zbc BK438 2 (.int .u32 0)
     have hcz24_3 := zbc BK438 3 (.int .u32 0)
     have hfz24_0 := q9 BK438.out 0
     have hfz24_1 := q9 BK438.out 1
     have hfz24_2 := q9 BK438.out 2
     have hfz24_3 := q9 BK438.out 3
     go_wp2
     go_meet
     case rel => exact ⟨_, ((a1_3.toList != ([] : List UInt8))), z81_5, z81_2, H', ⟨z81_9⟩, ⟨z81_10⟩, ⟨z81_11⟩, ⟨z81_12⟩, ⟨z81_0⟩⟩
    rw [if_neg c17] at H
    have c17b0 : (a1_2.toList == ([] : List UInt8)) = false := beq_eq_false_iff_ne.mpr c17
    have c17b1 : (a1_2.toList != ([] : List UInt8)) = true := bne_iff_ne.mpr c17
    have H' := Aside0.mk H
    clear H
    have hnb25 := NB430_438.out
    have hnc25 := NB438_430.out
    have hcz26_0 := zbc BK430 0 (.int .i64 a1_0)
    have hcz26_1 := zbc BK430 1 (.int .u32 a1_1)
    have hcz26_2 := zbc BK430 2 (.string a1_2)
    have hcz26_3 := zbc BK430 3 (.string a1_3)
    have hfz26_0 := q9 BK430.out 0
    have hfz26_1 := q9 BK430.out 1
    have hfz26_2 := q9 BK430.out 2
    have hfz26_3 := q9 BK430.out 3
    go_wp2
    go_meet
    case rel => exact ⟨_, (true), z81_5, z81_2, H', ⟨z81_9⟩, ⟨z81_10⟩, ⟨z81_11⟩, ⟨z81_12⟩, ⟨z81_0⟩⟩
   rw [if_neg c16] at H
   have c16b0 : decide (t432 ≤ 4) = false := decide_eq_false c16
   clear c16
   (first | rw [c16b0] | (simp only [i64_w, i32_w]; rw [c16b0]) | skip)
   by_cases c27 : a1_1 = 0
   ·rw [if_pos c27] at H
    have c27b0 : (a1_1 == 0) = true := beq_iff_eq.mpr c27
    have c27b1 : (a1_1 != 0) = false := bne_eq_false_iff_eq.mpr c27
    clear c27
    by_cases c28 : t432 = 7
    ·rw [if_pos c28] at H
     have c28b0 : (t432 == 7) = true := beq_iff_eq.mpr c28
     have c28b1 : (t432 != 7) = false := bne_eq_false_iff_eq.mpr c28
     clear c28
     have H' := Aside0.mk H
     clear H
     have hnb29 := NB430_438.out
     have hnc29 := NB438_430.out
     have hcz30_0 := zbc BK430 0 (.int .i64 a1_0)
     have hcz30_1 := zbc BK430 1 (.int .u32 a1_1)
     have hcz30_2 := zbc BK430 2 (.string a1_2)
     have hcz30_3 := zbc BK430 3 (.string a1_3)
     have hfz30_0 := q9 BK430.out 0
     have hfz30_1 := q9 BK430.out 1
     have hfz30_2 := q9 BK430.out 2
     have hfz30_3 := q9 BK430.out 3
     have hcz31_0 := zbc BK438 0 (.int .i64 0)
     have hcz31_1 := zbc BK438 1 (.slice none 0 0)
     have hcz31_2 := zbc BK438 2 (.int .u32 0)
     have hcz31_3 := zbc BK438 3 (.int .u32 0)
     have hfz31_0 := q9 BK438.out 0
     have hfz31_1 := q9 BK438.out 1
     have hfz31_2 := q9 BK438.out 2
     have hfz31_3 := q9 BK438.out 3
     go_wp2
     go_meet
     case rel => exact ⟨_, (false), z81_5, z81_2, H', ⟨z81_9⟩, ⟨z81_10⟩, ⟨z81_11⟩, ⟨z81_12⟩, ⟨z81_0⟩⟩
    rw [if_neg c28] at H
    have c28b0 : (t432 == 7) = false := beq_eq_false_iff_ne.mpr c28
    have c28b1 : (t432 != 7) = true := bne_iff_ne.mpr c28
    have H' := Aside0.mk H
    clear H
    have hnb32 := NB430_438.out
    have hnc32 := NB438_430.out
    have hcz33_0 := zbc BK430 0 (.int .i64 a1_0)
    have hcz33_1 := zbc BK430 1 (.int .u32 a1_1)
    have hcz33_2 := zbc BK430 2 (.string a1_2)
    have hcz33_3 := zbc BK430 3 (.string a1_3)
    have hfz33_0 := q9 BK430.out 0
    have hfz33_1 := q9 BK430.out 1
    have hfz33_2 := q9 BK430.out 2
    have hfz33_3 := q9 BK430.out 3
    have hcz34_0 := zbc BK438 0 (.int .i64 0)
    have hcz34_1 := zbc BK438 1 (.slice none 0 0)
    have hcz34_2 := zbc BK438 2 (.int .u32 0)
    have hcz34_3 := zbc BK438 3 (.int .u32 0)
    have hfz34_0 := q9 BK438.out 0
    have hfz34_1 := q9 BK438.out 1
    have hfz34_2 := q9 BK438.out 2
    have hfz34_3 := q9 BK438.out 3
    go_wp2
    go_meet
    case rel => exact ⟨_, ((a1_3.toList != ([] : List UInt8))), z81_5, z81_2, H', ⟨z81_9⟩, ⟨z81_10⟩, ⟨z81_11⟩, ⟨z81_12⟩, ⟨z81_0⟩⟩
   rw [if_neg c27] at H
   have c27b0 : (a1_1 == 0) = false := beq_eq_false_iff_ne.mpr c27
   have c27b1 : (a1_1 != 0) = true := bne_iff_ne.mpr c27
   have H' := Aside0.mk H
   clear H
   have hnb35 := NB430_438.out
   have hnc35 := NB438_430.out
   have hcz36_0 := zbc BK430 0 (.int .i64 a1_0)
   have hcz36_1 := zbc BK430 1 (.int .u32 a1_1)
   have hcz36_2 := zbc BK430 2 (.string a1_2)
   have hcz36_3 := zbc BK430 3 (.string a1_3)
   have hfz36_0 := q9 BK430.out 0
   have hfz36_1 := q9 BK430.out 1
   have hfz36_2 := q9 BK430.out 2
   have hfz36_3 := q9 BK430.out 3
   go_wp2
   go_meet
   case rel => exact ⟨_, (true), z81_5, z81_2, H', ⟨z81_9⟩, ⟨z81_10⟩, ⟨z81_11⟩, ⟨z81_12⟩, ⟨z81_0⟩⟩
  case rest =>
   clear HC6
   clear hcz10_0 hcz10_1 hcz10_2 hcz10_3 hcz14_0 hcz14_1 hcz14_2 hcz14_3 hcz8_0 hcz8_1 hcz8_2 hcz8_3 hfz10_0 hfz10_1 hfz10_2 hfz10_3 hfz14_0 hfz14_1 hfz14_2 hfz14_3 hfz8_0 hfz8_1 hfz8_2 hfz8_3
   obtain ⟨kq, x43_5, rfl, rfl, HA, HJ5, HO_439001, BK430, BK438, HB⟩ := hcut
   cases kq with
   | zero => exact absurd HA.out (by simp [qb.j0])
   | succ kj5 =>
    have H := HA.out
    clear HA
    simp only [qb.j0] at H
    by_cases c37 : x43_5 = true
    ·subst c37
     rw [if_pos rfl] at H
     obtain rfl := Option.some.inj H
     go_wp2
     go_ret
     exact ⟨z81_7, z81_0⟩
    replace c37 := Bool.eq_false_iff.mpr c37
    subst c37
    rw [if_neg (show ¬ (false = true) by decide)] at H
    have HC38 := Aside0.mk H
    clear H
    go_upto_region 7 with (fail)
    go_cut [6, 58] (fun v6 v58 wc => ∃ (kq : Nat) (x58_37 : Bool), v6 = .bool (decide (t432 ≤ 4)) ∧ v58 = .bool x58_37 ∧ Aside0 (qb.j1 kq x58_37 a1_0 a1_1 a1_2 a1_3 t432 t433 t436 t437 = some r) ∧ Aside0 (kq ≤ kj5) ∧ Aside0 (Kd.R (Kd.int .i64) 3 wc w.heap.size (fun _ => True) (.slice Ao15 t433.length co15) t433) ∧ Aside0 (wc.heap[gb430]? = some (.cells #[.int .i64 a1_0, .int .u32 a1_1, .string a1_2, .string a1_3] 24 (0, 0))) ∧ Aside0 (wc.heap[gb438]? = some (.cells #[.int .i64 t432, (.slice Ao15 t433.length co15), .int .u32 t436, .int .u32 t437] 80 (0, 0))) ∧ Aside0 (Below w.heap.size w wc))
    case first =>
     have H := HC38.out
     clear HC38
     by_cases c39 : (decide (t432 ≤ 4)) = true
     ·rw [if_pos c39] at H
      have c39b0 : (decide (t432 ≤ 4)) = true := c39
      clear c39
      (first | rw [c39b0] | (simp only [i64_w, i32_w]; rw [c39b0]) | skip)
      by_cases c40 : a1_1 < t436
      ·rw [if_pos c40] at H
       have c40b0 : decide (a1_1 < t436) = true := decide_eq_true c40
       clear c40
       have H' := Aside0.mk H
       clear H
       have hnb41 := NB430_438.out
       have hnc41 := NB438_430.out
       have hcz42_0 := zbc BK430 0 (.int .i64 a1_0)
       have hcz42_1 := zbc BK430 1 (.int .u32 a1_1)
       have hcz42_2 := zbc BK430 2 (.string a1_2)
       have hcz42_3 := zbc BK430 3 (.string a1_3)
       have hfz42_0 := q9 BK430.out 0
       have hfz42_1 := q9 BK430.out 1
       have hfz42_2 := q9 BK430.out 2
       have hfz42_3 := q9 BK430.out 3
       have hcz43_0 := zbc BK438 0 (.int .i64 t432)
       have hcz43_1 := zbc BK438 1 (.slice Ao15 t433.length co15)
       have hcz43_2 := zbc BK438 2 (.int .u32 t436)
       have hcz43_3 := zbc BK438 3 (.int .u32 t437)
       have hfz43_0 := q9 BK438.out 0
       have hfz43_1 := q9 BK438.out 1
       have hfz43_2 := q9 BK438.out 2
       have hfz43_3 := q9 BK438.out 3
       go_wp2
       go_meet
       case rel => exact ⟨_, (true), z81_5, z81_2, H', ⟨z81_14⟩, ⟨z81_3⟩, ⟨z81_1⟩, ⟨z81_4⟩, ⟨z81_0⟩⟩
      rw [if_neg c40] at H
      have c40b0 : decide (a1_1 < t436) = false := decide_eq_false c40
      clear c40
      have H' := Aside0.mk H
      clear H
      have hnb44 := NB430_438.out
      have hnc44 := NB438_430.out
      have hcz45_0 := zbc BK430 0 (.int .i64 a1_0)
      have hcz45_1 := zbc BK430 1 (.int .u32 a1_1)
      have hcz45_2 := zbc BK430 2 (.string a1_2)
      have hcz45_3 := zbc BK430 3 (.string a1_3)
      have hfz45_0 := q9 BK430.out 0
      have hfz45_1 := q9 BK430.out 1
      have hfz45_2 := q9 BK430.out 2
      have hfz45_3 := q9 BK430.out 3
      have hcz46_0 := zbc BK438 0 (.int .i64 t432)
      have hcz46_1 := zbc BK438 1 (.slice Ao15 t433.length co15)
      have hcz46_2 := zbc BK438 2 (.int .u32 t436)
      have hcz46_3 := zbc BK438 3 (.int .u32 t437)
      have hfz46_0 := q9 BK438.out 0
      have hfz46_1 := q9 BK438.out 1
      have hfz46_2 := q9 BK438.out 2
      have hfz46_3 := q9 BK438.out 3
      go_wp2
      go_meet
      case rel => exact ⟨_, (decide (a1_1 > t437)), z81_5, z81_2, H', ⟨z81_14⟩, ⟨z81_3⟩, ⟨z81_1⟩, ⟨z81_4⟩, ⟨z81_0⟩⟩
     rw [if_neg c39] at H
     have c39b0 : (decide (t432 ≤ 4)) = false := by simpa using c39
     clear c39
     (first | rw [c39b0] | (simp only [i64_w, i32_w]; rw [c39b0]) | skip)
     have H' := Aside0.mk H
     clear H
     go_wp2
     go_meet
     case rel => exact ⟨_, (false), z81_5, z81_2, H', ⟨z81_14⟩, ⟨z81_3⟩, ⟨z81_1⟩, ⟨z81_4⟩, ⟨z81_0⟩⟩
    case rest =>
     clear HC38
     obtain ⟨kq, x58_37, rfl, rfl, HA, HJ37, HO_439001, BK430, BK438, HB⟩ := hcut
     cases kq with
     | zero => exact absurd HA.out (by simp [qb.j1])
     | succ kj37 =>
      have H := HA.out
      clear HA
      simp only [qb.j1] at H
      by_cases c47 : x58_37 = true
      ·subst c47
       rw [if_pos rfl] at H
       obtain rfl := Option.some.inj H
       go_wp2
       go_ret
       exact ⟨z81_7, z81_0⟩
      replace c47 := Bool.eq_false_iff.mpr c47
      subst c47
      rw [if_neg (show ¬ (false = true) by decide)] at H
      have HC48 := Aside0.mk H
      clear H
      go_upto_region 9 with (fail)
      go_cut [7] (fun v7 wc => ∃ (kq : Nat) (x7_47 : Bool), v7 = .bool x7_47 ∧ Aside0 (qb.j2 kq x7_47 a1_0 a1_1 a1_2 a1_3 t432 t433 t436 t437 = some r) ∧ Aside0 (kq ≤ kj37) ∧ Aside0 (Kd.R (Kd.int .i64) 3 wc w.heap.size (fun _ => True) (.slice Ao15 t433.length co15) t433) ∧ Aside0 (wc.heap[gb430]? = some (.cells #[.int .i64 a1_0, .int .u32 a1_1, .string a1_2, .string a1_3] 24 (0, 0))) ∧ Aside0 (wc.heap[gb438]? = some (.cells #[.int .i64 t432, (.slice Ao15 t433.length co15), .int .u32 t436, .int .u32 t437] 80 (0, 0))) ∧ Aside0 (Below w.heap.size w wc))
      case first =>
       have H := HC48.out
       clear HC48
       by_cases c49 : t432 = 5
       ·rw [if_pos c49] at H
        have c49b0 : (t432 == 5) = true := beq_iff_eq.mpr c49
        have c49b1 : (t432 != 5) = false := bne_eq_false_iff_eq.mpr c49
        clear c49
        (first | rw [c49b0] | (simp only [i64_w, i32_w]; rw [c49b0]) | skip)
        have H' := Aside0.mk H
        clear H
        have hnb50 := NB438_430.out
        have hnc50 := NB430_438.out
        have hcz51_0 := zbc BK438 0 (.int .i64 t432)
        have hcz51_1 := zbc BK438 1 (.slice Ao15 t433.length co15)
        have hcz51_2 := zbc BK438 2 (.int .u32 t436)
        have hcz51_3 := zbc BK438 3 (.int .u32 t437)
        have hfz51_0 := q9 BK438.out 0
        have hfz51_1 := q9 BK438.out 1
        have hfz51_2 := q9 BK438.out 2
        have hfz51_3 := q9 BK438.out 3
        go_wp2
        go_meet
        case rel => exact ⟨_, (true), z81_2, H', ⟨(by have := HJ5.out; have := HJ37.out; first | omega | exact Nat.le_refl _)⟩, ⟨z81_3⟩, ⟨z81_1⟩, ⟨z81_4⟩, ⟨z81_0⟩⟩
       rw [if_neg c49] at H
       have c49b0 : (t432 == 5) = false := beq_eq_false_iff_ne.mpr c49
       have c49b1 : (t432 != 5) = true := bne_iff_ne.mpr c49
       (first | rw [c49b0] | (simp only [i64_w, i32_w]; rw [c49b0]) | skip)
       have H' := Aside0.mk H
       clear H
       have hnb52 := NB438_430.out
       have hnc52 := NB430_438.out
       have hcz53_0 := zbc BK438 0 (.int .i64 t432)
       have hcz53_1 := zbc BK438 1 (.slice Ao15 t433.length co15)
       have hcz53_2 := zbc BK438 2 (.int .u32 t436)
       have hcz53_3 := zbc BK438 3 (.int .u32 t437)
       have hfz53_0 := q9 BK438.out 0
       have hfz53_1 := q9 BK438.out 1
       have hfz53_2 := q9 BK438.out 2
       have hfz53_3 := q9 BK438.out 3
       go_wp2
       go_meet
       case rel => exact ⟨_, ((t432 == 7)), z81_2, H', ⟨(by have := HJ5.out; have := HJ37.out; first | omega | exact Nat.le_refl _)⟩, ⟨z81_3⟩, ⟨z81_1⟩, ⟨z81_4⟩, ⟨z81_0⟩⟩
      case rest =>
       clear HC48
       obtain ⟨kq, x7_47, rfl, HA, HJ47, HO_439001, BK430, BK438, HB⟩ := hcut
       cases kq with
       | zero => exact absurd HA.out (by simp [qb.j2])
       | succ kj47 =>
        have H := HA.out
        clear HA
        simp only [qb.j2] at H
        have HC54 := Aside0.mk H
        clear H
        go_upto_region 10 with (fail)
        go_cut [79] (fun v79 wc => ∃ (kq : Nat) (x79_53 : Bool), v79 = .bool x79_53 ∧ Aside0 (qb.j3 kq x79_53 a1_0 a1_1 a1_2 a1_3 t432 t433 t436 t437 = some r) ∧ Aside0 (kq ≤ kj47) ∧ Aside0 (Kd.R (Kd.int .i64) 3 wc w.heap.size (fun _ => True) (.slice Ao15 t433.length co15) t433) ∧ Aside0 (wc.heap[gb430]? = some (.cells #[.int .i64 a1_0, .int .u32 a1_1, .string a1_2, .string a1_3] 24 (0, 0))) ∧ Aside0 (wc.heap[gb438]? = some (.cells #[.int .i64 t432, (.slice Ao15 t433.length co15), .int .u32 t436, .int .u32 t437] 80 (0, 0))) ∧ Aside0 (Below w.heap.size w wc))
        case first =>
         have H := HC54.out
         clear HC54
         by_cases c55 : x7_47 = true
         ·subst c55
          rw [if_pos rfl] at H
          replace H := Option.bind_eq_some_iff.mp H
          obtain ⟨t439, A560, H⟩ := H
          replace H : (if t439 = true then ((q1d.f kj47 a1_3).bind fun t440 => (qb.j3 kj47 (!t440) a1_0 a1_1 a1_2 a1_3 t432 t433 t436 t437)) else (qb.j3 kj47 true a1_0 a1_1 a1_2 a1_3 t432 t433 t436 t437)) = some r := H
          have A56 := Aside0.mk A560
          clear A560
          by_cases c57 : t439 = true
          ·subst c57
           rw [if_pos rfl] at H
           replace H := Option.bind_eq_some_iff.mp H
           obtain ⟨t440, A580, H⟩ := H
           replace H : (qb.j3 kj47 (!t440) a1_0 a1_1 a1_2 a1_3 t432 t433 t436 t437) = some r := H
           have A58 := Aside0.mk A580
           clear A580
           have H' := Aside0.mk H
           clear H
           have hnb59 := NB430_438.out
           have hnc59 := NB438_430.out
           have hcz60_0 := zbc BK430 0 (.int .i64 a1_0)
           have hcz60_1 := zbc BK430 1 (.int .u32 a1_1)
           have hcz60_2 := zbc BK430 2 (.string a1_2)
           have hcz60_3 := zbc BK430 3 (.string a1_3)
           have hfz60_0 := q9 BK430.out 0
           have hfz60_1 := q9 BK430.out 1
           have hfz60_2 := q9 BK430.out 2
           have hfz60_3 := q9 BK430.out 3
           go_wp2_with (first | (go_at_call 62; (with_reducible refine (q1d.calls kj47 a1_2 true _ A56.out).mono ?_); rintro e w' ⟨rfl, ⟨nd, rfl⟩⟩) | (go_at_call 62; (with_reducible refine (q1d.calls kj47 a1_3 t440 _ A58.out).mono ?_); rintro e w' ⟨rfl, ⟨nd, rfl⟩⟩))
           go_meet
           case rel => exact ⟨_, (!t440), z81_2, H', ⟨z81_15⟩, ⟨z81_3⟩, ⟨z81_1⟩, ⟨z81_4⟩, ⟨z81_0⟩⟩
          replace c57 := Bool.eq_false_iff.mpr c57
          subst c57
          rw [if_neg (show ¬ (false = true) by decide)] at H
          have H' := Aside0.mk H
          clear H
          have hnb61 := NB430_438.out
          have hnc61 := NB438_430.out
          have hcz62_0 := zbc BK430 0 (.int .i64 a1_0)
          have hcz62_1 := zbc BK430 1 (.int .u32 a1_1)
          have hcz62_2 := zbc BK430 2 (.string a1_2)
          have hcz62_3 := zbc BK430 3 (.string a1_3)
          have hfz62_0 := q9 BK430.out 0
          have hfz62_1 := q9 BK430.out 1
          have hfz62_2 := q9 BK430.out 2
          have hfz62_3 := q9 BK430.out 3
          go_wp2_with (first | (go_at_call 62; (with_reducible refine (q1d.calls kj47 a1_2 false _ A56.out).mono ?_); rintro e w' ⟨rfl, ⟨nd, rfl⟩⟩))
          go_meet
          case rel => exact ⟨_, (true), z81_2, H', ⟨z81_15⟩, ⟨z81_3⟩, ⟨z81_1⟩, ⟨z81_4⟩, ⟨z81_0⟩⟩
         replace c55 := Bool.eq_false_iff.mpr c55
         subst c55
         rw [if_neg (show ¬ (false = true) by decide)] at H
         have H' := Aside0.mk H
         clear H
         go_wp2
         go_meet
         case rel => exact ⟨_, (false), z81_2, H', ⟨z81_15⟩, ⟨z81_3⟩, ⟨z81_1⟩, ⟨z81_4⟩, ⟨z81_0⟩⟩
        case rest =>
         clear HC54
         obtain ⟨kq, x79_53, rfl, HA, HJ53, HO_439001, BK430, BK438, HB⟩ := hcut
         cases kq with
         | zero => exact absurd HA.out (by simp [qb.j3])
         | succ kj53 =>
          have H := HA.out
          clear HA
          simp only [qb.j3] at H
          by_cases c63 : x79_53 = true
          ·subst c63
           rw [if_pos rfl] at H
           obtain rfl := Option.some.inj H
           go_wp2
           go_ret
           exact ⟨z81_7, z81_0⟩
          replace c63 := Bool.eq_false_iff.mpr c63
          subst c63
          rw [if_neg (show ¬ (false = true) by decide)] at H
          have HC64 := Aside0.mk H
          clear H
          go_upto_region 12 with (fail)
          go_cut [88] (fun v88 wc => ∃ (kq : Nat) (x88_63 : Bool), v88 = .bool x88_63 ∧ Aside0 (qb.j4 kq x88_63 a1_0 a1_1 a1_2 a1_3 t432 t433 t436 t437 = some r) ∧ Aside0 (kq ≤ kj53) ∧ Aside0 (Kd.R (Kd.int .i64) 3 wc w.heap.size (fun _ => True) (.slice Ao15 t433.length co15) t433) ∧ Aside0 (wc.heap[gb430]? = some (.cells #[.int .i64 a1_0, .int .u32 a1_1, .string a1_2, .string a1_3] 24 (0, 0))) ∧ Aside0 (wc.heap[gb438]? = some (.cells #[.int .i64 t432, (.slice Ao15 t433.length co15), .int .u32 t436, .int .u32 t437] 80 (0, 0))) ∧ Aside0 (Below w.heap.size w wc))
          case first =>
           have H := HC64.out
           clear HC64
           by_cases c65 : a1_0 = 8
           ·rw [if_pos c65] at H
            have c65b0 : (a1_0 == 8) = true := beq_iff_eq.mpr c65
            have c65b1 : (a1_0 != 8) = false := bne_eq_false_iff_eq.mpr c65
            clear c65
            (first | rw [c65b0] | (simp only [i64_w, i32_w]; rw [c65b0]) | skip)
            replace H := Option.bind_eq_some_iff.mp H
            obtain ⟨t441, A660, H⟩ := H
            replace H : (qb.j4 kj53 (!t441) a1_0 a1_1 a1_2 a1_3 t432 t433 t436 t437) = some r := H
            have A66 := Aside0.mk A660
            clear A660
            have H' := Aside0.mk H
            clear H
            have hnb67 := NB430_438.out
            have hnc67 := NB438_430.out
            have hcz68_0 := zbc BK430 0 (.int .i64 a1_0)
            have hcz68_1 := zbc BK430 1 (.int .u32 a1_1)
            have hcz68_2 := zbc BK430 2 (.string a1_2)
            have hcz68_3 := zbc BK430 3 (.string a1_3)
            have hfz68_0 := q9 BK430.out 0
            have hfz68_1 := q9 BK430.out 1
            have hfz68_2 := q9 BK430.out 2
            have hfz68_3 := q9 BK430.out 3
            go_wp2_with (first | (go_at_call 63; (with_reducible refine (polyglotref04_Name.calls kj53 a1_2 t441 _ A66.out).mono ?_); rintro e w' ⟨rfl, ⟨nd, rfl⟩⟩))
            go_meet
            case rel => exact ⟨_, (!t441), z81_2, H', ⟨z81_16⟩, ⟨z81_3⟩, ⟨z81_1⟩, ⟨z81_4⟩, ⟨z81_0⟩⟩
           rw [if_neg c65] at H
           have c65b0 : (a1_0 == 8) = false := beq_eq_false_iff_ne.mpr c65
           have c65b1 : (a1_0 != 8) = true := bne_iff_ne.mpr c65
           (first | rw [c65b0] | (simp only [i64_w, i32_w]; rw [c65b0]) | skip)
           have H' := Aside0.mk H
           clear H
           have hnb69 := NB430_438.out
           have hnc69 := NB438_430.out
           have hcz70_0 := zbc BK430 0 (.int .i64 a1_0)
           have hcz70_1 := zbc BK430 1 (.int .u32 a1_1)
           have hcz70_2 := zbc BK430 2 (.string a1_2)
           have hcz70_3 := zbc BK430 3 (.string a1_3)
           have hfz70_0 := q9 BK430.out 0
           have hfz70_1 := q9 BK430.out 1
           have hfz70_2 := q9 BK430.out 2
           have hfz70_3 := q9 BK430.out 3
           go_wp2
           go_meet
           case rel => exact ⟨_, (false), z81_2, H', ⟨z81_16⟩, ⟨z81_3⟩, ⟨z81_1⟩, ⟨z81_4⟩, ⟨z81_0⟩⟩
          case rest =>
           clear HC64
           obtain ⟨kq, x88_63, rfl, HA, HJ63, HO_439001, BK430, BK438, HB⟩ := hcut
           cases kq with
           | zero => exact absurd HA.out (by simp [qb.j4])
           | succ kj63 =>
            have H := HA.out
            clear HA
            simp only [qb.j4] at H
            by_cases c71 : x88_63 = true
            ·subst c71
             rw [if_pos rfl] at H
             obtain rfl := Option.some.inj H
             go_wp2
             go_ret
             exact ⟨z81_7, z81_0⟩
            replace c71 := Bool.eq_false_iff.mpr c71
            subst c71
            rw [if_neg (show ¬ (false = true) by decide)] at H
            by_cases c72 : t432 = 6
            ·rw [if_pos c72] at H
             have c72b0 : (t432 == 6) = true := beq_iff_eq.mpr c72
             have c72b1 : (t432 != 6) = false := bne_eq_false_iff_eq.mpr c72
             clear c72
             by_cases c73 : (a1_2.size : Int) > 65535
             ·rw [if_pos c73] at H
              have c73b0 : decide (65535 < (a1_2.size : Int)) = true := decide_eq_true c73
              have c73b1 : decide (65535 < a1_2.size) = true := decide_eq_true (by omega)
              clear c73
              obtain rfl := Option.some.inj H
              have hnb74 := NB438_430.out
              have hnc74 := NB430_438.out
              have hcz75_0 := zbc BK438 0 (.int .i64 t432)
              have hcz75_1 := zbc BK438 1 (.slice Ao15 t433.length co15)
              have hcz75_2 := zbc BK438 2 (.int .u32 t436)
              have hcz75_3 := zbc BK438 3 (.int .u32 t437)
              have hfz75_0 := q9 BK438.out 0
              have hfz75_1 := q9 BK438.out 1
              have hfz75_2 := q9 BK438.out 2
              have hfz75_3 := q9 BK438.out 3
              have hcz76_0 := zbc BK430 0 (.int .i64 a1_0)
              have hcz76_1 := zbc BK430 1 (.int .u32 a1_1)
              have hcz76_2 := zbc BK430 2 (.string a1_2)
              have hcz76_3 := zbc BK430 3 (.string a1_3)
              have hfz76_0 := q9 BK430.out 0
              have hfz76_1 := q9 BK430.out 1
              have hfz76_2 := q9 BK430.out 2
              have hfz76_3 := q9 BK430.out 3
              go_wp2
              go_ret
              exact ⟨z81_7, z81_0⟩
             rw [if_neg c73] at H
             have c73b0 : decide (65535 < (a1_2.size : Int)) = false := decide_eq_false c73
             have c73b1 : decide (65535 < a1_2.size) = false := decide_eq_false (by omega)
             clear c73
             obtain rfl := Option.some.inj H
             have hnb77 := NB438_430.out
             have hnc77 := NB430_438.out
             have hcz78_0 := zbc BK438 0 (.int .i64 t432)
             have hcz78_1 := zbc BK438 1 (.slice Ao15 t433.length co15)
             have hcz78_2 := zbc BK438 2 (.int .u32 t436)
             have hcz78_3 := zbc BK438 3 (.int .u32 t437)
             have hfz78_0 := q9 BK438.out 0
             have hfz78_1 := q9 BK438.out 1
             have hfz78_2 := q9 BK438.out 2
             have hfz78_3 := q9 BK438.out 3
             have hcz79_0 := zbc BK430 0 (.int .i64 a1_0)
             have hcz79_1 := zbc BK430 1 (.int .u32 a1_1)
             have hcz79_2 := zbc BK430 2 (.string a1_2)
             have hcz79_3 := zbc BK430 3 (.string a1_3)
             have hfz79_0 := q9 BK430.out 0
             have hfz79_1 := q9 BK430.out 1
             have hfz79_2 := q9 BK430.out 2
             have hfz79_3 := q9 BK430.out 3
             go_wp2
             go_ret
             exact ⟨z81_7, z81_0⟩
            rw [if_neg c72] at H
            have c72b0 : (t432 == 6) = false := beq_eq_false_iff_ne.mpr c72
            have c72b1 : (t432 != 6) = true := bne_iff_ne.mpr c72
            obtain rfl := Option.some.inj H
            have hnb80 := NB438_430.out
            have hnc80 := NB430_438.out
            have hcz81_0 := zbc BK438 0 (.int .i64 t432)
            have hcz81_1 := zbc BK438 1 (.slice Ao15 t433.length co15)
            have hcz81_2 := zbc BK438 2 (.int .u32 t436)
            have hcz81_3 := zbc BK438 3 (.int .u32 t437)
            have hfz81_0 := q9 BK438.out 0
            have hfz81_1 := q9 BK438.out 1
            have hfz81_2 := q9 BK438.out 2
            have hfz81_3 := q9 BK438.out 3
            go_wp2
            go_ret
            exact ⟨z81_7, z81_0⟩
 replace c4 := Bool.eq_false_iff.mpr c4
 subst c4
 rw [if_neg (show ¬ (false = true) by decide)] at H
 obtain rfl := Option.some.inj H
 go_enter Tryz.func23, Tryz.ntmps23
 go_wp2_with (first | ((with_reducible refine q1c (N := 3) rfl ?_); (try (refine gate_guard (by rfl) ?_; dsimp only)); refine q1r ?hg (N := 3) ?hd (cs := #[.int .i64 a1_0, .int .u32 a1_1, .string a1_2, .string a1_3]) (t := 24) ?hr ?_; (case hd => rfl); (case hg => rfl); (case hr => first | (go_simp; done) | (go_simp; rfl)); intro gb430 hg w82 hbox hb; have n0_ := Aside0.mk (qe z81_8 hb); have n1_ := Aside0.mk (hbox); have n2_ := Aside0.mk ((by rw [hg]; exact (qm z81_8) : w.heap.size ≤ gb430)); have n3_ := Aside0.mk ((by rw [hg]; exact (qm z81_8) : w.heap.size ≤ gb430)); clear HB; have HB := n0_; have BK430 := n1_; have GW430 := n2_; have GE430 := n3_; clear n0_ n1_ n2_ n3_; clear hb hbox hg; have hcz83_0 := zbc BK430 0 (.int .i64 a1_0); have hcz83_1 := zbc BK430 1 (.int .u32 a1_1); have hcz83_2 := zbc BK430 2 (.string a1_2); have hcz83_3 := zbc BK430 3 (.string a1_3); have hfz83_0 := q9 BK430.out 0; have hfz83_1 := q9 BK430.out 1; have hfz83_2 := q9 BK430.out 2; have hfz83_3 := q9 BK430.out 3) | ((with_reducible refine ql (f := 19) rfl ?_); refine q1b (some 11) rfl rfl Tryz.func19 (by kernel_rfl) rfl #[.int .i64 a0, .int .i64 a1_0] rfl z81_13 ?_; (with_reducible refine (qy.calls k a0 a1_0 false _ A3.out).mono ?_); rintro e w84 ⟨rfl, hb⟩; refine ⟨_, rfl, ?_⟩; have n0_ := Aside0.mk (qo (g := gb430) (o := .cells #[.int .i64 a1_0, .int .u32 a1_1, .string a1_2, .string a1_3] 24 (0, 0)) z81_1 hb); have n1_ := Aside0.mk (qe z81_6 hb); clear BK430; clear HB; have BK430 := n0_; have HB := n1_; clear n0_ n1_; (try clear hb); (try clear hb2); (try clear hk); (try clear hi)))
 go_ret
 exact ⟨z81_7, z81_6⟩

end Go.Proofs.YtngmipfobcaojaaGreat.HA
end

-- YtngmipfobcaojaaGreatHA81
section
namespace Go.Proofs.YtngmipfobcaojaaGreat.HA
open Go.RowKit Go.Proofs.YtngmipfobcaojaaGreatW.PrintWords Go.Proofs.YtngmipfobcaojaaGreatW.PrintLast Go.Proofs.YtngmipfobcaojaaGreatW.PrintMore
attribute [local go_sem] q1k q1j q1s q1t q1a q19 q1h q1i

def q13.l0 : Nat → List (S24) → Int → Int → Option (Int × Int × ByteArray × ByteArray × Bool)
 | 0, _, _, _ => none
 | k + 1, x0, x1, x6 => if x6 < (x0.length : Int) then (if 0 ≤ x6 then (if ((qu x0 x6).f0) = x1 then (some ((qu x0 x6).f0, (qu x0 x6).f1, (qu x0 x6).f2, (qu x0 x6).f3, true)) else (q13.l0 k x0 x1 (wrap64 (x6 + 1)))) else (none)) else (some (0, 0, (⟨#[]⟩ : ByteArray), (⟨#[]⟩ : ByteArray), false))
def q13.f (k : Nat) (l0 : List (S24)) (a1 : Int) : Option (Int × Int × ByteArray × ByteArray × Bool) := q13.l0 k l0 a1 0
theorem z82_0 {p : Prop} (h : p := by first | (with_reducible assumption) | assumption) : p := h
theorem z82_1 {p : Prop} (h : p := by repeat (first | (with_reducible first | exact HB.out | apply qg | apply qa | apply qi) | exact HB.out)) : p := h
theorem z82_2 {p : Prop} (h : p := by repeat (first | (with_reducible first | exact HB.out | apply qg | apply qa | apply qi | refine qw ?_ GE484.out) | exact HB.out)) : p := h
theorem z82_3 {p : Prop} (h : p := by first | rfl | (simp; done) | (simp [*]; done) | (simp; exact qh _) | exact qh _ | (simp; exact (qh _).symm) | (simp; exact q15 _)) : p := h
set_option maxHeartbeats 8000000 in
set_option maxRecDepth 100000 in
theorem q13.calls (k : Nat) (A0 : Option Addr) (c0 : Nat) (l0 : List (S24)) (a1 : Int) (r1 : Int) (r2 : Int) (r3 : ByteArray) (r4 : ByteArray) (r5 : Bool) (w : World) (hr0 : Kd.C k24 w A0 l0.length l0) (hc0 : l0.length ≤ c0) (h : q13.f k l0 a1 = some (r1, r2, r3, r4, r5)) :
  Calls Tryz.prog 15 #[.slice A0 l0.length c0, .int .i64 a1] w fun e w' => e = .returned (.tuple #[.agg #[.int .i64 r1, .int .u32 r2, .string r3, .string r4], .bool r5]) ∧ Below w.heap.size w w' := by
 have hu24 := Tryz.underlying24
 have HR0 := Aside0.mk hr0
 have HC0 := Aside0.mk hc0
 clear hr0 hc0
 have HB := Aside0.mk (Below.refl w.heap.size w)
 have H : (q13.l0 k l0 a1 0) = some (r1, r2, r3, r4, r5) := h
 clear h
 have H' := Aside0.mk H
 clear H
 go_enter Tryz.func15, Tryz.ntmps15
 go_wp2_with (first | ((with_reducible refine q1c (N := 4) rfl ?_); refine q1r ?hg (N := 4) ?hd (cs := #[.int .i64 0, .int .u32 0, .string (⟨#[]⟩ : ByteArray), .string (⟨#[]⟩ : ByteArray)]) (t := 24) ?hr ?_; (case hd => rfl); (case hg => rfl); (case hr => first | (go_simp; done) | (go_simp; rfl)); intro gb484 hg w3 hbox hb; have n0_ := Aside0.mk (qe z82_1 hb); have n1_ := Aside0.mk (hbox); have n2_ := Aside0.mk ((by rw [hg]; exact (qm z82_1) : w.heap.size ≤ gb484)); have n3_ := Aside0.mk ((by rw [hg]; exact (qm z82_1) : w.heap.size ≤ gb484)); clear HB; have HB := n0_; have BK484 := n1_; have GW484 := n2_; have GE484 := n3_; clear n0_ n1_ n2_ n3_; clear hb hbox hg))
 go_loopg [6] k (fun kq v6 w' => ∃ (x6_1 : Int) (x485000_1 : Int) (x485001_1 : Int) (x485002_1 : ByteArray) (x485003_1 : ByteArray), v6 = .int .i64 x6_1 ∧ Aside0 (q13.l0 kq l0 a1 x6_1 = some (r1, r2, r3, r4, r5)) ∧ Aside0 (kq ≤ k) ∧ Aside0 (w'.heap[gb484]? = some (.cells #[.int .i64 x485000_1, .int .u32 x485001_1, .string x485002_1, .string x485003_1] 24 (0, 0))) ∧ Aside0 (Below w.heap.size w w'))
 case atStart => exact ⟨(0), (0), (0), ((⟨#[]⟩ : ByteArray)), ((⟨#[]⟩ : ByteArray)), z82_3, H', ⟨Nat.le_refl _⟩, ⟨(by (with_reducible repeat (first | refine qd ?_ _ | refine qf ?_ | refine qc ?_ _)); exact BK484.out)⟩, ⟨z82_2⟩⟩
 case round =>
  clear H'
  obtain ⟨x6_1, x485000_1, x485001_1, x485002_1, x485003_1, rfl, HA, HK1, BK484, HB⟩ := hrel
  cases gk with
  | zero => exact absurd HA.out (by simp [q13.l0])
  | succ k1 =>
   have H := HA.out
   clear HA
   simp only [q13.l0] at H
   by_cases c4 : x6_1 < (l0.length : Int)
   ·rw [if_pos c4] at H
    have c4b0 : decide (x6_1 < (l0.length : Int)) = true := decide_eq_true c4
    clear c4
    by_cases c5 : 0 ≤ x6_1
    ·rw [if_pos c5] at H
     have c5b0 : decide (0 ≤ x6_1) = true := decide_eq_true c5
     clear c5
     by_cases c6 : ((qu l0 x6_1).f0) = a1
     ·rw [if_pos c6] at H
      have c6b0 : (((qu l0 x6_1).f0) == a1) = true := beq_iff_eq.mpr c6
      have c6b1 : (((qu l0 x6_1).f0) != a1) = false := bne_eq_false_iff_eq.mpr c6
      clear c6
      simp only [Option.some.injEq, Prod.mk.injEq] at H
      obtain ⟨rfl, rfl, rfl, rfl, rfl⟩ := H
      have p485 : 0 ≤ (x6_1 : Int) := of_decide_eq_true z82_0
      have q485 : x6_1 < (l0.length : Int) := of_decide_eq_true z82_0
      obtain ⟨ad485, e485, hx485_0, hx485_1, hx485_2, hx485_3⟩ := at_T24 HR0.out x6_1 p485 q485
      cases e485
      replace hx485_0 := (HB.out.cell (World.block_lt_of_cell? w _ hx485_0)).trans hx485_0
      replace hx485_1 := (HB.out.cell (World.block_lt_of_cell? w _ hx485_1)).trans hx485_1
      replace hx485_2 := (HB.out.cell (World.block_lt_of_cell? w _ hx485_2)).trans hx485_2
      replace hx485_3 := (HB.out.cell (World.block_lt_of_cell? w _ hx485_3)).trans hx485_3
      replace p485 := eq_true p485
      replace q485 := eq_true q485
      have p486 : 0 ≤ (x6_1 : Int) := of_decide_eq_true z82_0
      have q486 : x6_1 < (l0.length : Int) := of_decide_eq_true z82_0
      obtain ⟨ad486, e486, hx486_0, hx486_1, hx486_2, hx486_3⟩ := at_T24 HR0.out x6_1 p486 q486
      obtain rfl : ad485 = ad486 := (by injection e486)
      replace hx486_0 := (HB.out.cell (World.block_lt_of_cell? w _ hx486_0)).trans hx486_0
      replace hx486_1 := (HB.out.cell (World.block_lt_of_cell? w _ hx486_1)).trans hx486_1
      replace hx486_2 := (HB.out.cell (World.block_lt_of_cell? w _ hx486_2)).trans hx486_2
      replace hx486_3 := (HB.out.cell (World.block_lt_of_cell? w _ hx486_3)).trans hx486_3
      replace p486 := eq_true p486
      replace q486 := eq_true q486
      have hcz7_0 := zbc BK484 0 (.int .i64 x485000_1)
      have hcz7_1 := zbc BK484 1 (.int .u32 x485001_1)
      have hcz7_2 := zbc BK484 2 (.string x485002_1)
      have hcz7_3 := zbc BK484 3 (.string x485003_1)
      have hfz7_0 := q9 BK484.out 0
      have hfz7_1 := q9 BK484.out 1
      have hfz7_2 := q9 BK484.out 2
      have hfz7_3 := q9 BK484.out 3
      go_wp2
      refine bodyPost_ret (results_ct rfl _ _ gb484 24 #[.int .i64 ((qu l0 x6_1).f0), .int .u32 ((qu l0 x6_1).f1), .string ((qu l0 x6_1).f2), .string ((qu l0 x6_1).f3)] (0, 0) _ rfl (by (with_reducible repeat (first | refine qd ?_ _ | refine qf ?_ | refine qc ?_ _)); refine qx (cs := #[.int .i64 ((qu l0 x6_1).f0), .int .u32 ((qu l0 x6_1).f1), .string ((qu l0 x6_1).f2), .string x485003_1]) ?_ 3 _ rfl; (with_reducible repeat (first | refine qd ?_ _ | refine qf ?_ | refine qc ?_ _)); refine qx (cs := #[.int .i64 ((qu l0 x6_1).f0), .int .u32 ((qu l0 x6_1).f1), .string x485002_1, .string x485003_1]) ?_ 2 _ rfl; (with_reducible repeat (first | refine qd ?_ _ | refine qf ?_ | refine qc ?_ _)); refine qx (cs := #[.int .i64 ((qu l0 x6_1).f0), .int .u32 x485001_1, .string x485002_1, .string x485003_1]) ?_ 1 _ rfl; (with_reducible repeat (first | refine qd ?_ _ | refine qf ?_ | refine qc ?_ _)); refine qx (cs := #[.int .i64 x485000_1, .int .u32 x485001_1, .string x485002_1, .string x485003_1]) ?_ 0 _ rfl; (with_reducible repeat (first | refine qd ?_ _ | refine qf ?_ | refine qc ?_ _)); exact BK484.out) Tryz.underlying24 rfl (by kernel_rfl)) rfl ?_
      exact ⟨(by first | rfl | (simp [qq, qp] <;> rfl) | (simp [*, qq, qp] <;> rfl)), z82_2⟩
     rw [if_neg c6] at H
     have c6b0 : (((qu l0 x6_1).f0) == a1) = false := beq_eq_false_iff_ne.mpr c6
     have c6b1 : (((qu l0 x6_1).f0) != a1) = true := bne_iff_ne.mpr c6
     have H' := Aside0.mk H
     clear H
     have p485 : 0 ≤ (x6_1 : Int) := of_decide_eq_true z82_0
     have q485 : x6_1 < (l0.length : Int) := of_decide_eq_true z82_0
     obtain ⟨ad485, e485, hx485_0, hx485_1, hx485_2, hx485_3⟩ := at_T24 HR0.out x6_1 p485 q485
     cases e485
     replace hx485_0 := (HB.out.cell (World.block_lt_of_cell? w _ hx485_0)).trans hx485_0
     replace hx485_1 := (HB.out.cell (World.block_lt_of_cell? w _ hx485_1)).trans hx485_1
     replace hx485_2 := (HB.out.cell (World.block_lt_of_cell? w _ hx485_2)).trans hx485_2
     replace hx485_3 := (HB.out.cell (World.block_lt_of_cell? w _ hx485_3)).trans hx485_3
     replace p485 := eq_true p485
     replace q485 := eq_true q485
     go_wp2
     go_roundg k1
     case measure => have := HK1.out; omega
     case rel => exact ⟨(wrap64 (x6_1 + 1)), (x485000_1), (x485001_1), (x485002_1), (x485003_1), z82_3, H', ⟨by have := HK1.out; omega⟩, ⟨by (with_reducible repeat (first | refine qd ?_ _ | refine qf ?_ | refine qc ?_ _)); exact BK484.out⟩, ⟨by repeat (first | (with_reducible first | exact HB.out | apply qg | apply qa | apply qi | refine qw ?_ GE484.out) | exact HB.out)⟩⟩
    rw [if_neg c5] at H
    exact absurd H (by simp)
   rw [if_neg c4] at H
   have c4b0 : decide (x6_1 < (l0.length : Int)) = false := decide_eq_false c4
   clear c4
   simp only [Option.some.injEq, Prod.mk.injEq] at H
   obtain ⟨rfl, rfl, rfl, rfl, rfl⟩ := H
   have hcz8_0 := zbc BK484 0 (.int .i64 x485000_1)
   have hcz8_1 := zbc BK484 1 (.int .u32 x485001_1)
   have hcz8_2 := zbc BK484 2 (.string x485002_1)
   have hcz8_3 := zbc BK484 3 (.string x485003_1)
   have hfz8_0 := q9 BK484.out 0
   have hfz8_1 := q9 BK484.out 1
   have hfz8_2 := q9 BK484.out 2
   have hfz8_3 := q9 BK484.out 3
   go_wp2
   refine bodyPost_ret (results_ct rfl _ _ gb484 24 #[.int .i64 0, .int .u32 0, .string (⟨#[]⟩ : ByteArray), .string (⟨#[]⟩ : ByteArray)] (0, 0) _ rfl (by (with_reducible repeat (first | refine qd ?_ _ | refine qf ?_ | refine qc ?_ _)); refine qx (cs := #[.int .i64 0, .int .u32 0, .string (⟨#[]⟩ : ByteArray), .string x485003_1]) ?_ 3 _ rfl; (with_reducible repeat (first | refine qd ?_ _ | refine qf ?_ | refine qc ?_ _)); refine qx (cs := #[.int .i64 0, .int .u32 0, .string x485002_1, .string x485003_1]) ?_ 2 _ rfl; (with_reducible repeat (first | refine qd ?_ _ | refine qf ?_ | refine qc ?_ _)); refine qx (cs := #[.int .i64 0, .int .u32 x485001_1, .string x485002_1, .string x485003_1]) ?_ 1 _ rfl; (with_reducible repeat (first | refine qd ?_ _ | refine qf ?_ | refine qc ?_ _)); refine qx (cs := #[.int .i64 x485000_1, .int .u32 x485001_1, .string x485002_1, .string x485003_1]) ?_ 0 _ rfl; (with_reducible repeat (first | refine qd ?_ _ | refine qf ?_ | refine qc ?_ _)); exact BK484.out) Tryz.underlying24 rfl (by kernel_rfl)) rfl ?_
   exact ⟨(by first | rfl | (simp [qq, qp] <;> rfl) | (simp [*, qq, qp] <;> rfl)), z82_2⟩

end Go.Proofs.YtngmipfobcaojaaGreat.HA
end

-- YtngmipfobcaojaaGreatHA82
section
namespace Go.Proofs.YtngmipfobcaojaaGreat.HA
open Go.RowKit Go.Proofs.YtngmipfobcaojaaGreatW.PrintWords Go.Proofs.YtngmipfobcaojaaGreatW.PrintLast Go.Proofs.YtngmipfobcaojaaGreatW.PrintMore
attribute [local go_sem] q1k q1j q1s q1t q1a q19 q1h q1i

def q1o.f (k : Nat) (a0 : Int) (a1 : Int) : Option (Bool) := (qy.f k a0 a1).bind fun t487 => (if t487 = true then (if a1 = 38 then (some true) else (if a1 = 11 then (some (a0 == 3)) else (some false))) else (some false))
theorem z83_0 {p : Prop} (h : p := by repeat (first | (with_reducible first | exact HB.out | apply qg | apply qa | apply qi) | exact HB.out)) : p := h
theorem z83_1 {p : Prop} (h : p := by (try simp only [List.map_toArray, List.map_cons, List.map_nil]); first | done | rfl | (simp only [List.length_drop, List.length_take]; rfl)) : p := h
theorem z83_2 {p : Prop} (h : p := by first | rfl | (simp [qq, qp] <;> rfl) | (simp [*, qq, qp] <;> rfl)) : p := h
set_option maxHeartbeats 8000000 in
set_option maxRecDepth 100000 in
theorem q1o.calls (k : Nat) (a0 : Int) (a1 : Int) (r : Bool) (w : World) (h : q1o.f k a0 a1 = some r) :
  Calls Tryz.prog 21 #[.int .i64 a0, .int .i64 a1] w fun e w' => e = .returned (.bool r) ∧ Below w.heap.size w w' := by
 have HB := Aside0.mk (Below.refl w.heap.size w)
 have H : ((qy.f k a0 a1).bind fun t487 => (if t487 = true then (if a1 = 38 then (some true) else (if a1 = 11 then (some (a0 == 3)) else (some false))) else (some false))) = some r := h
 clear h
 replace H := Option.bind_eq_some_iff.mp H
 obtain ⟨t487, A30, H⟩ := H
 replace H : (if t487 = true then (if a1 = 38 then (some true) else (if a1 = 11 then (some (a0 == 3)) else (some false))) else (some false)) = some r := H
 have A3 := Aside0.mk A30
 clear A30
 by_cases c4 : t487 = true
 ·subst c4
  rw [if_pos rfl] at H
  by_cases c5 : a1 = 38
  ·rw [if_pos c5] at H
   have c5b0 : (a1 == 38) = true := beq_iff_eq.mpr c5
   have c5b1 : (a1 != 38) = false := bne_eq_false_iff_eq.mpr c5
   clear c5
   obtain rfl := Option.some.inj H
   go_enter Tryz.func21, Tryz.ntmps21
   go_wp2_with (first | ((with_reducible refine ql (f := 19) rfl ?_); refine q1b (some 7) rfl rfl Tryz.func19 (by kernel_rfl) rfl #[.int .i64 a0, .int .i64 a1] rfl z83_1 ?_; (with_reducible refine (qy.calls k a0 a1 true _ A3.out).mono ?_); rintro e w6 ⟨rfl, hb⟩; refine ⟨_, rfl, ?_⟩; have n0_ := Aside0.mk (qe z83_0 hb); clear HB; have HB := n0_; clear n0_; (try clear hb); (try clear hb2); (try clear hk); (try clear hi)))
   go_ret
   exact ⟨z83_2, z83_0⟩
  rw [if_neg c5] at H
  have c5b0 : (a1 == 38) = false := beq_eq_false_iff_ne.mpr c5
  have c5b1 : (a1 != 38) = true := bne_iff_ne.mpr c5
  by_cases c7 : a1 = 11
  ·rw [if_pos c7] at H
   have c7b0 : (a1 == 11) = true := beq_iff_eq.mpr c7
   have c7b1 : (a1 != 11) = false := bne_eq_false_iff_eq.mpr c7
   clear c7
   obtain rfl := Option.some.inj H
   go_enter Tryz.func21, Tryz.ntmps21
   go_wp2_with (first | ((with_reducible refine ql (f := 19) rfl ?_); refine q1b (some 7) rfl rfl Tryz.func19 (by kernel_rfl) rfl #[.int .i64 a0, .int .i64 a1] rfl z83_1 ?_; (with_reducible refine (qy.calls k a0 a1 true _ A3.out).mono ?_); rintro e w8 ⟨rfl, hb⟩; refine ⟨_, rfl, ?_⟩; have n0_ := Aside0.mk (qe z83_0 hb); clear HB; have HB := n0_; clear n0_; (try clear hb); (try clear hb2); (try clear hk); (try clear hi)))
   go_ret
   exact ⟨z83_2, z83_0⟩
  rw [if_neg c7] at H
  have c7b0 : (a1 == 11) = false := beq_eq_false_iff_ne.mpr c7
  have c7b1 : (a1 != 11) = true := bne_iff_ne.mpr c7
  obtain rfl := Option.some.inj H
  go_enter Tryz.func21, Tryz.ntmps21
  go_wp2_with (first | ((with_reducible refine ql (f := 19) rfl ?_); refine q1b (some 7) rfl rfl Tryz.func19 (by kernel_rfl) rfl #[.int .i64 a0, .int .i64 a1] rfl z83_1 ?_; (with_reducible refine (qy.calls k a0 a1 true _ A3.out).mono ?_); rintro e w9 ⟨rfl, hb⟩; refine ⟨_, rfl, ?_⟩; have n0_ := Aside0.mk (qe z83_0 hb); clear HB; have HB := n0_; clear n0_; (try clear hb); (try clear hb2); (try clear hk); (try clear hi)))
  go_ret
  exact ⟨z83_2, z83_0⟩
 replace c4 := Bool.eq_false_iff.mpr c4
 subst c4
 rw [if_neg (show ¬ (false = true) by decide)] at H
 obtain rfl := Option.some.inj H
 go_enter Tryz.func21, Tryz.ntmps21
 go_wp2_with (first | ((with_reducible refine ql (f := 19) rfl ?_); refine q1b (some 7) rfl rfl Tryz.func19 (by kernel_rfl) rfl #[.int .i64 a0, .int .i64 a1] rfl z83_1 ?_; (with_reducible refine (qy.calls k a0 a1 false _ A3.out).mono ?_); rintro e w10 ⟨rfl, hb⟩; refine ⟨_, rfl, ?_⟩; have n0_ := Aside0.mk (qe z83_0 hb); clear HB; have HB := n0_; clear n0_; (try clear hb); (try clear hb2); (try clear hk); (try clear hi)))
 go_ret
 exact ⟨z83_2, z83_0⟩

end Go.Proofs.YtngmipfobcaojaaGreat.HA
end
