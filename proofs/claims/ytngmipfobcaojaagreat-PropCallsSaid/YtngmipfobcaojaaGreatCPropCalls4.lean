/- A part of the proof: texts that were built one by one, laid together. -/
import Derived.Test.YtngmipfobcaojaaGreatCPropCalls1
import Derived.Test.YtngmipfobcaojaaGreatCPropCalls3
import Derived.Test.YtngmipfobcaojaaGreatCPropCalls2
set_option linter.unusedVariables false
set_option linter.unusedSimpArgs false
-- YtngmipfobcaojaaGreatHA83
section
namespace Go.Proofs.YtngmipfobcaojaaGreat.HA
open Go.RowKit Go.Proofs.YtngmipfobcaojaaGreatW.PrintWords Go.Proofs.YtngmipfobcaojaaGreatW.PrintLast Go.Proofs.YtngmipfobcaojaaGreatW.PrintMore
attribute [local go_sem] q1k q1j q1s q1t q1a q19 q1h q1i

def polyglotref05_twice.f (k : Nat) (a0 : Int) (l1 : List (S24)) (a2 : Int) : Option (Bool) := (q13.f k l1 a2).bind fun bt488 => (if bt488.2.2.2.2 = true then ((q1o.f k a0 a2).bind fun t494 => (some (!t494))) else (some false))
theorem z84_0 {p : Prop} (h : p := by repeat (first | (with_reducible first | exact HB.out | apply qg | apply qa | apply qi) | exact HB.out)) : p := h
theorem z84_1 {p : Prop} (h : p := by repeat (first | (with_reducible first | exact HB.out | apply qg | apply qa | apply qi | refine qw ?_ GE493.out) | exact HB.out)) : p := h
theorem z84_2 {p : Prop} (h : p := by (try simp only [List.map_toArray, List.map_cons, List.map_nil]); first | done | rfl | (simp only [List.length_drop, List.length_take]; rfl)) : p := h
set_option maxHeartbeats 8000000 in
set_option maxRecDepth 100000 in
theorem polyglotref05_twice.calls (k : Nat) (a0 : Int) (A1 : Option Addr) (c1 : Nat) (l1 : List (S24)) (a2 : Int) (r : Bool) (w : World) (hr1 : Kd.C k24 w A1 l1.length l1) (hc1 : l1.length ≤ c1) (h : polyglotref05_twice.f k a0 l1 a2 = some r) :
  Calls Tryz.prog 57 #[.int .i64 a0, .slice A1 l1.length c1, .int .i64 a2] w fun e w' => e = .returned (.bool r) ∧ Below w.heap.size w w' := by
 have hu24 := Tryz.underlying24
 have HR1 := Aside0.mk hr1
 have HC1 := Aside0.mk hc1
 clear hr1 hc1
 have HB := Aside0.mk (Below.refl w.heap.size w)
 have H : ((q13.f k l1 a2).bind fun bt488 => (if bt488.2.2.2.2 = true then ((q1o.f k a0 a2).bind fun t494 => (some (!t494))) else (some false))) = some r := h
 clear h
 replace H := Option.bind_eq_some_iff.mp H
 obtain ⟨⟨t488, t489, t490, t491, t492⟩, A40, H⟩ := H
 replace H : (if t492 = true then ((q1o.f k a0 a2).bind fun t494 => (some (!t494))) else (some false)) = some r := H
 have A4 := Aside0.mk A40
 clear A40
 by_cases c5 : t492 = true
 ·subst c5
  rw [if_pos rfl] at H
  replace H := Option.bind_eq_some_iff.mp H
  obtain ⟨t494, A60, H⟩ := H
  replace H : (some (!t494)) = some r := H
  have A6 := Aside0.mk A60
  clear A60
  obtain rfl := Option.some.inj H
  go_enter Tryz.func57, Tryz.ntmps57
  go_wp2_with (first | ((with_reducible refine ql (f := 15) rfl ?_); refine q1b (some 12) rfl rfl Tryz.func15 (by kernel_rfl) rfl #[.slice A1 l1.length c1, .int .i64 a2] rfl z84_2 ?_; (with_reducible refine (q13.calls k _ _ l1 a2 t488 t489 t490 t491 true _ ?side1 ?side2 A4.out).mono ?_); (case side1 => repeat (first | exact HR1.out | (with_reducible refine Kd.C_alloc ?_ _) | (with_reducible refine Kd.C_drewN ?_ _) | (with_reducible refine Kd.C_drew ?_))); (case side2 => exact HC1.out); rintro e w7 ⟨rfl, hb⟩; refine ⟨_, rfl, ?_⟩; have n0_ := Aside0.mk (qe z84_0 hb); clear HB; have HB := n0_; clear n0_; (try clear hb); (try clear hb2); (try clear hk); (try clear hi)) | ((with_reducible refine q1c (N := 7) rfl ?_); refine q1r ?hg (N := 7) ?hd (cs := #[.int .i64 0, .int .u32 0, .string (⟨#[]⟩ : ByteArray), .string (⟨#[]⟩ : ByteArray)]) (t := 24) ?hr ?_; (case hd => rfl); (case hg => rfl); (case hr => first | (go_simp; done) | (go_simp; rfl)); intro gb493 hg w8 hbox hb; have n0_ := Aside0.mk (qe z84_0 hb); have n1_ := Aside0.mk (hbox); have n2_ := Aside0.mk ((by rw [hg]; exact (qm z84_0) : w.heap.size ≤ gb493)); have n3_ := Aside0.mk ((by rw [hg]; exact (qm z84_0) : w.heap.size ≤ gb493)); clear HB; have HB := n0_; have BK493 := n1_; have GW493 := n2_; have GE493 := n3_; clear n0_ n1_ n2_ n3_; clear hb hbox hg; have hcz9_0 := zbc BK493 0 (.int .i64 0); have hcz9_1 := zbc BK493 1 (.int .u32 0); have hcz9_2 := zbc BK493 2 (.string (⟨#[]⟩ : ByteArray)); have hcz9_3 := zbc BK493 3 (.string (⟨#[]⟩ : ByteArray)); have hfz9_0 := q9 BK493.out 0; have hfz9_1 := q9 BK493.out 1; have hfz9_2 := q9 BK493.out 2; have hfz9_3 := q9 BK493.out 3) | (go_at_call 21; (with_reducible refine (q1o.calls k a0 a2 t494 _ A6.out).mono ?_); rintro e w10 ⟨rfl, hb⟩; have n0_ := Aside0.mk (qo (g := gb493) (o := .cells #[.int .i64 t488, .int .u32 t489, .string t490, .string t491] 24 (0, 0)) (by (with_reducible repeat (first | refine qd ?_ _ | refine qf ?_ | refine qc ?_ _)); refine qx (cs := #[.int .i64 t488, .int .u32 t489, .string t490, .string (⟨#[]⟩ : ByteArray)]) ?_ 3 _ rfl; (with_reducible repeat (first | refine qd ?_ _ | refine qf ?_ | refine qc ?_ _)); refine qx (cs := #[.int .i64 t488, .int .u32 t489, .string (⟨#[]⟩ : ByteArray), .string (⟨#[]⟩ : ByteArray)]) ?_ 2 _ rfl; (with_reducible repeat (first | refine qd ?_ _ | refine qf ?_ | refine qc ?_ _)); refine qx (cs := #[.int .i64 t488, .int .u32 0, .string (⟨#[]⟩ : ByteArray), .string (⟨#[]⟩ : ByteArray)]) ?_ 1 _ rfl; (with_reducible repeat (first | refine qd ?_ _ | refine qf ?_ | refine qc ?_ _)); refine qx (cs := #[.int .i64 0, .int .u32 0, .string (⟨#[]⟩ : ByteArray), .string (⟨#[]⟩ : ByteArray)]) ?_ 0 _ rfl; (with_reducible repeat (first | refine qd ?_ _ | refine qf ?_ | refine qc ?_ _)); exact BK493.out) hb); have n1_ := Aside0.mk (qe z84_1 hb); clear BK493; clear HB; have BK493 := n0_; have HB := n1_; clear n0_ n1_; (try clear hb); (try clear hb2); (try clear hk); (try clear hi)))
  go_ret
  exact ⟨(by first | rfl | (simp [qq, qp] <;> rfl) | (simp [*, qq, qp] <;> rfl)), z84_1⟩
 replace c5 := Bool.eq_false_iff.mpr c5
 subst c5
 rw [if_neg (show ¬ (false = true) by decide)] at H
 obtain rfl := Option.some.inj H
 go_enter Tryz.func57, Tryz.ntmps57
 go_wp2_with (first | ((with_reducible refine ql (f := 15) rfl ?_); refine q1b (some 12) rfl rfl Tryz.func15 (by kernel_rfl) rfl #[.slice A1 l1.length c1, .int .i64 a2] rfl z84_2 ?_; (with_reducible refine (q13.calls k _ _ l1 a2 t488 t489 t490 t491 false _ ?side1 ?side2 A4.out).mono ?_); (case side1 => repeat (first | exact HR1.out | (with_reducible refine Kd.C_alloc ?_ _) | (with_reducible refine Kd.C_drewN ?_ _) | (with_reducible refine Kd.C_drew ?_))); (case side2 => exact HC1.out); rintro e w11 ⟨rfl, hb⟩; refine ⟨_, rfl, ?_⟩; have n0_ := Aside0.mk (qe z84_0 hb); clear HB; have HB := n0_; clear n0_; (try clear hb); (try clear hb2); (try clear hk); (try clear hi)) | ((with_reducible refine q1c (N := 7) rfl ?_); refine q1r ?hg (N := 7) ?hd (cs := #[.int .i64 0, .int .u32 0, .string (⟨#[]⟩ : ByteArray), .string (⟨#[]⟩ : ByteArray)]) (t := 24) ?hr ?_; (case hd => rfl); (case hg => rfl); (case hr => first | (go_simp; done) | (go_simp; rfl)); intro gb493 hg w12 hbox hb; have n0_ := Aside0.mk (qe z84_0 hb); have n1_ := Aside0.mk (hbox); have n2_ := Aside0.mk ((by rw [hg]; exact (qm z84_0) : w.heap.size ≤ gb493)); have n3_ := Aside0.mk ((by rw [hg]; exact (qm z84_0) : w.heap.size ≤ gb493)); clear HB; have HB := n0_; have BK493 := n1_; have GW493 := n2_; have GE493 := n3_; clear n0_ n1_ n2_ n3_; clear hb hbox hg; have hcz13_0 := zbc BK493 0 (.int .i64 0); have hcz13_1 := zbc BK493 1 (.int .u32 0); have hcz13_2 := zbc BK493 2 (.string (⟨#[]⟩ : ByteArray)); have hcz13_3 := zbc BK493 3 (.string (⟨#[]⟩ : ByteArray)); have hfz13_0 := q9 BK493.out 0; have hfz13_1 := q9 BK493.out 1; have hfz13_2 := q9 BK493.out 2; have hfz13_3 := q9 BK493.out 3))
 go_ret
 exact ⟨(by first | rfl | (simp [qq, qp] <;> rfl) | (simp [*, qq, qp] <;> rfl)), z84_1⟩

end Go.Proofs.YtngmipfobcaojaaGreat.HA
end

-- YtngmipfobcaojaaGreatHA84
section
namespace Go.Proofs.YtngmipfobcaojaaGreat.HA
open Go.RowKit Go.Proofs.YtngmipfobcaojaaGreatW.PrintWords Go.Proofs.YtngmipfobcaojaaGreatW.PrintLast Go.Proofs.YtngmipfobcaojaaGreatW.PrintMore
attribute [local go_sem] q1k q1j q1s q1t q1a q19 q1h q1i

def polyglotref05_lone.f (k : Nat) (l0 : List (S24)) : Option (Bool) := (q13.f k l0 22).bind fun bt495 => ((q13.f k l0 21).bind fun bt501 => (if bt495.2.2.2.2 = true then (some (!bt501.2.2.2.2)) else (some false)))
theorem z85_0 {p : Prop} (h : p := by repeat (first | (with_reducible first | exact HB.out | apply qg | apply qa | apply qi | refine qw ?_ GE500.out) | exact HB.out)) : p := h
theorem z85_1 {p : Prop} (h : p := by repeat (first | (with_reducible first | exact HB.out | apply qg | apply qa | apply qi) | exact HB.out)) : p := h
theorem z85_2 {p : Prop} (h : p := by (with_reducible repeat (first | refine qd ?_ _ | refine qf ?_ | refine qc ?_ _)); exact BK500.out) : p := h
theorem z85_3 {p : Prop} (h : p := by (try simp only [List.map_toArray, List.map_cons, List.map_nil]); first | done | rfl | (simp only [List.length_drop, List.length_take]; rfl)) : p := h
theorem z85_4 {p : Prop} (h : p := by (with_reducible repeat (first | refine qd ?_ _ | refine qf ?_ | refine qc ?_ _)); refine qx (cs := #[.int .i64 t495, .int .u32 t496, .string t497, .string (⟨#[]⟩ : ByteArray)]) ?_ 3 _ rfl; (with_reducible repeat (first | refine qd ?_ _ | refine qf ?_ | refine qc ?_ _)); refine qx (cs := #[.int .i64 t495, .int .u32 t496, .string (⟨#[]⟩ : ByteArray), .string (⟨#[]⟩ : ByteArray)]) ?_ 2 _ rfl; (with_reducible repeat (first | refine qd ?_ _ | refine qf ?_ | refine qc ?_ _)); refine qx (cs := #[.int .i64 t495, .int .u32 0, .string (⟨#[]⟩ : ByteArray), .string (⟨#[]⟩ : ByteArray)]) ?_ 1 _ rfl; (with_reducible repeat (first | refine qd ?_ _ | refine qf ?_ | refine qc ?_ _)); refine qx (cs := #[.int .i64 0, .int .u32 0, .string (⟨#[]⟩ : ByteArray), .string (⟨#[]⟩ : ByteArray)]) ?_ 0 _ rfl; (with_reducible repeat (first | refine qd ?_ _ | refine qf ?_ | refine qc ?_ _)); exact BK500.out) : p := h
theorem z85_5 {p : Prop} (h : p := by repeat (first | (with_reducible first | exact HB.out | apply qg | apply qa | apply qi | refine qw ?_ GE500.out | refine qw ?_ GE506.out) | exact HB.out)) : p := h
set_option maxHeartbeats 8000000 in
set_option maxRecDepth 100000 in
theorem polyglotref05_lone.calls (k : Nat) (A0 : Option Addr) (c0 : Nat) (l0 : List (S24)) (r : Bool) (w : World) (hr0 : Kd.C k24 w A0 l0.length l0) (hc0 : l0.length ≤ c0) (h : polyglotref05_lone.f k l0 = some r) :
  Calls Tryz.prog 58 #[.slice A0 l0.length c0] w fun e w' => e = .returned (.bool r) ∧ Below w.heap.size w w' := by
 have hu24 := Tryz.underlying24
 have HR0 := Aside0.mk hr0
 have HC0 := Aside0.mk hc0
 clear hr0 hc0
 have HB := Aside0.mk (Below.refl w.heap.size w)
 have H : ((q13.f k l0 22).bind fun bt495 => ((q13.f k l0 21).bind fun bt501 => (if bt495.2.2.2.2 = true then (some (!bt501.2.2.2.2)) else (some false)))) = some r := h
 clear h
 replace H := Option.bind_eq_some_iff.mp H
 obtain ⟨⟨t495, t496, t497, t498, t499⟩, A20, H⟩ := H
 replace H : ((q13.f k l0 21).bind fun bt501 => (if t499 = true then (some (!bt501.2.2.2.2)) else (some false))) = some r := H
 have A2 := Aside0.mk A20
 clear A20
 replace H := Option.bind_eq_some_iff.mp H
 obtain ⟨⟨t501, t502, t503, t504, t505⟩, A30, H⟩ := H
 replace H : (if t499 = true then (some (!t505)) else (some false)) = some r := H
 have A3 := Aside0.mk A30
 clear A30
 by_cases c4 : t499 = true
 ·subst c4
  rw [if_pos rfl] at H
  obtain rfl := Option.some.inj H
  go_enter Tryz.func58, Tryz.ntmps58
  go_wp2_with (first | ((with_reducible refine ql (f := 15) rfl ?_); refine q1b (some 9) rfl rfl Tryz.func15 (by kernel_rfl) rfl #[.slice A0 l0.length c0, .int .i64 22] rfl z85_3 ?_; (with_reducible refine (q13.calls k _ _ l0 22 t495 t496 t497 t498 true _ ?side1 ?side2 A2.out).mono ?_); (case side1 => repeat (first | exact HR0.out | (with_reducible refine Kd.C_alloc ?_ _) | (with_reducible refine Kd.C_drewN ?_ _) | (with_reducible refine Kd.C_drew ?_))); (case side2 => exact HC0.out); rintro e w5 ⟨rfl, hb⟩; refine ⟨_, rfl, ?_⟩; have n0_ := Aside0.mk (qe z85_1 hb); clear HB; have HB := n0_; clear n0_; (try clear hb); (try clear hb2); (try clear hk); (try clear hi)) | ((with_reducible refine q1c (N := 3) rfl ?_); refine q1r ?hg (N := 3) ?hd (cs := #[.int .i64 0, .int .u32 0, .string (⟨#[]⟩ : ByteArray), .string (⟨#[]⟩ : ByteArray)]) (t := 24) ?hr ?_; (case hd => rfl); (case hg => rfl); (case hr => first | (go_simp; done) | (go_simp; rfl)); intro gb500 hg w6 hbox hb; have n0_ := Aside0.mk (qe z85_1 hb); have n1_ := Aside0.mk (hbox); have n2_ := Aside0.mk ((by rw [hg]; exact (qm z85_1) : w.heap.size ≤ gb500)); have n3_ := Aside0.mk ((by rw [hg]; exact (qm z85_1) : w.heap.size ≤ gb500)); clear HB; have HB := n0_; have BK500 := n1_; have GW500 := n2_; have GE500 := n3_; clear n0_ n1_ n2_ n3_; clear hb hbox hg; have hcz7_0 := zbc BK500 0 (.int .i64 0); have hcz7_1 := zbc BK500 1 (.int .u32 0); have hcz7_2 := zbc BK500 2 (.string (⟨#[]⟩ : ByteArray)); have hcz7_3 := zbc BK500 3 (.string (⟨#[]⟩ : ByteArray)); have hfz7_0 := q9 BK500.out 0; have hfz7_1 := q9 BK500.out 1; have hfz7_2 := q9 BK500.out 2; have hfz7_3 := q9 BK500.out 3) | ((with_reducible refine ql (f := 15) rfl ?_); refine q1b (some 14) rfl rfl Tryz.func15 (by kernel_rfl) rfl #[.slice A0 l0.length c0, .int .i64 21] rfl z85_3 ?_; (with_reducible refine (q13.calls k _ _ l0 21 t501 t502 t503 t504 t505 _ ?side1 ?side2 A3.out).mono ?_); (case side1 => exact Kd.C_below HR0.out z85_0); (case side2 => exact HC0.out); rintro e w8 ⟨rfl, hb⟩; refine ⟨_, rfl, ?_⟩; have n0_ := Aside0.mk (qo (g := gb500) (o := .cells #[.int .i64 t495, .int .u32 t496, .string t497, .string t498] 24 (0, 0)) z85_4 hb); have n1_ := Aside0.mk (qe z85_0 hb); clear BK500; clear HB; have BK500 := n0_; have HB := n1_; clear n0_ n1_; (try clear hb); (try clear hb2); (try clear hk); (try clear hi)) | ((with_reducible refine q1c (N := 5) rfl ?_); refine q1r ?hg (N := 5) ?hd (cs := #[.int .i64 0, .int .u32 0, .string (⟨#[]⟩ : ByteArray), .string (⟨#[]⟩ : ByteArray)]) (t := 24) ?hr ?_; (case hd => rfl); (case hg => rfl); (case hr => first | (go_simp; done) | (go_simp; rfl)); intro gb506 hg w9 hbox hb; have n0_ := Aside0.mk (qo (g := gb500) (o := .cells #[.int .i64 t495, .int .u32 t496, .string t497, .string t498] 24 (0, 0)) z85_2 hb); have n1_ := Aside0.mk (qe z85_0 hb); have n2_ := Aside0.mk (hbox); have n3_ := Aside0.mk ((by rw [hg]; exact (qm z85_0) : w.heap.size ≤ gb506)); have n4_ := Aside0.mk ((by rw [hg]; exact (qm z85_0) : w.heap.size ≤ gb506)); have n5_ := Aside0.mk ((by rw [hg]; exact Nat.ne_of_lt (blk_lt (g := gb500) (o := .cells #[.int .i64 t495, .int .u32 t496, .string t497, .string t498] 24 (0, 0)) z85_2) : gb500 ≠ gb506)); have n6_ := Aside0.mk ((by rw [hg]; exact Nat.ne_of_gt (blk_lt (g := gb500) (o := .cells #[.int .i64 t495, .int .u32 t496, .string t497, .string t498] 24 (0, 0)) z85_2) : gb506 ≠ gb500)); clear BK500; clear HB; have BK500 := n0_; have HB := n1_; have BK506 := n2_; have GW506 := n3_; have GE506 := n4_; have NB500_506 := n5_; have NB506_500 := n6_; clear n0_ n1_ n2_ n3_ n4_ n5_ n6_; clear hb hbox hg; have hnb10 := NB506_500.out; have hnc10 := NB500_506.out; have hcz11_0 := zbc BK506 0 (.int .i64 0); have hcz11_1 := zbc BK506 1 (.int .u32 0); have hcz11_2 := zbc BK506 2 (.string (⟨#[]⟩ : ByteArray)); have hcz11_3 := zbc BK506 3 (.string (⟨#[]⟩ : ByteArray)); have hfz11_0 := q9 BK506.out 0; have hfz11_1 := q9 BK506.out 1; have hfz11_2 := q9 BK506.out 2; have hfz11_3 := q9 BK506.out 3))
  go_ret
  exact ⟨(by first | rfl | (simp [qq, qp] <;> rfl) | (simp [*, qq, qp] <;> rfl)), z85_5⟩
 replace c4 := Bool.eq_false_iff.mpr c4
 subst c4
 rw [if_neg (show ¬ (false = true) by decide)] at H
 obtain rfl := Option.some.inj H
 go_enter Tryz.func58, Tryz.ntmps58
 go_wp2_with (first | ((with_reducible refine ql (f := 15) rfl ?_); refine q1b (some 9) rfl rfl Tryz.func15 (by kernel_rfl) rfl #[.slice A0 l0.length c0, .int .i64 22] rfl z85_3 ?_; (with_reducible refine (q13.calls k _ _ l0 22 t495 t496 t497 t498 false _ ?side1 ?side2 A2.out).mono ?_); (case side1 => repeat (first | exact HR0.out | (with_reducible refine Kd.C_alloc ?_ _) | (with_reducible refine Kd.C_drewN ?_ _) | (with_reducible refine Kd.C_drew ?_))); (case side2 => exact HC0.out); rintro e w12 ⟨rfl, hb⟩; refine ⟨_, rfl, ?_⟩; have n0_ := Aside0.mk (qe z85_1 hb); clear HB; have HB := n0_; clear n0_; (try clear hb); (try clear hb2); (try clear hk); (try clear hi)) | ((with_reducible refine q1c (N := 3) rfl ?_); refine q1r ?hg (N := 3) ?hd (cs := #[.int .i64 0, .int .u32 0, .string (⟨#[]⟩ : ByteArray), .string (⟨#[]⟩ : ByteArray)]) (t := 24) ?hr ?_; (case hd => rfl); (case hg => rfl); (case hr => first | (go_simp; done) | (go_simp; rfl)); intro gb500 hg w13 hbox hb; have n0_ := Aside0.mk (qe z85_1 hb); have n1_ := Aside0.mk (hbox); have n2_ := Aside0.mk ((by rw [hg]; exact (qm z85_1) : w.heap.size ≤ gb500)); have n3_ := Aside0.mk ((by rw [hg]; exact (qm z85_1) : w.heap.size ≤ gb500)); clear HB; have HB := n0_; have BK500 := n1_; have GW500 := n2_; have GE500 := n3_; clear n0_ n1_ n2_ n3_; clear hb hbox hg; have hcz14_0 := zbc BK500 0 (.int .i64 0); have hcz14_1 := zbc BK500 1 (.int .u32 0); have hcz14_2 := zbc BK500 2 (.string (⟨#[]⟩ : ByteArray)); have hcz14_3 := zbc BK500 3 (.string (⟨#[]⟩ : ByteArray)); have hfz14_0 := q9 BK500.out 0; have hfz14_1 := q9 BK500.out 1; have hfz14_2 := q9 BK500.out 2; have hfz14_3 := q9 BK500.out 3) | ((with_reducible refine ql (f := 15) rfl ?_); refine q1b (some 14) rfl rfl Tryz.func15 (by kernel_rfl) rfl #[.slice A0 l0.length c0, .int .i64 21] rfl z85_3 ?_; (with_reducible refine (q13.calls k _ _ l0 21 t501 t502 t503 t504 t505 _ ?side1 ?side2 A3.out).mono ?_); (case side1 => exact Kd.C_below HR0.out z85_0); (case side2 => exact HC0.out); rintro e w15 ⟨rfl, hb⟩; refine ⟨_, rfl, ?_⟩; have n0_ := Aside0.mk (qo (g := gb500) (o := .cells #[.int .i64 t495, .int .u32 t496, .string t497, .string t498] 24 (0, 0)) z85_4 hb); have n1_ := Aside0.mk (qe z85_0 hb); clear BK500; clear HB; have BK500 := n0_; have HB := n1_; clear n0_ n1_; (try clear hb); (try clear hb2); (try clear hk); (try clear hi)) | ((with_reducible refine q1c (N := 5) rfl ?_); refine q1r ?hg (N := 5) ?hd (cs := #[.int .i64 0, .int .u32 0, .string (⟨#[]⟩ : ByteArray), .string (⟨#[]⟩ : ByteArray)]) (t := 24) ?hr ?_; (case hd => rfl); (case hg => rfl); (case hr => first | (go_simp; done) | (go_simp; rfl)); intro gb506 hg w16 hbox hb; have n0_ := Aside0.mk (qo (g := gb500) (o := .cells #[.int .i64 t495, .int .u32 t496, .string t497, .string t498] 24 (0, 0)) z85_2 hb); have n1_ := Aside0.mk (qe z85_0 hb); have n2_ := Aside0.mk (hbox); have n3_ := Aside0.mk ((by rw [hg]; exact (qm z85_0) : w.heap.size ≤ gb506)); have n4_ := Aside0.mk ((by rw [hg]; exact (qm z85_0) : w.heap.size ≤ gb506)); have n5_ := Aside0.mk ((by rw [hg]; exact Nat.ne_of_lt (blk_lt (g := gb500) (o := .cells #[.int .i64 t495, .int .u32 t496, .string t497, .string t498] 24 (0, 0)) z85_2) : gb500 ≠ gb506)); have n6_ := Aside0.mk ((by rw [hg]; exact Nat.ne_of_gt (blk_lt (g := gb500) (o := .cells #[.int .i64 t495, .int .u32 t496, .string t497, .string t498] 24 (0, 0)) z85_2) : gb506 ≠ gb500)); clear BK500; clear HB; have BK500 := n0_; have HB := n1_; have BK506 := n2_; have GW506 := n3_; have GE506 := n4_; have NB500_506 := n5_; have NB506_500 := n6_; clear n0_ n1_ n2_ n3_ n4_ n5_ n6_; clear hb hbox hg; have hnb17 := NB506_500.out; have hnc17 := NB500_506.out; have hcz18_0 := zbc BK506 0 (.int .i64 0); have hcz18_1 := zbc BK506 1 (.int .u32 0); have hcz18_2 := zbc BK506 2 (.string (⟨#[]⟩ : ByteArray)); have hcz18_3 := zbc BK506 3 (.string (⟨#[]⟩ : ByteArray)); have hfz18_0 := q9 BK506.out 0; have hfz18_1 := q9 BK506.out 1; have hfz18_2 := q9 BK506.out 2; have hfz18_3 := q9 BK506.out 3))
 go_ret
 exact ⟨(by first | rfl | (simp [qq, qp] <;> rfl) | (simp [*, qq, qp] <;> rfl)), z85_5⟩

end Go.Proofs.YtngmipfobcaojaaGreat.HA
end

-- YtngmipfobcaojaaGreatHA107
section
namespace Go.Proofs.YtngmipfobcaojaaGreat.HA
open Go.RowKit Go.Proofs.YtngmipfobcaojaaGreatW.PrintWords Go.Proofs.YtngmipfobcaojaaGreatW.PrintLast Go.Proofs.YtngmipfobcaojaaGreatW.PrintMore
attribute [local go_sem] q1k q1j q1s q1t q1a q19 q1h q1i
abbrev tT86 := true
abbrev fF86 := false

mutual
def qj.l0 : Nat → Int → Int → Int → List (S24) → ByteArray → Option ((List (S24)) × Int × Int)
 | 0, _, _, _, _, _ => none
 | k + 1, x0, x7, x8, x10, x11 => if x11.toList = ([] : List UInt8) then ((polyglotref05_lone.f k x10).bind fun t588 => (if t588 = true then (some (([] : List (S24)), 0, 9)) else (some (x10, wrap64 (x8 + x7), 0)))) else (if 0 < (x11.size : Int) then ((qy.f k x0 (wrap64 (bt x11 0))).bind fun t589 => (if t589 = true then ((q1f.f k x11).bind fun bt590 => (if bt590.2.2.2.2.2 = 0 then ((qb.f k x0 bt590.1 bt590.2.1 bt590.2.2.1 bt590.2.2.2.1).bind fun t597 => (qj.j1 k x0 x7 x8 x10 x11 bt590.2.2.2.2.1 t597 bt590.1 bt590.2.1 bt590.2.2.1 bt590.2.2.2.1)) else (qj.j1 k x0 x7 x8 x10 x11 bt590.2.2.2.2.1 bt590.2.2.2.2.2 bt590.1 bt590.2.1 bt590.2.2.1 bt590.2.2.2.1))) else (some (([] : List (S24)), 0, 9)))) else (none))
def qj.j1 : Nat → Int → Int → Int → List (S24) → ByteArray → Int → Int → Int → Int → ByteArray → ByteArray → Option ((List (S24)) × Int × Int)
 | 0, _, _, _, _, _, _, _, _, _, _, _ => none
 | k + 1, x0, x7, x8, x10, x11, x13, x14, x597000, x597001, x597002, x597003 => if x14 = 0 then ((polyglotref05_twice.f k x0 x10 x597000).bind fun t598 => (qj.j2 k x0 x7 x8 x10 x11 x13 x14 t598 x597000 x597001 x597002 x597003)) else (qj.j2 k x0 x7 x8 x10 x11 x13 x14 false x597000 x597001 x597002 x597003)
def qj.j2 : Nat → Int → Int → Int → List (S24) → ByteArray → Int → Int → Bool → Int → Int → ByteArray → ByteArray → Option ((List (S24)) × Int × Int)
 | 0, _, _, _, _, _, _, _, _, _, _, _, _ => none
 | k + 1, x0, x7, x8, x10, x11, x13, x14, x63, x597000, x597001, x597002, x597003 => if x63 = true then (qj.j3 k x0 x7 x8 x10 x11 x13 9 x597000 x597001 x597002 x597003) else (qj.j3 k x0 x7 x8 x10 x11 x13 x14 x597000 x597001 x597002 x597003)
def qj.j3 : Nat → Int → Int → Int → List (S24) → ByteArray → Int → Int → Int → Int → ByteArray → ByteArray → Option ((List (S24)) × Int × Int)
 | 0, _, _, _, _, _, _, _, _, _, _, _ => none
 | k + 1, x0, x7, x8, x10, x11, x13, x14, x597000, x597001, x597002, x597003 => if x14 = 0 then (qj.j4 k x0 x7 x8 x10 x11 x13 x14 (decide ((x10.length : Int) ≥ 1000)) x597000 x597001 x597002 x597003) else (qj.j4 k x0 x7 x8 x10 x11 x13 x14 false x597000 x597001 x597002 x597003)
def qj.j4 : Nat → Int → Int → Int → List (S24) → ByteArray → Int → Int → Bool → Int → Int → ByteArray → ByteArray → Option ((List (S24)) × Int × Int)
 | 0, _, _, _, _, _, _, _, _, _, _, _, _ => none
 | k + 1, x0, x7, x8, x10, x11, x13, x14, x70, x597000, x597001, x597002, x597003 => if x70 = true then (if 4 = 0 then (if x10.length < 2932031007402 then (if 0 ≤ x13 then (if x13 ≤ (x11.size : Int) then (qj.l0 k x0 x7 x8 (x10 ++ [(⟨x597000, x597001, x597002, x597003⟩ : S24)]) (x11.extract (x13 : Int).toNat x11.size)) else (none)) else (none)) else (none)) else (some (([] : List (S24)), 0, 4))) else (if x14 = 0 then (if x10.length < 2932031007402 then (if 0 ≤ x13 then (if x13 ≤ (x11.size : Int) then (qj.l0 k x0 x7 x8 (x10 ++ [(⟨x597000, x597001, x597002, x597003⟩ : S24)]) (x11.extract (x13 : Int).toNat x11.size)) else (none)) else (none)) else (none)) else (some (([] : List (S24)), 0, x14)))
end
def qj.f (k : Nat) (a0 : Int) (a1 : ByteArray) : Option ((List (S24)) × Int × Int) := (q1g.f k a1).bind fun bt585 => (if bt585.2.2 = 0 then (if bt585.1 > (wrap64 ((a1.size : Int) - bt585.2.1)) then (some (([] : List (S24)), 0, 3)) else (if 0 ≤ bt585.2.1 then (if bt585.2.1 ≤ (wrap64 (bt585.2.1 + bt585.1)) then (if (wrap64 (bt585.2.1 + bt585.1)) ≤ (a1.size : Int) then (qj.l0 k a0 bt585.1 bt585.2.1 ([] : List (S24)) (a1.extract (bt585.2.1 : Int).toNat ((wrap64 (bt585.2.1 + bt585.1)) : Int).toNat)) else (none)) else (none)) else (none))) else (some (([] : List (S24)), 0, bt585.2.2)))
def qj.T20 : Bool × List (List Nat × List Nat) := (true, [([], []), ([], []), ([1], [1]), ([0, 2], [0, 2]), ([], []), ([], []), ([4, 5], [4, 5]), ([3, 3, 0, 1, 2, 3], [0, 3]), ([6, 7, 0, 1, 2, 3, 4, 5, 6, 7], [4, 6])])
def qj.B20 : List Nat := [0, 0, 2, 7, 0, 0, 48, 15, 255]
theorem qj.tab20 : rtab .any (opsOf Tryz.f13 20) = qj.T20 := by kernel_rfl
theorem qj.bits20 : waitsOk qj.T20.2 qj.B20 = true := by kernel_rfl
theorem z86_0 {p : Prop} (h : p := by kernel_rfl) : p := h
theorem z86_1 {p : Prop} (h : p := by (with_reducible repeat (first | apply Kd.R_alloc | apply Kd.R_drewN | apply Kd.R_drew)); exact HO_10.out) : p := h
theorem z86_2 {p : Prop} (h : p := by repeat (first | (with_reducible first | exact HB.out | apply qg | apply qa | apply qi) | exact HB.out)) : p := h
theorem z86_3 {p : Prop} (h : p := by repeat (first | (with_reducible first | exact HB.out | apply qg | apply qa | apply qi | refine qw ?_ GE596.out) | exact HB.out)) : p := h
theorem z86_4 {p : Prop} (h : p := by first | rfl | (simp; done) | (simp [*]; done) | (simp; exact qh _) | exact qh _ | (simp; exact (qh _).symm) | (simp; exact q15 _)) : p := h
theorem z86_5 {p : Prop} (h : p := by (with_reducible repeat (first | refine qd ?_ _ | refine qf ?_ | refine qc ?_ _)); exact BK596.out) : p := h
theorem z86_6 {p : Prop} (h : p := by (try simp only [List.map_toArray, List.map_cons, List.map_nil]); first | done | rfl | (simp only [List.length_drop, List.length_take]; rfl)) : p := h
theorem z86_7 {p : Prop} (h : p := by first | rfl | (simp [qq, qp] <;> rfl) | (simp [*, qq, qp] <;> rfl)) : p := h
theorem z86_8 {p : Prop} (h : p := by first | exact Kd.R_nil _ _ _ _ _ | exact Kd.N_nil _ _ _ _ _ | exact Kd.V_nil _ _ _ _ _ | exact Kd.Q_nil _ _ _ _ _ | exact Kd.S_nil _ _ _ _ _) : p := h
theorem z86_9 {p : Prop} (h : p := by first | (with_reducible assumption) | assumption) : p := h
theorem z86_10 {p : Prop} (h : p := by (with_reducible repeat (first | refine qd ?_ _ | refine qf ?_ | refine qc ?_ _)); refine qx (cs := #[.int .i64 t590, .int .u32 t591, .string t592, .string (⟨#[]⟩ : ByteArray)]) ?_ 3 _ rfl; (with_reducible repeat (first | refine qd ?_ _ | refine qf ?_ | refine qc ?_ _)); refine qx (cs := #[.int .i64 t590, .int .u32 t591, .string (⟨#[]⟩ : ByteArray), .string (⟨#[]⟩ : ByteArray)]) ?_ 2 _ rfl; (with_reducible repeat (first | refine qd ?_ _ | refine qf ?_ | refine qc ?_ _)); refine qx (cs := #[.int .i64 t590, .int .u32 0, .string (⟨#[]⟩ : ByteArray), .string (⟨#[]⟩ : ByteArray)]) ?_ 1 _ rfl; (with_reducible repeat (first | refine qd ?_ _ | refine qf ?_ | refine qc ?_ _)); refine qx (cs := #[.int .i64 0, .int .u32 0, .string (⟨#[]⟩ : ByteArray), .string (⟨#[]⟩ : ByteArray)]) ?_ 0 _ rfl; (with_reducible repeat (first | refine qd ?_ _ | refine qf ?_ | refine qc ?_ _)); exact BK596.out) : p := h
theorem z86_11 {p : Prop} (h : p := by have := HK1.out; have := HJ20.out; have := HJ29.out; have := HJ35.out; first | omega | exact Nat.le_refl _) : p := h
set_option maxHeartbeats 8000000 in
set_option maxRecDepth 100000 in
theorem qj.calls (k : Nat) (a0 : Int) (a1 : ByteArray) (r1 : List (S24)) (r2 : Int) (r3 : Int) (w : World) (h : qj.f k a0 a1 = some (r1, r2, r3)) :
  Calls Tryz.prog 13 #[.int .i64 a0, .string a1] w fun e w' => ∃ v0_ : Value, e = .returned (.tuple #[v0_, .int .i64 r2, .int .i64 r3]) ∧ Kd.R k24 24 w' w.heap.size (fun _ => True) v0_ r1 ∧ Below w.heap.size w w' := by
 have hu24 := Tryz.underlying24
 have HB := Aside0.mk (Below.refl w.heap.size w)
 have H : ((q1g.f k a1).bind fun bt585 => (if bt585.2.2 = 0 then (if bt585.1 > (wrap64 ((a1.size : Int) - bt585.2.1)) then (some (([] : List (S24)), 0, 3)) else (if 0 ≤ bt585.2.1 then (if bt585.2.1 ≤ (wrap64 (bt585.2.1 + bt585.1)) then (if (wrap64 (bt585.2.1 + bt585.1)) ≤ (a1.size : Int) then (qj.l0 k a0 bt585.1 bt585.2.1 ([] : List (S24)) (a1.extract (bt585.2.1 : Int).toNat ((wrap64 (bt585.2.1 + bt585.1)) : Int).toNat)) else (none)) else (none)) else (none))) else (some (([] : List (S24)), 0, bt585.2.2)))) = some (r1, r2, r3) := h
 clear h
 replace H := Option.bind_eq_some_iff.mp H
 obtain ⟨⟨t585, t586, t587⟩, A30, H⟩ := H
 replace H : (if t587 = 0 then (if t585 > (wrap64 ((a1.size : Int) - t586)) then (some (([] : List (S24)), 0, 3)) else (if 0 ≤ t586 then (if t586 ≤ (wrap64 (t586 + t585)) then (if (wrap64 (t586 + t585)) ≤ (a1.size : Int) then (qj.l0 k a0 t585 t586 ([] : List (S24)) (a1.extract (t586 : Int).toNat ((wrap64 (t586 + t585)) : Int).toNat)) else (none)) else (none)) else (none))) else (some (([] : List (S24)), 0, t587))) = some (r1, r2, r3) := H
 have A3 := Aside0.mk A30
 clear A30
 by_cases c4 : t587 = 0
 ·rw [if_pos c4] at H
  have c4b0 : (t587 == 0) = true := beq_iff_eq.mpr c4
  have c4b1 : (t587 != 0) = false := bne_eq_false_iff_eq.mpr c4
  clear c4
  by_cases c5 : t585 > (wrap64 ((a1.size : Int) - t586))
  ·rw [if_pos c5] at H
   have c5b0 : decide ((wrap64 ((a1.size : Int) - t586)) < t585) = true := decide_eq_true c5
   clear c5
   simp only [Option.some.injEq, Prod.mk.injEq] at H
   obtain ⟨rfl, rfl, rfl⟩ := H
   go_enter Tryz.func13, Tryz.ntmps13
   go_wp2_with (first | ((with_reducible refine ql (f := 55) rfl ?_); refine q1b (some 17) rfl rfl Tryz.func55 z86_0 rfl #[.string a1] rfl z86_6 ?_; (with_reducible refine (q1g.calls k a1 t585 t586 t587 _ A3.out).mono ?_); rintro e w' ⟨rfl, ⟨nd, rfl⟩⟩; refine ⟨_, rfl, ?_⟩))
   go_ret3
   exact ⟨_, z86_7, z86_8, z86_2⟩
  rw [if_neg c5] at H
  have c5b0 : decide ((wrap64 ((a1.size : Int) - t586)) < t585) = false := decide_eq_false c5
  clear c5
  by_cases c6 : 0 ≤ t586
  ·rw [if_pos c6] at H
   have c6b0 := eq_true c6
   have c6b1 : decide (0 ≤ t586) = true := decide_eq_true c6
   clear c6
   by_cases c7 : t586 ≤ (wrap64 (t586 + t585))
   ·rw [if_pos c7] at H
    have c7b0 := eq_true c7
    have c7b1 : decide (t586 ≤ (wrap64 (t586 + t585))) = true := decide_eq_true c7
    by_cases c8 : (wrap64 (t586 + t585)) ≤ (a1.size : Int)
    ·rw [if_pos c8] at H
     have c8b0 := eq_true c8
     have c8b1 : decide ((wrap64 (t586 + t585)) ≤ (a1.size : Int)) = true := decide_eq_true c8
     have H' := Aside0.mk H
     clear H
     go_enter Tryz.func13, Tryz.ntmps13
     go_wp2_with (first | ((with_reducible refine ql (f := 55) rfl ?_); refine q1b (some 17) rfl rfl Tryz.func55 z86_0 rfl #[.string a1] rfl z86_6 ?_; (with_reducible refine (q1g.calls k a1 t585 t586 t587 _ A3.out).mono ?_); rintro e w' ⟨rfl, ⟨nd, rfl⟩⟩; refine ⟨_, rfl, ?_⟩))
     go_loopg [10, 11] k (fun kq v10 v11 w' => ∃ (x10_1 : List (S24)) (x11_1 : ByteArray), v11 = .string x11_1 ∧ Aside0 (qj.l0 kq a0 t585 t586 x10_1 x11_1 = some (r1, r2, r3)) ∧ Aside0 (kq ≤ k) ∧ Aside0 (Kd.R k24 24 w' w.heap.size (fun _ => True) v10 x10_1) ∧ Aside0 (Below w.heap.size w w'))
     case atStart => exact ⟨(([] : List (S24))), (a1.extract (t586 : Int).toNat ((wrap64 (t586 + t585)) : Int).toNat), z86_4, H', ⟨Nat.le_refl _⟩, ⟨z86_8⟩, ⟨z86_2⟩⟩
     case round =>
      clear H'
      clear c4b0 c4b1 c5b0 c6b0 c6b1 c7 c7b0 c7b1 c8 c8b0 c8b1
      obtain ⟨x10_1, x11_1, rfl, HA, HK1, HO_10, HB⟩ := hrel
      cases gk with
      | zero => exact absurd HA.out (by simp [qj.l0])
      | succ k1 =>
       have H := HA.out
       clear HA
       simp only [qj.l0] at H
       by_cases c9 : x11_1.toList = ([] : List UInt8)
       ·rw [if_pos c9] at H
        have c9b0 : (x11_1.toList == ([] : List UInt8)) = true := beq_iff_eq.mpr c9
        have c9b1 : (x11_1.toList != ([] : List UInt8)) = false := bne_eq_false_iff_eq.mpr c9
        clear c9
        replace H := Option.bind_eq_some_iff.mp H
        obtain ⟨t588, A100, H⟩ := H
        replace H : (if t588 = true then (some (([] : List (S24)), 0, 9)) else (some (x10_1, wrap64 (t586 + t585), 0))) = some (r1, r2, r3) := H
        have A10 := Aside0.mk A100
        clear A100
        by_cases c11 : t588 = true
        ·subst c11
         rw [if_pos rfl] at H
         simp only [Option.some.injEq, Prod.mk.injEq] at H
         obtain ⟨rfl, rfl, rfl⟩ := H
         obtain ⟨Ao12, co12, eo12⟩ := Kd.R_slice HO_10.out
         subst eo12
         go_wp2_with (first | ((with_reducible refine ql (f := 58) rfl ?_); refine q1b (some 82) rfl rfl Tryz.func58 z86_0 rfl #[.slice Ao12 x10_1.length co12] rfl z86_6 ?_; (with_reducible refine (polyglotref05_lone.calls k1 _ _ x10_1 true _ ?side1 ?side2 A10.out).mono ?_); (case side1 => repeat (first | exact (Kd.R_reads' HO_10.out).2.2 | (with_reducible refine Kd.C_alloc ?_ _) | (with_reducible refine Kd.C_drewN ?_ _) | (with_reducible refine Kd.C_drew ?_))); (case side2 => exact (Kd.R_reads' HO_10.out).2.1); rintro e w13 ⟨rfl, hb⟩; refine ⟨_, rfl, ?_⟩; have n0_ := Aside0.mk (Kd.R_below z86_1 hb); have n1_ := Aside0.mk (qe z86_2 hb); clear HO_10; clear HB; have HO_10 := n0_; have HB := n1_; clear n0_ n1_; (try clear hb); (try clear hb2); (try clear hk); (try clear hi)))
         go_ret3
         exact ⟨_, z86_7, z86_8, z86_2⟩
        replace c11 := Bool.eq_false_iff.mpr c11
        subst c11
        rw [if_neg (show ¬ (false = true) by decide)] at H
        simp only [Option.some.injEq, Prod.mk.injEq] at H
        obtain ⟨rfl, rfl, rfl⟩ := H
        obtain ⟨Ao14, co14, eo14⟩ := Kd.R_slice HO_10.out
        subst eo14
        go_wp2_with (first | ((with_reducible refine ql (f := 58) rfl ?_); refine q1b (some 82) rfl rfl Tryz.func58 z86_0 rfl #[.slice Ao14 x10_1.length co14] rfl z86_6 ?_; (with_reducible refine (polyglotref05_lone.calls k1 _ _ x10_1 false _ ?side1 ?side2 A10.out).mono ?_); (case side1 => repeat (first | exact (Kd.R_reads' HO_10.out).2.2 | (with_reducible refine Kd.C_alloc ?_ _) | (with_reducible refine Kd.C_drewN ?_ _) | (with_reducible refine Kd.C_drew ?_))); (case side2 => exact (Kd.R_reads' HO_10.out).2.1); rintro e w15 ⟨rfl, hb⟩; refine ⟨_, rfl, ?_⟩; have n0_ := Aside0.mk (Kd.R_below z86_1 hb); have n1_ := Aside0.mk (qe z86_2 hb); clear HO_10; clear HB; have HO_10 := n0_; have HB := n1_; clear n0_ n1_; (try clear hb); (try clear hb2); (try clear hk); (try clear hi)))
        go_ret3
        exact ⟨_, z86_7, z86_1, z86_2⟩
       rw [if_neg c9] at H
       have c9b0 : (x11_1.toList == ([] : List UInt8)) = false := beq_eq_false_iff_ne.mpr c9
       have c9b1 : (x11_1.toList != ([] : List UInt8)) = true := bne_iff_ne.mpr c9
       by_cases c16 : 0 < (x11_1.size : Int)
       ·rw [if_pos c16] at H
        have c16b0 : decide (0 < (x11_1.size : Int)) = true := decide_eq_true c16
        have c16b1 : decide (0 < x11_1.size) = true := decide_eq_true (by omega)
        clear c16
        replace H := Option.bind_eq_some_iff.mp H
        obtain ⟨t589, A180, H⟩ := H
        replace H : (if t589 = true then ((q1f.f k1 x11_1).bind fun bt590 => (if bt590.2.2.2.2.2 = 0 then ((qb.f k1 a0 bt590.1 bt590.2.1 bt590.2.2.1 bt590.2.2.2.1).bind fun t597 => (qj.j1 k1 a0 t585 t586 x10_1 x11_1 bt590.2.2.2.2.1 t597 bt590.1 bt590.2.1 bt590.2.2.1 bt590.2.2.2.1)) else (qj.j1 k1 a0 t585 t586 x10_1 x11_1 bt590.2.2.2.2.1 bt590.2.2.2.2.2 bt590.1 bt590.2.1 bt590.2.2.1 bt590.2.2.2.1))) else (some (([] : List (S24)), 0, 9))) = some (r1, r2, r3) := H
        have A18 := Aside0.mk A180
        clear A180
        by_cases c19 : t589 = true
        ·subst c19
         rw [if_pos rfl] at H
         replace H := Option.bind_eq_some_iff.mp H
         obtain ⟨⟨t590, t591, t592, t593, t594, t595⟩, A200, H⟩ := H
         replace H : (if t595 = 0 then ((qb.f k1 a0 t590 t591 t592 t593).bind fun t597 => (qj.j1 k1 a0 t585 t586 x10_1 x11_1 t594 t597 t590 t591 t592 t593)) else (qj.j1 k1 a0 t585 t586 x10_1 x11_1 t594 t595 t590 t591 t592 t593)) = some (r1, r2, r3) := H
         have A20 := Aside0.mk A200
         clear A200
         have HC21 := Aside0.mk H
         clear H
         have p17 : 0 ≤ (0 : Int) := (by omega)
         have q17 : 0 < x11_1.size := (by have : (0 : Int) < (x11_1.size : Int) := of_decide_eq_true z86_9; omega)
         have hx17 : ∀ h : 0 < x11_1.size, ((x11_1[0]'h).toNat : Int) = bt x11_1 0 := bt_at x11_1 0
         clear p17
         have qi17 : (0 < (x11_1.size : Int)) = True := eq_true (of_decide_eq_true z86_9)
         replace q17 := eq_true q17
         go_upto_if 51 with (first | ((with_reducible refine ql (f := 19) rfl ?_); refine q1b (some 42) rfl rfl Tryz.func19 z86_0 rfl #[.int .i64 a0, .int .i64 (wrap64 (bt x11_1 0))] rfl z86_6 ?_; (with_reducible refine (qy.calls k1 a0 (wrap64 (bt x11_1 0)) true _ A18.out).mono ?_); rintro e w22 ⟨rfl, hb⟩; refine ⟨_, rfl, ?_⟩; have n0_ := Aside0.mk (Kd.R_below z86_1 hb); have n1_ := Aside0.mk (qe z86_2 hb); clear HO_10; clear HB; have HO_10 := n0_; have HB := n1_; clear n0_ n1_; (try clear hb); (try clear hb2); (try clear hk); (try clear hi)) | ((with_reducible refine ql (f := 56) rfl ?_); refine q1b (some 46) rfl rfl Tryz.func56 z86_0 rfl #[.string x11_1] rfl z86_6 ?_; (with_reducible refine (q1f.calls k1 x11_1 t590 t591 t592 t593 t594 t595 _ A20.out).mono ?_); rintro e w23 ⟨rfl, hb⟩; refine ⟨_, rfl, ?_⟩; have n0_ := Aside0.mk (Kd.R_below z86_1 hb); have n1_ := Aside0.mk (qe z86_2 hb); clear HO_10; clear HB; have HO_10 := n0_; have HB := n1_; clear n0_ n1_; (try clear hb); (try clear hb2); (try clear hk); (try clear hi)) | ((with_reducible refine q1c (N := 12) rfl ?_); (try (refine gate_guard (by rfl) ?_; dsimp only)); refine q1r ?hg (N := 12) ?hd (cs := #[.int .i64 0, .int .u32 0, .string (⟨#[]⟩ : ByteArray), .string (⟨#[]⟩ : ByteArray)]) (t := 24) ?hr ?_; (case hd => rfl); (case hg => rfl); (case hr => first | (go_simp; done) | (go_simp; rfl)); intro gb596 hg w24 hbox hb; have n0_ := Aside0.mk (Kd.R_below (Kd.R_elderB z86_1 gb596 (Nat.le_of_eq hg.symm)) hb); have n1_ := Aside0.mk (qe z86_2 hb); have n2_ := Aside0.mk (hbox); have n3_ := Aside0.mk ((by rw [hg]; exact (qm z86_2) : w.heap.size ≤ gb596)); have n4_ := Aside0.mk ((by rw [hg]; exact (qm z86_2) : w.heap.size ≤ gb596)); clear HO_10; clear HB; have HO_10 := n0_; have HB := n1_; have BK596 := n2_; have GW596 := n3_; have GE596 := n4_; clear n0_ n1_ n2_ n3_ n4_; clear hb hbox hg; have hcz25_0 := zbc BK596 0 (.int .i64 0); have hcz25_1 := zbc BK596 1 (.int .u32 0); have hcz25_2 := zbc BK596 2 (.string (⟨#[]⟩ : ByteArray)); have hcz25_3 := zbc BK596 3 (.string (⟨#[]⟩ : ByteArray)); have hfz25_0 := q9 BK596.out 0; have hfz25_1 := q9 BK596.out 1; have hfz25_2 := q9 BK596.out 2; have hfz25_3 := q9 BK596.out 3))
         (try simp only [Act.put, List.setIfInBounds_toArray, List.set_cons_zero, List.set_cons_succ])
         go_cut [14] (fun v14 wc => ∃ (kq : Nat) (x14_20 : Int), v14 = .int .i64 x14_20 ∧ Aside0 (qj.j1 kq a0 t585 t586 x10_1 x11_1 t594 x14_20 t590 t591 t592 t593 = some (r1, r2, r3)) ∧ Aside0 (kq ≤ k1) ∧ Aside0 (Kd.R k24 24 wc w.heap.size (fun k_ => k_ ≠ gb596) u10 x10_1) ∧ Aside0 (wc.heap[gb596]? = some (.cells #[.int .i64 t590, .int .u32 t591, .string t592, .string t593] 24 (0, 0))) ∧ Aside0 (Below w.heap.size w wc))
         case first =>
          have H := HC21.out
          clear HC21
          by_cases c26 : t595 = 0
          ·rw [if_pos c26] at H
           have c26b0 : (t595 == 0) = true := beq_iff_eq.mpr c26
           have c26b1 : (t595 != 0) = false := bne_eq_false_iff_eq.mpr c26
           clear c26
           (first | rw [c26b0] | (simp only [i64_w, i32_w]; rw [c26b0]) | skip)
           replace H := Option.bind_eq_some_iff.mp H
           obtain ⟨t597, A270, H⟩ := H
           replace H : (qj.j1 k1 a0 t585 t586 x10_1 x11_1 t594 t597 t590 t591 t592 t593) = some (r1, r2, r3) := H
           have A27 := Aside0.mk A270
           clear A270
           have H' := Aside0.mk H
           clear H
           have hcz28_0 := zbc BK596 0 (.int .i64 0)
           have hcz28_1 := zbc BK596 1 (.int .u32 0)
           have hcz28_2 := zbc BK596 2 (.string (⟨#[]⟩ : ByteArray))
           have hcz28_3 := zbc BK596 3 (.string (⟨#[]⟩ : ByteArray))
           have hfz28_0 := q9 BK596.out 0
           have hfz28_1 := q9 BK596.out 1
           have hfz28_2 := q9 BK596.out 2
           have hfz28_3 := q9 BK596.out 3
           go_wp2_with (first | ((with_reducible refine ql (f := 23) rfl ?_); refine q1b (some 54) rfl rfl Tryz.func23 z86_0 rfl #[.int .i64 a0, .agg #[.int .i64 t590, .int .u32 t591, .string t592, .string t593]] rfl z86_6 ?_; (with_reducible refine (qb.calls k1 a0 t590 t591 t592 t593 t597 _ A27.out).mono ?_); rintro e w29 ⟨rfl, hb⟩; refine ⟨_, rfl, ?_⟩; have n0_ := Aside0.mk (Kd.R_below (by (with_reducible repeat (first | apply Kd.R_alloc | apply Kd.R_drewN | apply Kd.R_drew)); exact (Kd.R_mono (Kd.R_far (p := ⟨gb596, 3, none⟩) (Kd.R_far (p := ⟨gb596, 2, none⟩) (Kd.R_far (p := ⟨gb596, 1, none⟩) (Kd.R_far (p := ⟨gb596, 0, none⟩) (Kd.R_mono HO_10.out (fun k_ hk => (⟨hk, hk.2⟩ : _ ∧ k_ ≠ gb596))) (fun _ hk => hk.2) (.int .i64 t590)) (fun _ hk => hk.2) (.int .u32 t591)) (fun _ hk => hk.2) (.string t592)) (fun _ hk => hk.2) (.string t593)) (fun _ h_ => h_.1))) hb); have n1_ := Aside0.mk (qo (g := gb596) (o := .cells #[.int .i64 t590, .int .u32 t591, .string t592, .string t593] 24 (0, 0)) z86_10 hb); have n2_ := Aside0.mk (qe z86_3 hb); clear HO_10; clear BK596; clear HB; have HO_10 := n0_; have BK596 := n1_; have HB := n2_; clear n0_ n1_ n2_; (try clear hb); (try clear hb2); (try clear hk); (try clear hi)))
           go_meet
           case rel => exact ⟨_, (t597), z86_4, H', ⟨(by have := HK1.out; first | omega | exact Nat.le_refl _)⟩, ⟨(by (with_reducible repeat (first | apply Kd.R_alloc | apply Kd.R_drewN | apply Kd.R_drew)); exact Kd.R_mono HO_10.out (fun _ hk => hk.2))⟩, ⟨z86_5⟩, ⟨z86_3⟩⟩
          rw [if_neg c26] at H
          have c26b0 : (t595 == 0) = false := beq_eq_false_iff_ne.mpr c26
          have c26b1 : (t595 != 0) = true := bne_iff_ne.mpr c26
          (first | rw [c26b0] | (simp only [i64_w, i32_w]; rw [c26b0]) | skip)
          have H' := Aside0.mk H
          clear H
          go_wp2
          go_meet
          case rel => exact ⟨_, (t595), z86_4, H', ⟨(by have := HK1.out; first | omega | exact Nat.le_refl _)⟩, ⟨(by (with_reducible repeat (first | apply Kd.R_alloc | apply Kd.R_drewN | apply Kd.R_drew)); exact Kd.R_mono (Kd.R_far (p := ⟨gb596, 3, none⟩) (Kd.R_far (p := ⟨gb596, 2, none⟩) (Kd.R_far (p := ⟨gb596, 1, none⟩) (Kd.R_far (p := ⟨gb596, 0, none⟩) (Kd.R_mono HO_10.out (fun k_ hk => (⟨hk, hk.2⟩ : _ ∧ k_ ≠ gb596))) (fun _ hk => hk.2) (.int .i64 t590)) (fun _ hk => hk.2) (.int .u32 t591)) (fun _ hk => hk.2) (.string t592)) (fun _ hk => hk.2) (.string t593)) (fun _ hk => hk.1.2))⟩, ⟨z86_10⟩, ⟨z86_3⟩⟩
         case rest =>
          clear HC21
          clear c9 c9b0 c9b1 c16b0 c16b1 q17 hx17 qi17 hcz25_0 hcz25_1 hcz25_2 hcz25_3 hfz25_0 hfz25_1 hfz25_2 hfz25_3
          obtain ⟨kq, x14_20, rfl, HA, HJ20, HO_10, BK596, HB⟩ := hcut
          cases kq with
          | zero => exact absurd HA.out (by simp [qj.j1])
          | succ kj20 =>
           have H := HA.out
           clear HA
           simp only [qj.j1] at H
           have HC30 := Aside0.mk H
           clear H
           go_upto_region 14 with (fail)
           go_cut [63] (fun v63 wc => ∃ (kq : Nat) (x63_29 : Bool), v63 = .bool x63_29 ∧ Aside0 (qj.j2 kq a0 t585 t586 x10_1 x11_1 t594 x14_20 x63_29 t590 t591 t592 t593 = some (r1, r2, r3)) ∧ Aside0 (kq ≤ kj20) ∧ Aside0 (Kd.R k24 24 wc w.heap.size (fun k_ => k_ ≠ gb596) u10 x10_1) ∧ Aside0 (wc.heap[gb596]? = some (.cells #[.int .i64 t590, .int .u32 t591, .string t592, .string t593] 24 (0, 0))) ∧ Aside0 (Below w.heap.size w wc))
           case first =>
            have H := HC30.out
            clear HC30
            by_cases c31 : x14_20 = 0
            ·rw [if_pos c31] at H
             have c31b0 : (x14_20 == 0) = true := beq_iff_eq.mpr c31
             have c31b1 : (x14_20 != 0) = false := bne_eq_false_iff_eq.mpr c31
             clear c31
             (first | rw [c31b0] | (simp only [i64_w, i32_w]; rw [c31b0]) | skip)
             replace H := Option.bind_eq_some_iff.mp H
             obtain ⟨t598, A320, H⟩ := H
             replace H : (qj.j2 kj20 a0 t585 t586 x10_1 x11_1 t594 x14_20 t598 t590 t591 t592 t593) = some (r1, r2, r3) := H
             have A32 := Aside0.mk A320
             clear A320
             have H' := Aside0.mk H
             clear H
             have hcz33_0 := zbc BK596 0 (.int .i64 t590)
             have hcz33_1 := zbc BK596 1 (.int .u32 t591)
             have hcz33_2 := zbc BK596 2 (.string t592)
             have hcz33_3 := zbc BK596 3 (.string t593)
             have hfz33_0 := q9 BK596.out 0
             have hfz33_1 := q9 BK596.out 1
             have hfz33_2 := q9 BK596.out 2
             have hfz33_3 := q9 BK596.out 3
             obtain ⟨Ao34, co34, eo34⟩ := Kd.R_slice HO_10.out
             subst eo34
             go_wp2_with (first | (go_at_call 57; (with_reducible refine (polyglotref05_twice.calls kj20 a0 _ _ x10_1 t590 t598 _ ?side1 ?side2 A32.out).mono ?_); (case side1 => repeat (first | exact (Kd.R_reads' HO_10.out).2.2 | (with_reducible refine Kd.C_alloc ?_ _) | (with_reducible refine Kd.C_drewN ?_ _) | (with_reducible refine Kd.C_drew ?_))); (case side2 => exact (Kd.R_reads' HO_10.out).2.1); rintro e w35 ⟨rfl, hb⟩; have n0_ := Aside0.mk (Kd.R_below z86_1 hb); have n1_ := Aside0.mk (qo (g := gb596) (o := .cells #[.int .i64 t590, .int .u32 t591, .string t592, .string t593] 24 (0, 0)) z86_5 hb); have n2_ := Aside0.mk (qe z86_3 hb); clear HO_10; clear BK596; clear HB; have HO_10 := n0_; have BK596 := n1_; have HB := n2_; clear n0_ n1_ n2_; (try clear hb); (try clear hb2); (try clear hk); (try clear hi)))
             go_meet
             case rel => exact ⟨_, (t598), z86_4, H', ⟨(by have := HK1.out; have := HJ20.out; first | omega | exact Nat.le_refl _)⟩, ⟨z86_1⟩, ⟨z86_5⟩, ⟨z86_3⟩⟩
            rw [if_neg c31] at H
            have c31b0 : (x14_20 == 0) = false := beq_eq_false_iff_ne.mpr c31
            have c31b1 : (x14_20 != 0) = true := bne_iff_ne.mpr c31
            (first | rw [c31b0] | (simp only [i64_w, i32_w]; rw [c31b0]) | skip)
            have H' := Aside0.mk H
            clear H
            go_wp2
            go_meet
            case rel => exact ⟨_, (false), z86_4, H', ⟨(by have := HK1.out; have := HJ20.out; first | omega | exact Nat.le_refl _)⟩, ⟨z86_1⟩, ⟨z86_5⟩, ⟨z86_3⟩⟩
           case rest =>
            clear HC30
            obtain ⟨kq, x63_29, rfl, HA, HJ29, HO_10, BK596, HB⟩ := hcut
            cases kq with
            | zero => exact absurd HA.out (by simp [qj.j2])
            | succ kj29 =>
             have H := HA.out
             clear HA
             simp only [qj.j2] at H
             have HC36 := Aside0.mk H
             clear H
             go_upto_if 63 with (fail)
             go_cut [14] (fun v14 wc => ∃ (kq : Nat) (x14_35 : Int), v14 = .int .i64 x14_35 ∧ Aside0 (qj.j3 kq a0 t585 t586 x10_1 x11_1 t594 x14_35 t590 t591 t592 t593 = some (r1, r2, r3)) ∧ Aside0 (kq ≤ kj29) ∧ Aside0 (Kd.R k24 24 wc w.heap.size (fun k_ => k_ ≠ gb596) u10 x10_1) ∧ Aside0 (wc.heap[gb596]? = some (.cells #[.int .i64 t590, .int .u32 t591, .string t592, .string t593] 24 (0, 0))) ∧ Aside0 (Below w.heap.size w wc))
             case first =>
              have H := HC36.out
              clear HC36
              by_cases c37 : x63_29 = true
              ·subst c37
               rw [if_pos rfl] at H
               have H' := Aside0.mk H
               clear H
               go_wp2
               go_meet
               case rel => exact ⟨_, (9), z86_4, H', ⟨(by have := HK1.out; have := HJ20.out; have := HJ29.out; first | omega | exact Nat.le_refl _)⟩, ⟨z86_1⟩, ⟨z86_5⟩, ⟨z86_3⟩⟩
              replace c37 := Bool.eq_false_iff.mpr c37
              subst c37
              rw [if_neg (show ¬ (false = true) by decide)] at H
              have H' := Aside0.mk H
              clear H
              go_wp2
              go_meet
              case rel => exact ⟨_, (x14_20), z86_4, H', ⟨(by have := HK1.out; have := HJ20.out; have := HJ29.out; first | omega | exact Nat.le_refl _)⟩, ⟨z86_1⟩, ⟨z86_5⟩, ⟨z86_3⟩⟩
             case rest =>
              clear HC36
              obtain ⟨kq, x14_35, rfl, HA, HJ35, HO_10, BK596, HB⟩ := hcut
              cases kq with
              | zero => exact absurd HA.out (by simp [qj.j3])
              | succ kj35 =>
               have H := HA.out
               clear HA
               simp only [qj.j3] at H
               have HC38 := Aside0.mk H
               clear H
               go_upto_region 16 with (fail)
               go_cut [70] (fun v70 wc => ∃ (kq : Nat) (x70_37 : Bool), v70 = .bool x70_37 ∧ Aside0 (qj.j4 kq a0 t585 t586 x10_1 x11_1 t594 x14_35 x70_37 t590 t591 t592 t593 = some (r1, r2, r3)) ∧ Aside0 (kq ≤ kj35) ∧ Aside0 (Kd.R k24 24 wc w.heap.size (fun k_ => k_ ≠ gb596) u10 x10_1) ∧ Aside0 (wc.heap[gb596]? = some (.cells #[.int .i64 t590, .int .u32 t591, .string t592, .string t593] 24 (0, 0))) ∧ Aside0 (Below w.heap.size w wc))
               case first =>
                have H := HC38.out
                clear HC38
                by_cases c39 : x14_35 = 0
                ·rw [if_pos c39] at H
                 have c39b0 : (x14_35 == 0) = true := beq_iff_eq.mpr c39
                 have c39b1 : (x14_35 != 0) = false := bne_eq_false_iff_eq.mpr c39
                 clear c39
                 (first | rw [c39b0] | (simp only [i64_w, i32_w]; rw [c39b0]) | skip)
                 have H' := Aside0.mk H
                 clear H
                 obtain ⟨Ao40, co40, eo40⟩ := Kd.R_slice HO_10.out
                 subst eo40
                 go_wp2
                 go_meet
                 case rel => exact ⟨_, (decide ((x10_1.length : Int) ≥ 1000)), z86_4, H', ⟨z86_11⟩, ⟨z86_1⟩, ⟨z86_5⟩, ⟨z86_3⟩⟩
                rw [if_neg c39] at H
                have c39b0 : (x14_35 == 0) = false := beq_eq_false_iff_ne.mpr c39
                have c39b1 : (x14_35 != 0) = true := bne_iff_ne.mpr c39
                (first | rw [c39b0] | (simp only [i64_w, i32_w]; rw [c39b0]) | skip)
                have H' := Aside0.mk H
                clear H
                go_wp2
                go_meet
                case rel => exact ⟨_, (false), z86_4, H', ⟨z86_11⟩, ⟨z86_1⟩, ⟨z86_5⟩, ⟨z86_3⟩⟩
               case rest =>
                clear HC38
                obtain ⟨kq, x70_37, rfl, HA, HJ37, HO_10, BK596, HB⟩ := hcut
                cases kq with
                | zero => exact absurd HA.out (by simp [qj.j4])
                | succ kj37 =>
                 have H := HA.out
                 clear HA
                 simp only [qj.j4] at H
                 by_cases c41 : x70_37 = true
                 ·subst c41
                  have H1 : (if 4 = 0 then (if x10_1.length < 2932031007402 then (if 0 ≤ t594 then (if t594 ≤ (x11_1.size : Int) then (qj.l0 kj37 a0 t585 t586 (x10_1 ++ [(⟨t590, t591, t592, t593⟩ : S24)]) (x11_1.extract (t594 : Int).toNat x11_1.size)) else (none)) else (none)) else (none)) else (some (([] : List (S24)), 0, 4))) = some (r1, r2, r3) := by rw [if_pos rfl] at H; exact H
                  clear H
                  have H := H1
                  clear H1
                  by_cases c42 : 4 = 0
                  ·rw [if_pos c42] at H
                   have c42b0 : (4 == 0) = true := beq_iff_eq.mpr c42
                   exact absurd c42b0 (by decide)
                  rw [if_neg c42] at H
                  have c42b0 : (4 == 0) = false := beq_eq_false_iff_ne.mpr c42
                  have c42b1 : (4 != 0) = true := bne_iff_ne.mpr c42
                  simp only [Option.some.injEq, Prod.mk.injEq] at H
                  obtain ⟨rfl, rfl, rfl⟩ := H
                  go_wp2
                  go_ret3
                  exact ⟨_, z86_7, z86_8, z86_3⟩
                 replace c41 := Bool.eq_false_iff.mpr c41
                 subst c41
                 rw [if_neg (show ¬ (false = true) by decide)] at H
                 by_cases c48 : x14_35 = 0
                 ·rw [if_pos c48] at H
                  have c48b0 : (x14_35 == 0) = true := beq_iff_eq.mpr c48
                  have c48b1 : (x14_35 != 0) = false := bne_eq_false_iff_eq.mpr c48
                  clear c48
                  by_cases c49 : x10_1.length < 2932031007402
                  ·rw [if_pos c49] at H
                   have LMc49 := Aside0.mk c49
                   clear c49
                   obtain ⟨y602, hy602⟩ : ∃ y_ : List (S24), y_ = (x10_1 ++ [(⟨t590, t591, t592, t593⟩ : S24)]) := ⟨_, rfl⟩
                   replace H : (if 0 ≤ t594 then (if t594 ≤ (x11_1.size : Int) then (qj.l0 kj37 a0 t585 t586 y602 (x11_1.extract (t594 : Int).toNat x11_1.size)) else (none)) else (none)) = some (r1, r2, r3) := by first | (rw [hy602]; with_reducible exact H) | (have H2_ := (Option.bind_some _ _).symm.trans H; rw [hy602]; with_reducible exact H2_) | (have H2_ := (Option.bind_some _ _).symm.trans H; with_reducible exact H2_) | with_reducible exact H | (rw [hy602]; exact H) | exact H
                   have Ny602 := Aside0.mk hy602
                   clear hy602
                   by_cases c50 : 0 ≤ t594
                   ·rw [if_pos c50] at H
                    have c50b0 := eq_true c50
                    have c50b1 : decide (0 ≤ t594) = true := decide_eq_true c50
                    clear c50
                    by_cases c51 : t594 ≤ (x11_1.size : Int)
                    ·rw [if_pos c51] at H
                     have c51b0 := eq_true c51
                     have c51b1 : decide (t594 ≤ (x11_1.size : Int)) = true := decide_eq_true c51
                     clear c51
                     have H' := Aside0.mk H
                     clear H
                     try go_wp2
                     have n0_ := Aside0.mk (Kd.R_drew HO_10.out)
                     have n1_ := Aside0.mk (qf BK596.out)
                     have n2_ := Aside0.mk (qi HB.out)
                     clear HO_10
                     clear BK596
                     clear HB
                     have HO_10 := n0_
                     have BK596 := n1_
                     have HB := n2_
                     clear n0_ n1_ n2_
                     refine start_ (n := 9) (S := fun w' => w'.cell? ⟨gb596, 0, none⟩ = some (.int .i64 t590) ∧ w'.cell? ⟨gb596, 1, none⟩ = some (.int .u32 t591) ∧ w'.cell? ⟨gb596, 2, none⟩ = some (.string t592) ∧ w'.cell? ⟨gb596, 3, none⟩ = some (.string t593)) (ds := []) #[fF86,fF86,fF86,fF86,fF86,fF86,fF86,fF86,fF86] z86_0 rfl rfl ⟨(qk BK596.out 0).trans rfl, (qk BK596.out 1).trans rfl, (qk BK596.out 2).trans rfl, (qk BK596.out 3).trans rfl⟩ (fun hHeld => ?_); refine with_tabW qj.tab20 qj.bits20 (fun HT_ HW_ => ?_)
                     generalize wc.drew = w52 at HO_10 BK596 HB hHeld ⊢
                     refine pure_ (i := 0) (N := some 74) (v := ?_) (a' := ?_) #[tT86,fF86,fF86,fF86,fF86,fF86,fF86,fF86,fF86] rfl rfl (q1q HT_.out z86_0) (fun _ _ _ h => h) (Or.inl ⟨by rfl, ?_⟩) ?_ ?_
                     rotate_left
                     ·intro w'
                      go_simp
                      with_reducible rfl
                     rotate_left
                     ·simp only [Act.put, List.setIfInBounds_toArray, List.set_cons_zero, List.set_cons_succ, i64_w, i32_w]
                      rfl
                     refine pure_ (i := 4) (N := some 78) (v := ?_) (a' := ?_) #[tT86,fF86,fF86,fF86,tT86,fF86,fF86,fF86,fF86] rfl rfl (q1q HT_.out z86_0) (fun _ _ _ h => h) (Or.inl ⟨by rfl, ?_⟩) ?_ ?_
                     rotate_left
                     ·intro w'
                      go_simp
                      with_reducible rfl
                     rotate_left
                     ·simp only [Act.put, List.setIfInBounds_toArray, List.set_cons_zero, List.set_cons_succ, i64_w, i32_w]
                      rfl
                     refine pure_ (i := 5) (N := some 79) (v := ?_) (a' := ?_) #[tT86,fF86,fF86,fF86,tT86,tT86,fF86,fF86,fF86] rfl rfl (q1q HT_.out z86_0) (fun _ _ _ h => h) (Or.inl ⟨by rfl, ?_⟩) ?_ ?_
                     rotate_left
                     ·intro w'
                      go_simp
                      with_reducible rfl
                     rotate_left
                     ·simp only [Act.put, List.setIfInBounds_toArray, List.set_cons_zero, List.set_cons_succ, i64_w, i32_w]
                      rfl
                     refine pure_ (i := 6) (N := some 80) (v := ?_) (a' := ?_) #[tT86,fF86,fF86,fF86,tT86,tT86,tT86,fF86,fF86] rfl rfl (q1q HT_.out z86_0) (fun _ _ _ h => h) (Or.inl ⟨by rfl, ?_⟩) ?_ ?_
                     rotate_left
                     ·intro w'
                      go_simp
                      with_reducible rfl
                     rotate_left
                     ·simp only [Act.put, List.setIfInBounds_toArray, List.set_cons_zero, List.set_cons_succ, i64_w, i32_w]
                      rfl
                     refine take_ (i := 1) (N := some 75) (v := ?_) (a' := ?_) #[tT86,tT86,fF86,fF86,tT86,tT86,tT86,fF86,fF86] rfl rfl (take_ofW HT_.out HW_.out z86_0) (fun _ _ _ h => h) (Or.inl ⟨by rfl, ?_⟩) hHeld ?_ ?_
                     rotate_left
                     ·rintro w' ⟨s0, s1, s2, s3⟩
                      go_simp
                      with_reducible rfl
                     rotate_left
                     ·simp only [Act.put, List.setIfInBounds_toArray, List.set_cons_zero, List.set_cons_succ, i64_w, i32_w]
                      rfl
                     refine one_ (i := 2) (N := some 76) #[tT86,tT86,tT86,fF86,tT86,tT86,tT86,fF86,fF86] rfl rfl (one_of HT_.out z86_0) (by decide) (fun K hK => ?_)
                     refine value_ (w1 := ?_) (v := ?_) (by rfl) rfl ?_ ?_
                     rotate_left 2
                     ·go_simp
                      constructor
                      ·rfl
                      ·rfl
                     refine hK.out _ _ ⟨(qk (qc BK596.out _) 0).trans rfl, (qk (qc BK596.out _) 1).trans rfl, (qk (qc BK596.out _) 2).trans rfl, (qk (qc BK596.out _) 3).trans rfl⟩ (fun hHeld => ?_)
                     clear hK K
                     refine norm_ (a' := ?_) ?_ ?_
                     rotate_left
                     ·show Act.put _ (some 76) _ = _
                      simp only [Act.put, List.setIfInBounds_toArray, List.set_cons_zero, List.set_cons_succ, i64_w, i32_w]
                      rfl
                     refine one_ (i := 3) (N := some 77) #[tT86,tT86,tT86,tT86,tT86,tT86,tT86,fF86,fF86] rfl rfl (one_of HT_.out z86_0) (by decide) (fun K hK => ?_)
                     refine Kd.R_append_step k24 (w0 := w) w.heap.size (by rfl) (.tmp 74) (.tmp 76) 25 24 (.agg #[(.int .i64 0), (.int .u32 0), (.string ⟨#[]⟩), (.string ⟨#[]⟩)]) 48 rfl Tryz.underlying25 info24 rfl (by decide) (by omega) u10 x10_1 (⟨t590, t591, t592, t593⟩ : S24) [.int .i64 t590, .int .u32 t591, .string t592, .string t593] (fun k_ => k_ ≠ gb596) (fun _ => False) rfl rfl ?aP (fun _ hk => hk.elim) ?aF ?aO ?aB ?aS ?aL ?_
                     (case aP => exact k24_mkM _ _ _ (⟨t590, t591, t592, t593⟩ : S24))
                     (case aB => exact z86_3)
                     (case aF => exact (fun k_ hk => Kd.freshB (g := gb596) (o := .cells #[.int .i64 t590, .int .u32 t591, .string t592, .string t593] 24 (0, 0)) z86_5 k_ hk))
                     (case aO => exact z86_1)
                     (case aS => exact (qm z86_3))
                     (case aL => have := LMc49.out; omega)
                     intro v603 w53 ho hb hg hat
                     rw [← Ny602.out] at ho
                     have n0_ := Aside0.mk (blk_grown (g := gb596) (o := .cells #[.int .i64 t590, .int .u32 t591, .string t592, .string t593] 24 (0, 0)) z86_5 hg (Kd.R_away HO_10.out (fun _ hk => hk)))
                     have n1_ := Aside0.mk (hb)
                     have n2_ := Aside0.mk (ho)
                     clear BK596
                     clear HB
                     clear HO_10
                     have BK596 := n0_
                     have HB := n1_
                     have HO604 := n2_
                     clear n0_ n1_ n2_
                     clear ho hb hg hat
                     refine hK.out _ _ ⟨(qk BK596.out 0).trans rfl, (qk BK596.out 1).trans rfl, (qk BK596.out 2).trans rfl, (qk BK596.out 3).trans rfl⟩ (fun hHeld => ?_)
                     clear hK K
                     refine norm_ (a' := ?_) ?_ ?_
                     rotate_left
                     ·show Act.put _ (some 77) _ = _
                      simp only [Act.put, List.setIfInBounds_toArray, List.set_cons_zero, List.set_cons_succ, i64_w, i32_w]
                      rfl
                     refine pure_ (i := 7) (N := some 10) (v := ?_) (a' := ?_) #[tT86,tT86,tT86,tT86,tT86,tT86,tT86,tT86,fF86] rfl rfl (q1q HT_.out z86_0) (fun _ _ _ h => h) (Or.inl ⟨by rfl, ?_⟩) ?_ ?_
                     rotate_left
                     ·intro w'
                      go_simp
                      with_reducible rfl
                     rotate_left
                     ·simp only [Act.put, List.setIfInBounds_toArray, List.set_cons_zero, List.set_cons_succ, i64_w, i32_w]
                      rfl
                     refine pure_ (i := 8) (N := some 11) (v := ?_) (a' := ?_) #[tT86,tT86,tT86,tT86,tT86,tT86,tT86,tT86,tT86] rfl rfl (q1q HT_.out z86_0) (fun _ _ _ h => h) (Or.inl ⟨by rfl, ?_⟩) ?_ ?_
                     rotate_left
                     ·intro w'
                      go_simp
                      with_reducible rfl
                     rotate_left
                     ·simp only [Act.put, List.setIfInBounds_toArray, List.set_cons_zero, List.set_cons_succ, i64_w, i32_w]
                      rfl
                     refine done_ (done_of HT_.out z86_0) ?_
                     try go_wp2
                     go_roundg kj37
                     case measure => have := HK1.out; have := HJ20.out; have := HJ29.out; have := HJ35.out; have := HJ37.out; omega
                     case rel => exact ⟨(y602), (x11_1.extract (t594 : Int).toNat x11_1.size), z86_4, H', ⟨by have := HK1.out; have := HJ20.out; have := HJ29.out; have := HJ35.out; have := HJ37.out; omega⟩, ⟨by (with_reducible repeat (first | apply Kd.R_alloc | apply Kd.R_drewN | apply Kd.R_drew)); exact Kd.R_mono HO604.out (fun _ hk => trivial)⟩, ⟨by repeat (first | (with_reducible first | exact HB.out | apply qg | apply qa | apply qi | refine qw ?_ GE596.out) | exact HB.out)⟩⟩
                    rw [if_neg c51] at H
                    exact absurd H (by simp)
                   rw [if_neg c50] at H
                   exact absurd H (by simp)
                  rw [if_neg c49] at H
                  exact absurd H (by simp)
                 rw [if_neg c48] at H
                 have c48b0 : (x14_35 == 0) = false := beq_eq_false_iff_ne.mpr c48
                 have c48b1 : (x14_35 != 0) = true := bne_iff_ne.mpr c48
                 simp only [Option.some.injEq, Prod.mk.injEq] at H
                 obtain ⟨rfl, rfl, rfl⟩ := H
                 go_wp2
                 go_ret3
                 exact ⟨_, z86_7, z86_8, z86_3⟩
        replace c19 := Bool.eq_false_iff.mpr c19
        subst c19
        rw [if_neg (show ¬ (false = true) by decide)] at H
        simp only [Option.some.injEq, Prod.mk.injEq] at H
        obtain ⟨rfl, rfl, rfl⟩ := H
        have p17 : 0 ≤ (0 : Int) := (by omega)
        have q17 : 0 < x11_1.size := (by have : (0 : Int) < (x11_1.size : Int) := of_decide_eq_true z86_9; omega)
        have hx17 : ∀ h : 0 < x11_1.size, ((x11_1[0]'h).toNat : Int) = bt x11_1 0 := bt_at x11_1 0
        clear p17
        have qi17 : (0 < (x11_1.size : Int)) = True := eq_true (of_decide_eq_true z86_9)
        replace q17 := eq_true q17
        go_wp2_with (first | ((with_reducible refine ql (f := 19) rfl ?_); refine q1b (some 42) rfl rfl Tryz.func19 z86_0 rfl #[.int .i64 a0, .int .i64 (wrap64 (bt x11_1 0))] rfl z86_6 ?_; (with_reducible refine (qy.calls k1 a0 (wrap64 (bt x11_1 0)) false _ A18.out).mono ?_); rintro e w54 ⟨rfl, hb⟩; refine ⟨_, rfl, ?_⟩; have n0_ := Aside0.mk (Kd.R_below z86_1 hb); have n1_ := Aside0.mk (qe z86_2 hb); clear HO_10; clear HB; have HO_10 := n0_; have HB := n1_; clear n0_ n1_; (try clear hb); (try clear hb2); (try clear hk); (try clear hi)))
        go_ret3
        exact ⟨_, z86_7, z86_8, z86_2⟩
       rw [if_neg c16] at H
       exact absurd H (by simp)
    rw [if_neg c8] at H
    exact absurd H (by simp)
   rw [if_neg c7] at H
   exact absurd H (by simp)
  rw [if_neg c6] at H
  exact absurd H (by simp)
 rw [if_neg c4] at H
 have c4b0 : (t587 == 0) = false := beq_eq_false_iff_ne.mpr c4
 have c4b1 : (t587 != 0) = true := bne_iff_ne.mpr c4
 simp only [Option.some.injEq, Prod.mk.injEq] at H
 obtain ⟨rfl, rfl, rfl⟩ := H
 go_enter Tryz.func13, Tryz.ntmps13
 go_wp2_with (first | ((with_reducible refine ql (f := 55) rfl ?_); refine q1b (some 17) rfl rfl Tryz.func55 z86_0 rfl #[.string a1] rfl z86_6 ?_; (with_reducible refine (q1g.calls k a1 t585 t586 t587 _ A3.out).mono ?_); rintro e w' ⟨rfl, ⟨nd, rfl⟩⟩; refine ⟨_, rfl, ?_⟩))
 go_ret3
 exact ⟨_, z86_7, z86_8, z86_2⟩

end Go.Proofs.YtngmipfobcaojaaGreat.HA
end

-- YtngmipfobcaojaaGreatHA109
section
namespace Go.Proofs.YtngmipfobcaojaaGreat.HA
open Go.RowKit Go.Proofs.YtngmipfobcaojaaGreatW.PrintWords Go.Proofs.YtngmipfobcaojaaGreatW.PrintLast Go.Proofs.YtngmipfobcaojaaGreatW.PrintMore
attribute [local go_sem] q1k q1j q1s q1t q1a q19 q1h q1i

def polyglotref05_Shape.f (k : Nat) (a0 : Int) : Option (Int) := (qn.f k a0).bind fun bt605 => (some bt605.1)
theorem z87_0 {p : Prop} (h : p := by repeat (first | (with_reducible first | exact HB.out | apply qg | apply qa | apply qi) | exact HB.out)) : p := h
set_option maxHeartbeats 8000000 in
set_option maxRecDepth 100000 in
theorem polyglotref05_Shape.calls (k : Nat) (a0 : Int) (r : Int) (w : World) (h : polyglotref05_Shape.f k a0 = some r) :
  Calls Tryz.prog 17 #[.int .i64 a0] w fun e w' => e = .returned (.int .i64 r) ∧ Below w.heap.size w w' := by
 have hf80_0 : ∀ (v0 v1 v2 v3 : Value) (W : World), (Instr.field 80 (.agg #[v0, v1, v2, v3]) 0).run Tryz.prog W = .ok (v0) W := fun _ _ _ _ _ => by kernel_rfl
 have HB := Aside0.mk (Below.refl w.heap.size w)
 have H : ((qn.f k a0).bind fun bt605 => (some bt605.1)) = some r := h
 clear h
 replace H := Option.bind_eq_some_iff.mp H
 obtain ⟨⟨t605, t606, t609, t610⟩, A20, H⟩ := H
 replace H : (some t605) = some r := H
 have A2 := Aside0.mk A20
 clear A20
 obtain rfl := Option.some.inj H
 go_enter Tryz.func17, Tryz.ntmps17
 go_wp2_with (first | ((with_reducible refine ql (f := 59) rfl ?_); refine q1b (some 4) rfl rfl Tryz.func59 (by kernel_rfl) rfl #[.int .i64 a0] rfl (by (try simp only [List.map_toArray, List.map_cons, List.map_nil]); first | done | rfl | (simp only [List.length_drop, List.length_take]; rfl)) ?_; (with_reducible refine (qn.calls k a0 t605 t606 t609 t610 _ A2.out).mono ?_); rintro e w3 ⟨v607, rfl, ho0, hb⟩; refine ⟨_, rfl, ?_⟩; have n0_ := Aside0.mk (Kd.R_lower ho0 (qm z87_0)); have n1_ := Aside0.mk (qe z87_0 hb); clear HB; have HO608 := n0_; have HB := n1_; clear n0_ n1_; (try clear hb); (try clear hb2); (try clear hk); (try clear hi); (try clear ho0)))
 go_ret
 exact ⟨(by first | rfl | (simp [qq, qp] <;> rfl) | (simp [*, qq, qp] <;> rfl)), z87_0⟩

end Go.Proofs.YtngmipfobcaojaaGreat.HA
end

-- YtngmipfobcaojaaGreatHA111
section
namespace Go.Proofs.YtngmipfobcaojaaGreat.HA
open Go.RowKit Go.Proofs.YtngmipfobcaojaaGreatW.PrintWords Go.Proofs.YtngmipfobcaojaaGreatW.PrintLast Go.Proofs.YtngmipfobcaojaaGreatW.PrintMore
attribute [local go_sem] q1k q1j q1s q1t q1a q19 q1h q1i

def prop_Many.f (a0 : Int) (a1 : Int) : Option (Bool) := (prop_often.f a0 a1).bind fun t611 => (if t611 = true then ((prop_May.f a0 a1).bind fun t612 => (some t612)) else (some false))
theorem z88_0 {p : Prop} (h : p := by repeat (first | (with_reducible first | exact HB.out | apply qg | apply qa | apply qi) | exact HB.out)) : p := h
theorem z88_1 {p : Prop} (h : p := by (try simp only [List.map_toArray, List.map_cons, List.map_nil]); first | done | rfl | (simp only [List.length_drop, List.length_take]; rfl)) : p := h
set_option maxHeartbeats 8000000 in
set_option maxRecDepth 100000 in
theorem prop_Many.calls (a0 : Int) (a1 : Int) (r : Bool) (w : World) (h : prop_Many.f a0 a1 = some r) :
  Calls Tryz.prog 20 #[.int .i64 a0, .int .i64 a1] w fun e w' => e = .returned (.bool r) ∧ Below w.heap.size w w' := by
 have HB := Aside0.mk (Below.refl w.heap.size w)
 have H : ((prop_often.f a0 a1).bind fun t611 => (if t611 = true then ((prop_May.f a0 a1).bind fun t612 => (some t612)) else (some false))) = some r := h
 clear h
 replace H := Option.bind_eq_some_iff.mp H
 obtain ⟨t611, A30, H⟩ := H
 replace H : (if t611 = true then ((prop_May.f a0 a1).bind fun t612 => (some t612)) else (some false)) = some r := H
 have A3 := Aside0.mk A30
 clear A30
 by_cases c4 : t611 = true
 ·subst c4
  rw [if_pos rfl] at H
  replace H := Option.bind_eq_some_iff.mp H
  obtain ⟨t612, A50, H⟩ := H
  replace H : (some t612) = some r := H
  have A5 := Aside0.mk A50
  clear A50
  obtain rfl := Option.some.inj H
  go_enter Tryz.func20, Tryz.ntmps20
  go_wp2_with (first | ((with_reducible refine ql (f := 61) rfl ?_); refine q1b (some 7) rfl rfl Tryz.func61 (by kernel_rfl) rfl #[.int .i64 a0, .int .i64 a1] rfl z88_1 ?_; (with_reducible refine (prop_often.calls a0 a1 true _ A3.out).mono ?_); rintro e w' ⟨rfl, ⟨nd, rfl⟩⟩; refine ⟨_, rfl, ?_⟩) | (go_at_call 18; (with_reducible refine (prop_May.calls a0 a1 t612 _ A5.out).mono ?_); rintro e w6 ⟨rfl, hb⟩; have n0_ := Aside0.mk (qe z88_0 hb); clear HB; have HB := n0_; clear n0_; (try clear hb); (try clear hb2); (try clear hk); (try clear hi)))
  go_ret
  exact ⟨(by first | rfl | (simp [qq, qp] <;> rfl) | (simp [*, qq, qp] <;> rfl)), z88_0⟩
 replace c4 := Bool.eq_false_iff.mpr c4
 subst c4
 rw [if_neg (show ¬ (false = true) by decide)] at H
 obtain rfl := Option.some.inj H
 go_enter Tryz.func20, Tryz.ntmps20
 go_wp2_with (first | ((with_reducible refine ql (f := 61) rfl ?_); refine q1b (some 7) rfl rfl Tryz.func61 (by kernel_rfl) rfl #[.int .i64 a0, .int .i64 a1] rfl z88_1 ?_; (with_reducible refine (prop_often.calls a0 a1 false _ A3.out).mono ?_); rintro e w' ⟨rfl, ⟨nd, rfl⟩⟩; refine ⟨_, rfl, ?_⟩))
 go_ret
 exact ⟨(by first | rfl | (simp [qq, qp] <;> rfl) | (simp [*, qq, qp] <;> rfl)), z88_0⟩

end Go.Proofs.YtngmipfobcaojaaGreat.HA
end

-- YtngmipfobcaojaaGreatHA113
section
namespace Go.Proofs.YtngmipfobcaojaaGreat.HA
open Go.RowKit Go.Proofs.YtngmipfobcaojaaGreatW.PrintWords Go.Proofs.YtngmipfobcaojaaGreatW.PrintLast Go.Proofs.YtngmipfobcaojaaGreatW.PrintMore
attribute [local go_sem] q1k q1j q1s q1t q1a q19 q1h q1i

attribute [local go_sem high] eqA24
def q1u.l0 : Nat → List (S24) → List (S24) → Int → Option (Bool)
 | 0, _, _, _ => none
 | k + 1, x0, x1, x5 => if x5 < (x0.length : Int) then (if 0 ≤ x5 then (if x5 < (x1.length : Int) then (if (!(((qu x0 x5).f0) == ((qu x1 x5).f0)) || (!(((qu x0 x5).f1) == ((qu x1 x5).f1)) || (!((((qu x0 x5).f2).toList) == (((qu x1 x5).f2).toList)) || (!((((qu x0 x5).f3).toList) == (((qu x1 x5).f3).toList)))))) = true then (some false) else (q1u.l0 k x0 x1 (wrap64 (x5 + 1)))) else (none)) else (none)) else (some true)
def q1u.f (k : Nat) (l0 : List (S24)) (l1 : List (S24)) : Option (Bool) := if (l0.length : Int) = (l1.length : Int) then (q1u.l0 k l0 l1 0) else (some false)
theorem z89_0 {p : Prop} (h : p := by first | (with_reducible assumption) | assumption) : p := h
theorem z89_1 {p : Prop} (h : p := by first | rfl | (simp; done) | (simp [*]; done) | (simp; exact qh _) | exact qh _ | (simp; exact (qh _).symm) | (simp; exact q15 _)) : p := h
theorem z89_2 {p : Prop} (h : p := by repeat (first | exact Drawn0.refl _ | apply Drawn0.step)) : p := h
set_option maxHeartbeats 8000000 in
set_option maxRecDepth 100000 in
theorem q1u.calls (k : Nat) (A0 : Option Addr) (c0 : Nat) (l0 : List (S24)) (A1 : Option Addr) (c1 : Nat) (l1 : List (S24)) (r : Bool) (w : World) (hr0 : Kd.C k24 w A0 l0.length l0) (hc0 : l0.length ≤ c0) (hr1 : Kd.C k24 w A1 l1.length l1) (hc1 : l1.length ≤ c1) (h : q1u.f k l0 l1 = some r) :
  Calls Tryz.prog 26 #[.slice A0 l0.length c0, .slice A1 l1.length c1] w fun e w' => e = .returned (.bool r) ∧ Drawn0 w w' := by
 have hu24 := Tryz.underlying24
 have HR0 := Aside0.mk hr0
 have HC0 := Aside0.mk hc0
 clear hr0 hc0
 have HR1 := Aside0.mk hr1
 have HC1 := Aside0.mk hc1
 clear hr1 hc1
 have H : (if (l0.length : Int) = (l1.length : Int) then (q1u.l0 k l0 l1 0) else (some false)) = some r := h
 clear h
 by_cases c3 : (l0.length : Int) = (l1.length : Int)
 ·rw [if_pos c3] at H
  have c3b0 : ((l0.length : Int) == (l1.length : Int)) = true := beq_iff_eq.mpr c3
  have c3b1 : ((l0.length : Int) != (l1.length : Int)) = false := bne_eq_false_iff_eq.mpr c3
  have c3b2 : (l0.length == l1.length) = true := by first | simpa using c3 | (simp at c3 ⊢; omega)
  clear c3
  have H' := Aside0.mk H
  clear H
  go_enter Tryz.func26, Tryz.ntmps26
  go_wp2
  repeat (go_quiet (fail); try go_wp2)
  go_loopg [5] k (fun kq v5 w' => ∃ (x5_1 : Int), v5 = .int .i64 x5_1 ∧ Aside0 (q1u.l0 kq l0 l1 x5_1 = some r) ∧ Aside0 (kq ≤ k) ∧ Drawn0 w w')
  case atStart => exact ⟨(0), z89_1, H', ⟨Nat.le_refl _⟩, by repeat (first | exact Drawn0.refl _ | apply Drawn0.step)⟩
  case round =>
   clear H'
   clear c3b0 c3b1 c3b2
   obtain ⟨x5_1, rfl, HA, HK1, ⟨m1, rfl⟩⟩ := hrel
   cases gk with
   | zero => exact absurd HA.out (by simp [q1u.l0])
   | succ k1 =>
    have H := HA.out
    clear HA
    simp only [q1u.l0] at H
    by_cases c4 : x5_1 < (l0.length : Int)
    ·rw [if_pos c4] at H
     have c4b0 : decide (x5_1 < (l0.length : Int)) = true := decide_eq_true c4
     clear c4
     by_cases c5 : 0 ≤ x5_1
     ·rw [if_pos c5] at H
      have c5b0 : decide (0 ≤ x5_1) = true := decide_eq_true c5
      clear c5
      by_cases c6 : x5_1 < (l1.length : Int)
      ·rw [if_pos c6] at H
       have c6b0 : decide (x5_1 < (l1.length : Int)) = true := decide_eq_true c6
       clear c6
       by_cases c7 : (!(((qu l0 x5_1).f0) == ((qu l1 x5_1).f0)) || (!(((qu l0 x5_1).f1) == ((qu l1 x5_1).f1)) || (!((((qu l0 x5_1).f2).toList) == (((qu l1 x5_1).f2).toList)) || (!((((qu l0 x5_1).f3).toList) == (((qu l1 x5_1).f3).toList)))))) = true
       ·rw [if_pos c7] at H
        have c7b0 : (!(((qu l0 x5_1).f0) == ((qu l1 x5_1).f0)) || (!(((qu l0 x5_1).f1) == ((qu l1 x5_1).f1)) || (!((((qu l0 x5_1).f2).toList) == (((qu l1 x5_1).f2).toList)) || (!((((qu l0 x5_1).f3).toList) == (((qu l1 x5_1).f3).toList)))))) = true := c7
        clear c7
        obtain rfl := Option.some.inj H
        have p613 : 0 ≤ (x5_1 : Int) := of_decide_eq_true z89_0
        have q613 : x5_1 < (l0.length : Int) := of_decide_eq_true z89_0
        obtain ⟨ad613, e613, hx613_0, hx613_1, hx613_2, hx613_3⟩ := at_T24 HR0.out x5_1 p613 q613
        cases e613
        replace p613 := eq_true p613
        replace q613 := eq_true q613
        have p614 : 0 ≤ (x5_1 : Int) := of_decide_eq_true z89_0
        have q614 : x5_1 < (l1.length : Int) := of_decide_eq_true z89_0
        obtain ⟨ad614, e614, hx614_0, hx614_1, hx614_2, hx614_3⟩ := at_T24 HR1.out x5_1 p614 q614
        cases e614
        replace p614 := eq_true p614
        replace q614 := eq_true q614
        go_wp2
        repeat (go_quiet (fail); try go_wp2)
        go_ret
        exact ⟨z89_1, z89_2⟩
       rw [if_neg c7] at H
       have c7b0 : (!(((qu l0 x5_1).f0) == ((qu l1 x5_1).f0)) || (!(((qu l0 x5_1).f1) == ((qu l1 x5_1).f1)) || (!((((qu l0 x5_1).f2).toList) == (((qu l1 x5_1).f2).toList)) || (!((((qu l0 x5_1).f3).toList) == (((qu l1 x5_1).f3).toList)))))) = false := by simpa using c7
       clear c7
       have H' := Aside0.mk H
       clear H
       have p613 : 0 ≤ (x5_1 : Int) := of_decide_eq_true z89_0
       have q613 : x5_1 < (l0.length : Int) := of_decide_eq_true z89_0
       obtain ⟨ad613, e613, hx613_0, hx613_1, hx613_2, hx613_3⟩ := at_T24 HR0.out x5_1 p613 q613
       cases e613
       replace p613 := eq_true p613
       replace q613 := eq_true q613
       have p614 : 0 ≤ (x5_1 : Int) := of_decide_eq_true z89_0
       have q614 : x5_1 < (l1.length : Int) := of_decide_eq_true z89_0
       obtain ⟨ad614, e614, hx614_0, hx614_1, hx614_2, hx614_3⟩ := at_T24 HR1.out x5_1 p614 q614
       cases e614
       replace p614 := eq_true p614
       replace q614 := eq_true q614
       go_wp2
       repeat (go_quiet (fail); try go_wp2)
       go_roundg k1
       case measure => have := HK1.out; omega
       case rel => exact ⟨(wrap64 (x5_1 + 1)), z89_1, H', ⟨by have := HK1.out; omega⟩, by repeat (first | exact Drawn0.refl _ | apply Drawn0.step)⟩
      rw [if_neg c6] at H
      exact absurd H (by simp)
     rw [if_neg c5] at H
     exact absurd H (by simp)
    rw [if_neg c4] at H
    have c4b0 : decide (x5_1 < (l0.length : Int)) = false := decide_eq_false c4
    clear c4
    obtain rfl := Option.some.inj H
    go_wp2
    repeat (go_quiet (fail); try go_wp2)
    go_ret
    exact ⟨z89_1, z89_2⟩
 rw [if_neg c3] at H
 have c3b0 : ((l0.length : Int) == (l1.length : Int)) = false := beq_eq_false_iff_ne.mpr c3
 have c3b1 : ((l0.length : Int) != (l1.length : Int)) = true := bne_iff_ne.mpr c3
 have c3b2 : (l0.length == l1.length) = false := by first | simpa using c3 | (simp at c3 ⊢; omega)
 obtain rfl := Option.some.inj H
 go_enter Tryz.func26, Tryz.ntmps26
 go_wp2
 repeat (go_quiet (fail); try go_wp2)
 go_ret
 exact ⟨z89_1, z89_2⟩

end Go.Proofs.YtngmipfobcaojaaGreat.HA
end

-- YtngmipfobcaojaaGreatHA114
section
namespace Go.Proofs.YtngmipfobcaojaaGreat.HA
open Go.RowKit Go.Proofs.YtngmipfobcaojaaGreatW.PrintWords Go.Proofs.YtngmipfobcaojaaGreatW.PrintLast Go.Proofs.YtngmipfobcaojaaGreatW.PrintMore
attribute [local go_sem] q1k q1j q1s q1t q1a q19 q1h q1i

attribute [local go_sem high] eqA24
def q1n.l0 : Nat → List (S24) → List (S24) → Int → Int → Option (Bool)
 | 0, _, _, _, _ => none
 | k + 1, x0, x1, x12, x13 => if x13 < x12 then (if 0 ≤ x13 then (if x13 < (x0.length : Int) then (if x13 < (x1.length : Int) then (if (!(((qu x0 x13).f0) == ((qu x1 x13).f0)) || (!(((qu x0 x13).f1) == ((qu x1 x13).f1)) || (!((((qu x0 x13).f2).toList) == (((qu x1 x13).f2).toList)) || (!((((qu x0 x13).f3).toList) == (((qu x1 x13).f3).toList)))))) = true then (some false) else (q1n.l0 k x0 x1 x12 (wrap64 (x13 + 1)))) else (none)) else (none)) else (none)) else (some true)
def q1n.f (k : Nat) (l0 : List (S24)) (l1 : List (S24)) : Option (Bool) := if (l0.length : Int) = (l1.length : Int) then (q1n.l0 k l0 l1 (l0.length : Int) 0) else (some false)
theorem z90_0 {p : Prop} (h : p := by first | (with_reducible assumption) | assumption) : p := h
theorem z90_1 {p : Prop} (h : p := by first | rfl | (simp; done) | (simp [*]; done) | (simp; exact qh _) | exact qh _ | (simp; exact (qh _).symm) | (simp; exact q15 _)) : p := h
theorem z90_2 {p : Prop} (h : p := by repeat (first | exact Drawn0.refl _ | apply Drawn0.step)) : p := h
set_option maxHeartbeats 8000000 in
set_option maxRecDepth 100000 in
theorem q1n.calls (k : Nat) (A0 : Option Addr) (c0 : Nat) (l0 : List (S24)) (A1 : Option Addr) (c1 : Nat) (l1 : List (S24)) (r : Bool) (w : World) (hr0 : Kd.C k24 w A0 l0.length l0) (hc0 : l0.length ≤ c0) (hr1 : Kd.C k24 w A1 l1.length l1) (hc1 : l1.length ≤ c1) (h : q1n.f k l0 l1 = some r) :
  Calls Tryz.prog 27 #[.slice A0 l0.length c0, .slice A1 l1.length c1] w fun e w' => e = .returned (.bool r) ∧ Drawn0 w w' := by
 have hu24 := Tryz.underlying24
 have HR0 := Aside0.mk hr0
 have HC0 := Aside0.mk hc0
 clear hr0 hc0
 have HR1 := Aside0.mk hr1
 have HC1 := Aside0.mk hc1
 clear hr1 hc1
 have H : (if (l0.length : Int) = (l1.length : Int) then (q1n.l0 k l0 l1 (l0.length : Int) 0) else (some false)) = some r := h
 clear h
 by_cases c3 : (l0.length : Int) = (l1.length : Int)
 ·rw [if_pos c3] at H
  have c3b0 : ((l0.length : Int) == (l1.length : Int)) = true := beq_iff_eq.mpr c3
  have c3b1 : ((l0.length : Int) != (l1.length : Int)) = false := bne_eq_false_iff_eq.mpr c3
  have c3b2 : (l0.length == l1.length) = true := by first | simpa using c3 | (simp at c3 ⊢; omega)
  clear c3
  have H' := Aside0.mk H
  clear H
  go_enter Tryz.func27, Tryz.ntmps27
  go_wp2
  repeat (go_quiet (fail); try go_wp2)
  go_loopg [13] k (fun kq v13 w' => ∃ (x13_1 : Int), v13 = .int .i64 x13_1 ∧ Aside0 (q1n.l0 kq l0 l1 (l0.length : Int) x13_1 = some r) ∧ Aside0 (kq ≤ k) ∧ Drawn0 w w')
  case atStart => exact ⟨(0), z90_1, H', ⟨Nat.le_refl _⟩, by repeat (first | exact Drawn0.refl _ | apply Drawn0.step)⟩
  case round =>
   clear H'
   clear c3b0 c3b1 c3b2
   obtain ⟨x13_1, rfl, HA, HK1, ⟨m1, rfl⟩⟩ := hrel
   cases gk with
   | zero => exact absurd HA.out (by simp [q1n.l0])
   | succ k1 =>
    have H := HA.out
    clear HA
    simp only [q1n.l0] at H
    by_cases c4 : x13_1 < (l0.length : Int)
    ·rw [if_pos c4] at H
     have c4b0 : decide (x13_1 < (l0.length : Int)) = true := decide_eq_true c4
     clear c4
     by_cases c5 : 0 ≤ x13_1
     ·rw [if_pos c5] at H
      have c5b0 : decide (0 ≤ x13_1) = true := decide_eq_true c5
      clear c5
      by_cases c6 : x13_1 < (l0.length : Int)
      ·rw [if_pos c6] at H
       have c6b0 : decide (x13_1 < (l0.length : Int)) = true := decide_eq_true c6
       clear c6
       by_cases c7 : x13_1 < (l1.length : Int)
       ·rw [if_pos c7] at H
        have c7b0 : decide (x13_1 < (l1.length : Int)) = true := decide_eq_true c7
        clear c7
        by_cases c8 : (!(((qu l0 x13_1).f0) == ((qu l1 x13_1).f0)) || (!(((qu l0 x13_1).f1) == ((qu l1 x13_1).f1)) || (!((((qu l0 x13_1).f2).toList) == (((qu l1 x13_1).f2).toList)) || (!((((qu l0 x13_1).f3).toList) == (((qu l1 x13_1).f3).toList)))))) = true
        ·rw [if_pos c8] at H
         have c8b0 : (!(((qu l0 x13_1).f0) == ((qu l1 x13_1).f0)) || (!(((qu l0 x13_1).f1) == ((qu l1 x13_1).f1)) || (!((((qu l0 x13_1).f2).toList) == (((qu l1 x13_1).f2).toList)) || (!((((qu l0 x13_1).f3).toList) == (((qu l1 x13_1).f3).toList)))))) = true := c8
         clear c8
         obtain rfl := Option.some.inj H
         have p615 : 0 ≤ (x13_1 : Int) := of_decide_eq_true z90_0
         have q615 : x13_1 < (l0.length : Int) := of_decide_eq_true z90_0
         obtain ⟨ad615, e615, hx615_0, hx615_1, hx615_2, hx615_3⟩ := at_T24 HR0.out x13_1 p615 q615
         cases e615
         replace p615 := eq_true p615
         replace q615 := eq_true q615
         have p616 : 0 ≤ (x13_1 : Int) := of_decide_eq_true z90_0
         have q616 : x13_1 < (l1.length : Int) := of_decide_eq_true z90_0
         obtain ⟨ad616, e616, hx616_0, hx616_1, hx616_2, hx616_3⟩ := at_T24 HR1.out x13_1 p616 q616
         cases e616
         replace p616 := eq_true p616
         replace q616 := eq_true q616
         go_wp2
         repeat (go_quiet (fail); try go_wp2)
         go_ret
         exact ⟨z90_1, z90_2⟩
        rw [if_neg c8] at H
        have c8b0 : (!(((qu l0 x13_1).f0) == ((qu l1 x13_1).f0)) || (!(((qu l0 x13_1).f1) == ((qu l1 x13_1).f1)) || (!((((qu l0 x13_1).f2).toList) == (((qu l1 x13_1).f2).toList)) || (!((((qu l0 x13_1).f3).toList) == (((qu l1 x13_1).f3).toList)))))) = false := by simpa using c8
        clear c8
        have H' := Aside0.mk H
        clear H
        have p615 : 0 ≤ (x13_1 : Int) := of_decide_eq_true z90_0
        have q615 : x13_1 < (l0.length : Int) := of_decide_eq_true z90_0
        obtain ⟨ad615, e615, hx615_0, hx615_1, hx615_2, hx615_3⟩ := at_T24 HR0.out x13_1 p615 q615
        cases e615
        replace p615 := eq_true p615
        replace q615 := eq_true q615
        have p616 : 0 ≤ (x13_1 : Int) := of_decide_eq_true z90_0
        have q616 : x13_1 < (l1.length : Int) := of_decide_eq_true z90_0
        obtain ⟨ad616, e616, hx616_0, hx616_1, hx616_2, hx616_3⟩ := at_T24 HR1.out x13_1 p616 q616
        cases e616
        replace p616 := eq_true p616
        replace q616 := eq_true q616
        go_wp2
        repeat (go_quiet (fail); try go_wp2)
        go_roundg k1
        case measure => have := HK1.out; omega
        case rel => exact ⟨(wrap64 (x13_1 + 1)), z90_1, H', ⟨by have := HK1.out; omega⟩, by repeat (first | exact Drawn0.refl _ | apply Drawn0.step)⟩
       rw [if_neg c7] at H
       exact absurd H (by simp)
      rw [if_neg c6] at H
      exact absurd H (by simp)
     rw [if_neg c5] at H
     exact absurd H (by simp)
    rw [if_neg c4] at H
    have c4b0 : decide (x13_1 < (l0.length : Int)) = false := decide_eq_false c4
    clear c4
    obtain rfl := Option.some.inj H
    go_wp2
    repeat (go_quiet (fail); try go_wp2)
    go_ret
    exact ⟨z90_1, z90_2⟩
 rw [if_neg c3] at H
 have c3b0 : ((l0.length : Int) == (l1.length : Int)) = false := beq_eq_false_iff_ne.mpr c3
 have c3b1 : ((l0.length : Int) != (l1.length : Int)) = true := bne_iff_ne.mpr c3
 have c3b2 : (l0.length == l1.length) = false := by first | simpa using c3 | (simp at c3 ⊢; omega)
 obtain rfl := Option.some.inj H
 go_enter Tryz.func27, Tryz.ntmps27
 go_wp2
 repeat (go_quiet (fail); try go_wp2)
 go_ret
 exact ⟨z90_1, z90_2⟩

end Go.Proofs.YtngmipfobcaojaaGreat.HA
end

-- YtngmipfobcaojaaGreatHA115
section
namespace Go.Proofs.YtngmipfobcaojaaGreat.HA
open Go.RowKit Go.Proofs.YtngmipfobcaojaaGreatW.PrintWords Go.Proofs.YtngmipfobcaojaaGreatW.PrintLast Go.Proofs.YtngmipfobcaojaaGreatW.PrintMore
attribute [local go_sem] q1k q1j q1s q1t q1a q19 q1h q1i

attribute [local go_sem high] eqA24
def q11.l0 : Nat → List (S24) → List (S24) → Int → Option (Bool)
 | 0, _, _, _ => none
 | k + 1, x0, x1, x5 => if x5 < (x0.length : Int) then (if 0 ≤ x5 then (if x5 < (x1.length : Int) then (if (!(((qu x0 x5).f0) == ((qu x1 x5).f0)) || (!(((qu x0 x5).f1) == ((qu x1 x5).f1)) || (!((((qu x0 x5).f2).toList) == (((qu x1 x5).f2).toList)) || (!((((qu x0 x5).f3).toList) == (((qu x1 x5).f3).toList)))))) = true then (some false) else (q11.l0 k x0 x1 (wrap64 (x5 + 1)))) else (none)) else (none)) else (some true)
def q11.f (k : Nat) (l0 : List (S24)) (l1 : List (S24)) : Option (Bool) := if (l0.length : Int) = (l1.length : Int) then (q11.l0 k l0 l1 0) else (some false)
theorem z91_0 {p : Prop} (h : p := by first | (with_reducible assumption) | assumption) : p := h
theorem z91_1 {p : Prop} (h : p := by first | rfl | (simp; done) | (simp [*]; done) | (simp; exact qh _) | exact qh _ | (simp; exact (qh _).symm) | (simp; exact q15 _)) : p := h
theorem z91_2 {p : Prop} (h : p := by repeat (first | exact Drawn0.refl _ | apply Drawn0.step)) : p := h
set_option maxHeartbeats 8000000 in
set_option maxRecDepth 100000 in
theorem q11.calls (k : Nat) (A0 : Option Addr) (c0 : Nat) (l0 : List (S24)) (A1 : Option Addr) (c1 : Nat) (l1 : List (S24)) (r : Bool) (w : World) (hr0 : Kd.C k24 w A0 l0.length l0) (hc0 : l0.length ≤ c0) (hr1 : Kd.C k24 w A1 l1.length l1) (hc1 : l1.length ≤ c1) (h : q11.f k l0 l1 = some r) :
  Calls Tryz.prog 28 #[.slice A0 l0.length c0, .slice A1 l1.length c1] w fun e w' => e = .returned (.bool r) ∧ Drawn0 w w' := by
 have hu24 := Tryz.underlying24
 have HR0 := Aside0.mk hr0
 have HC0 := Aside0.mk hc0
 clear hr0 hc0
 have HR1 := Aside0.mk hr1
 have HC1 := Aside0.mk hc1
 clear hr1 hc1
 have H : (if (l0.length : Int) = (l1.length : Int) then (q11.l0 k l0 l1 0) else (some false)) = some r := h
 clear h
 by_cases c3 : (l0.length : Int) = (l1.length : Int)
 ·rw [if_pos c3] at H
  have c3b0 : ((l0.length : Int) == (l1.length : Int)) = true := beq_iff_eq.mpr c3
  have c3b1 : ((l0.length : Int) != (l1.length : Int)) = false := bne_eq_false_iff_eq.mpr c3
  have c3b2 : (l0.length == l1.length) = true := by first | simpa using c3 | (simp at c3 ⊢; omega)
  clear c3
  have H' := Aside0.mk H
  clear H
  go_enter Tryz.func28, Tryz.ntmps28
  go_wp2
  repeat (go_quiet (fail); try go_wp2)
  go_loopg [5] k (fun kq v5 w' => ∃ (x5_1 : Int), v5 = .int .i64 x5_1 ∧ Aside0 (q11.l0 kq l0 l1 x5_1 = some r) ∧ Aside0 (kq ≤ k) ∧ Drawn0 w w')
  case atStart => exact ⟨(0), z91_1, H', ⟨Nat.le_refl _⟩, by repeat (first | exact Drawn0.refl _ | apply Drawn0.step)⟩
  case round =>
   clear H'
   clear c3b0 c3b1 c3b2
   obtain ⟨x5_1, rfl, HA, HK1, ⟨m1, rfl⟩⟩ := hrel
   cases gk with
   | zero => exact absurd HA.out (by simp [q11.l0])
   | succ k1 =>
    have H := HA.out
    clear HA
    simp only [q11.l0] at H
    by_cases c4 : x5_1 < (l0.length : Int)
    ·rw [if_pos c4] at H
     have c4b0 : decide (x5_1 < (l0.length : Int)) = true := decide_eq_true c4
     clear c4
     by_cases c5 : 0 ≤ x5_1
     ·rw [if_pos c5] at H
      have c5b0 : decide (0 ≤ x5_1) = true := decide_eq_true c5
      clear c5
      by_cases c6 : x5_1 < (l1.length : Int)
      ·rw [if_pos c6] at H
       have c6b0 : decide (x5_1 < (l1.length : Int)) = true := decide_eq_true c6
       clear c6
       by_cases c7 : (!(((qu l0 x5_1).f0) == ((qu l1 x5_1).f0)) || (!(((qu l0 x5_1).f1) == ((qu l1 x5_1).f1)) || (!((((qu l0 x5_1).f2).toList) == (((qu l1 x5_1).f2).toList)) || (!((((qu l0 x5_1).f3).toList) == (((qu l1 x5_1).f3).toList)))))) = true
       ·rw [if_pos c7] at H
        have c7b0 : (!(((qu l0 x5_1).f0) == ((qu l1 x5_1).f0)) || (!(((qu l0 x5_1).f1) == ((qu l1 x5_1).f1)) || (!((((qu l0 x5_1).f2).toList) == (((qu l1 x5_1).f2).toList)) || (!((((qu l0 x5_1).f3).toList) == (((qu l1 x5_1).f3).toList)))))) = true := c7
        clear c7
        obtain rfl := Option.some.inj H
        have p617 : 0 ≤ (x5_1 : Int) := of_decide_eq_true z91_0
        have q617 : x5_1 < (l0.length : Int) := of_decide_eq_true z91_0
        obtain ⟨ad617, e617, hx617_0, hx617_1, hx617_2, hx617_3⟩ := at_T24 HR0.out x5_1 p617 q617
        cases e617
        replace p617 := eq_true p617
        replace q617 := eq_true q617
        have p618 : 0 ≤ (x5_1 : Int) := of_decide_eq_true z91_0
        have q618 : x5_1 < (l1.length : Int) := of_decide_eq_true z91_0
        obtain ⟨ad618, e618, hx618_0, hx618_1, hx618_2, hx618_3⟩ := at_T24 HR1.out x5_1 p618 q618
        cases e618
        replace p618 := eq_true p618
        replace q618 := eq_true q618
        go_wp2
        repeat (go_quiet (fail); try go_wp2)
        go_ret
        exact ⟨z91_1, z91_2⟩
       rw [if_neg c7] at H
       have c7b0 : (!(((qu l0 x5_1).f0) == ((qu l1 x5_1).f0)) || (!(((qu l0 x5_1).f1) == ((qu l1 x5_1).f1)) || (!((((qu l0 x5_1).f2).toList) == (((qu l1 x5_1).f2).toList)) || (!((((qu l0 x5_1).f3).toList) == (((qu l1 x5_1).f3).toList)))))) = false := by simpa using c7
       clear c7
       have H' := Aside0.mk H
       clear H
       have p617 : 0 ≤ (x5_1 : Int) := of_decide_eq_true z91_0
       have q617 : x5_1 < (l0.length : Int) := of_decide_eq_true z91_0
       obtain ⟨ad617, e617, hx617_0, hx617_1, hx617_2, hx617_3⟩ := at_T24 HR0.out x5_1 p617 q617
       cases e617
       replace p617 := eq_true p617
       replace q617 := eq_true q617
       have p618 : 0 ≤ (x5_1 : Int) := of_decide_eq_true z91_0
       have q618 : x5_1 < (l1.length : Int) := of_decide_eq_true z91_0
       obtain ⟨ad618, e618, hx618_0, hx618_1, hx618_2, hx618_3⟩ := at_T24 HR1.out x5_1 p618 q618
       cases e618
       replace p618 := eq_true p618
       replace q618 := eq_true q618
       go_wp2
       repeat (go_quiet (fail); try go_wp2)
       go_roundg k1
       case measure => have := HK1.out; omega
       case rel => exact ⟨(wrap64 (x5_1 + 1)), z91_1, H', ⟨by have := HK1.out; omega⟩, by repeat (first | exact Drawn0.refl _ | apply Drawn0.step)⟩
      rw [if_neg c6] at H
      exact absurd H (by simp)
     rw [if_neg c5] at H
     exact absurd H (by simp)
    rw [if_neg c4] at H
    have c4b0 : decide (x5_1 < (l0.length : Int)) = false := decide_eq_false c4
    clear c4
    obtain rfl := Option.some.inj H
    go_wp2
    repeat (go_quiet (fail); try go_wp2)
    go_ret
    exact ⟨z91_1, z91_2⟩
 rw [if_neg c3] at H
 have c3b0 : ((l0.length : Int) == (l1.length : Int)) = false := beq_eq_false_iff_ne.mpr c3
 have c3b1 : ((l0.length : Int) != (l1.length : Int)) = true := bne_iff_ne.mpr c3
 have c3b2 : (l0.length == l1.length) = false := by first | simpa using c3 | (simp at c3 ⊢; omega)
 obtain rfl := Option.some.inj H
 go_enter Tryz.func28, Tryz.ntmps28
 go_wp2
 repeat (go_quiet (fail); try go_wp2)
 go_ret
 exact ⟨z91_1, z91_2⟩

end Go.Proofs.YtngmipfobcaojaaGreat.HA
end

-- YtngmipfobcaojaaGreatHA38
section
namespace Go.Proofs.YtngmipfobcaojaaGreat.HA
open Go.RowKit Go.Proofs.YtngmipfobcaojaaGreatW.PrintWords Go.Proofs.YtngmipfobcaojaaGreatW.PrintLast Go.Proofs.YtngmipfobcaojaaGreatW.PrintMore
attribute [local go_sem] q1k q1j q1s q1t q1a q19 q1h q1i

def prop_Valid.f (a0 : Int) (l1 : List (S24)) : Option (Int) := (prop_Bytes.f a0 l1).bind fun bt141 => (some bt141.2)
theorem z92_0 {p : Prop} (h : p := by repeat (first | (with_reducible first | exact HB.out | apply qg | apply qa | apply qi) | exact HB.out)) : p := h
set_option maxHeartbeats 8000000 in
set_option maxRecDepth 100000 in
theorem prop_Valid.calls (a0 : Int) (A1 : Option Addr) (c1 : Nat) (l1 : List (S24)) (r : Int) (w : World) (hr1 : Kd.C k24 w A1 l1.length l1) (hc1 : l1.length ≤ c1) (h : prop_Valid.f a0 l1 = some r) :
  Calls Tryz.prog 24 #[.int .i64 a0, .slice A1 l1.length c1] w fun e w' => e = .returned (.int .i64 r) ∧ Below w.heap.size w w' := by
 have HR1 := Aside0.mk hr1
 have HC1 := Aside0.mk hc1
 clear hr1 hc1
 have HB := Aside0.mk (Below.refl w.heap.size w)
 have H : ((prop_Bytes.f a0 l1).bind fun bt141 => (some bt141.2)) = some r := h
 clear h
 replace H := Option.bind_eq_some_iff.mp H
 obtain ⟨⟨t141, t142⟩, A30, H⟩ := H
 replace H : (some t142) = some r := H
 have A3 := Aside0.mk A30
 clear A30
 obtain rfl := Option.some.inj H
 go_enter Tryz.func24, Tryz.ntmps24
 go_wp2_with (first | ((with_reducible refine ql (f := 9) rfl ?_); refine q1b (some 10) rfl rfl Tryz.func9 (by kernel_rfl) rfl #[.int .i64 a0, .slice A1 l1.length c1] rfl (by (try simp only [List.map_toArray, List.map_cons, List.map_nil]); first | done | rfl | (simp only [List.length_drop, List.length_take]; rfl)) ?_; (with_reducible refine (prop_Bytes.calls a0 _ _ l1 t141 t142 _ ?side1 ?side2 A3.out).mono ?_); (case side1 => repeat (first | exact HR1.out | (with_reducible refine Kd.C_alloc ?_ _) | (with_reducible refine Kd.C_drewN ?_ _) | (with_reducible refine Kd.C_drew ?_))); (case side2 => exact HC1.out); rintro e w4 ⟨rfl, hb⟩; refine ⟨_, rfl, ?_⟩; have n0_ := Aside0.mk (qe z92_0 hb); clear HB; have HB := n0_; clear n0_; (try clear hb); (try clear hb2); (try clear hk); (try clear hi)))
 go_ret
 exact ⟨(by first | rfl | (simp [qq, qp] <;> rfl) | (simp [*, qq, qp] <;> rfl)), z92_0⟩

end Go.Proofs.YtngmipfobcaojaaGreat.HA
end

-- YtngmipfobcaojaaGreatHA55
section
namespace Go.Proofs.YtngmipfobcaojaaGreat.HA
open Go.RowKit Go.Proofs.YtngmipfobcaojaaGreatW.PrintWords Go.Proofs.YtngmipfobcaojaaGreatW.PrintLast Go.Proofs.YtngmipfobcaojaaGreatW.PrintMore
attribute [local go_sem] q1k q1j q1s q1t q1a q19 q1h q1i

def prop_Get.l0 : Nat → Int → List (S24) → Int → Int → Option (Int × Int × ByteArray × ByteArray × Bool)
 | 0, _, _, _, _ => none
 | k + 1, x1, x8, x9, x10 => if x10 < x9 then (if 0 ≤ x10 then (if x10 < (x8.length : Int) then (if ((qu x8 x10).f0) = x1 then (some ((qu x8 x10).f0, (qu x8 x10).f1, (qu x8 x10).f2, (qu x8 x10).f3, true)) else (prop_Get.l0 k x1 x8 x9 (wrap64 (x10 + 1)))) else (none)) else (none)) else (some (0, 0, (⟨#[]⟩ : ByteArray), (⟨#[]⟩ : ByteArray), false))
def prop_Get.f (k : Nat) (l0 : List (S24)) (a1 : Int) : Option (Int × Int × ByteArray × ByteArray × Bool) := prop_Get.l0 k a1 l0 (l0.length : Int) 0
theorem z93_0 {p : Prop} (h : p := by repeat (first | (with_reducible first | exact HB.out | apply qg | apply qa | apply qi | refine qw ?_ GE208.out) | exact HB.out)) : p := h
theorem z93_1 {p : Prop} (h : p := by (with_reducible repeat (first | refine qd ?_ _ | refine qf ?_ | refine qc ?_ _)); exact BK208.out) : p := h
theorem z93_2 {p : Prop} (h : p := by first | (with_reducible assumption) | assumption) : p := h
theorem z93_3 {p : Prop} (h : p := by repeat (first | (with_reducible first | exact HB.out | apply qg | apply qa | apply qi) | exact HB.out)) : p := h
theorem z93_4 {p : Prop} (h : p := by first | rfl | (simp; done) | (simp [*]; done) | (simp; exact qh _) | exact qh _ | (simp; exact (qh _).symm) | (simp; exact q15 _)) : p := h
set_option maxHeartbeats 8000000 in
set_option maxRecDepth 100000 in
theorem prop_Get.calls (k : Nat) (A0 : Option Addr) (c0 : Nat) (l0 : List (S24)) (a1 : Int) (r1 : Int) (r2 : Int) (r3 : ByteArray) (r4 : ByteArray) (r5 : Bool) (w : World) (hr0 : Kd.C k24 w A0 l0.length l0) (hc0 : l0.length ≤ c0) (h : prop_Get.f k l0 a1 = some (r1, r2, r3, r4, r5)) :
  Calls Tryz.prog 14 #[.slice A0 l0.length c0, .int .i64 a1] w fun e w' => e = .returned (.tuple #[.agg #[.int .i64 r1, .int .u32 r2, .string r3, .string r4], .bool r5]) ∧ Below w.heap.size w w' := by
 have hu24 := Tryz.underlying24
 have HR0 := Aside0.mk hr0
 have HC0 := Aside0.mk hc0
 clear hr0 hc0
 have HB := Aside0.mk (Below.refl w.heap.size w)
 have H : (prop_Get.l0 k a1 l0 (l0.length : Int) 0) = some (r1, r2, r3, r4, r5) := h
 clear h
 have H' := Aside0.mk H
 clear H
 go_enter Tryz.func14, Tryz.ntmps14
 go_wp2_with (first | ((with_reducible refine q1c (N := 4) rfl ?_); refine q1r ?hg (N := 4) ?hd (cs := #[.int .i64 0, .int .u32 0, .string (⟨#[]⟩ : ByteArray), .string (⟨#[]⟩ : ByteArray)]) (t := 24) ?hr ?_; (case hd => rfl); (case hg => rfl); (case hr => first | (go_simp; done) | (go_simp; rfl)); intro gb208 hg w3 hbox hb; have n0_ := Aside0.mk (qe z93_3 hb); have n1_ := Aside0.mk (hbox); have n2_ := Aside0.mk ((by rw [hg]; exact (qm z93_3) : w.heap.size ≤ gb208)); have n3_ := Aside0.mk ((by rw [hg]; exact (qm z93_3) : w.heap.size ≤ gb208)); clear HB; have HB := n0_; have BK208 := n1_; have GW208 := n2_; have GE208 := n3_; clear n0_ n1_ n2_ n3_; clear hb hbox hg))
 go_loopg [10] k (fun kq v10 w' => ∃ (x10_1 : Int) (x209000_1 : Int) (x209001_1 : Int) (x209002_1 : ByteArray) (x209003_1 : ByteArray), v10 = .int .i64 x10_1 ∧ Aside0 (prop_Get.l0 kq a1 l0 (l0.length : Int) x10_1 = some (r1, r2, r3, r4, r5)) ∧ Aside0 (kq ≤ k) ∧ Aside0 (w'.heap[gb208]? = some (.cells #[.int .i64 x209000_1, .int .u32 x209001_1, .string x209002_1, .string x209003_1] 24 (0, 0))) ∧ Aside0 (Below w.heap.size w w'))
 case atStart => exact ⟨(0), (0), (0), ((⟨#[]⟩ : ByteArray)), ((⟨#[]⟩ : ByteArray)), z93_4, H', ⟨Nat.le_refl _⟩, ⟨z93_1⟩, ⟨z93_0⟩⟩
 case round =>
  clear H'
  obtain ⟨x10_1, x209000_1, x209001_1, x209002_1, x209003_1, rfl, HA, HK1, BK208, HB⟩ := hrel
  cases gk with
  | zero => exact absurd HA.out (by simp [prop_Get.l0])
  | succ k1 =>
   have H := HA.out
   clear HA
   simp only [prop_Get.l0] at H
   by_cases c4 : x10_1 < (l0.length : Int)
   ·rw [if_pos c4] at H
    have c4b0 : decide (x10_1 < (l0.length : Int)) = true := decide_eq_true c4
    clear c4
    by_cases c5 : 0 ≤ x10_1
    ·rw [if_pos c5] at H
     have c5b0 : decide (0 ≤ x10_1) = true := decide_eq_true c5
     clear c5
     by_cases c6 : x10_1 < (l0.length : Int)
     ·rw [if_pos c6] at H
      have c6b0 : decide (x10_1 < (l0.length : Int)) = true := decide_eq_true c6
      clear c6
      by_cases c7 : ((qu l0 x10_1).f0) = a1
      ·rw [if_pos c7] at H
       have c7b0 : (((qu l0 x10_1).f0) == a1) = true := beq_iff_eq.mpr c7
       have c7b1 : (((qu l0 x10_1).f0) != a1) = false := bne_eq_false_iff_eq.mpr c7
       clear c7
       simp only [Option.some.injEq, Prod.mk.injEq] at H
       obtain ⟨rfl, rfl, rfl, rfl, rfl⟩ := H
       have p209 : 0 ≤ (x10_1 : Int) := of_decide_eq_true z93_2
       have q209 : x10_1 < (l0.length : Int) := of_decide_eq_true z93_2
       obtain ⟨ad209, e209, hx209_0, hx209_1, hx209_2, hx209_3⟩ := at_T24 HR0.out x10_1 p209 q209
       cases e209
       replace hx209_0 := (HB.out.cell (World.block_lt_of_cell? w _ hx209_0)).trans hx209_0
       replace hx209_1 := (HB.out.cell (World.block_lt_of_cell? w _ hx209_1)).trans hx209_1
       replace hx209_2 := (HB.out.cell (World.block_lt_of_cell? w _ hx209_2)).trans hx209_2
       replace hx209_3 := (HB.out.cell (World.block_lt_of_cell? w _ hx209_3)).trans hx209_3
       replace p209 := eq_true p209
       replace q209 := eq_true q209
       go_wp2_with (first | ((with_reducible refine q1c (N := 7) rfl ?_); refine q1r ?hg (N := 7) ?hd (cs := #[.int .i64 0, .int .u32 0, .string (⟨#[]⟩ : ByteArray), .string (⟨#[]⟩ : ByteArray)]) (t := 24) ?hr ?_; (case hd => rfl); (case hg => rfl); (case hr => first | (go_simp; done) | (go_simp; rfl)); intro gb210 hg w8 hbox hb; have n0_ := Aside0.mk (qo (g := gb208) (o := .cells #[.int .i64 x209000_1, .int .u32 x209001_1, .string x209002_1, .string x209003_1] 24 (0, 0)) z93_1 hb); have n1_ := Aside0.mk (qe z93_0 hb); have n2_ := Aside0.mk (hbox); have n3_ := Aside0.mk ((by rw [hg]; exact (qm z93_0) : w.heap.size ≤ gb210)); have n4_ := Aside0.mk ((by rw [hg]; exact (qm z93_0) : w.heap.size ≤ gb210)); have n5_ := Aside0.mk ((by rw [hg]; exact Nat.ne_of_lt (blk_lt (g := gb208) (o := .cells #[.int .i64 x209000_1, .int .u32 x209001_1, .string x209002_1, .string x209003_1] 24 (0, 0)) z93_1) : gb208 ≠ gb210)); have n6_ := Aside0.mk ((by rw [hg]; exact Nat.ne_of_gt (blk_lt (g := gb208) (o := .cells #[.int .i64 x209000_1, .int .u32 x209001_1, .string x209002_1, .string x209003_1] 24 (0, 0)) z93_1) : gb210 ≠ gb208)); clear BK208; clear HB; have BK208 := n0_; have HB := n1_; have BK210 := n2_; have GW210 := n3_; have GE210 := n4_; have NB208_210 := n5_; have NB210_208 := n6_; clear n0_ n1_ n2_ n3_ n4_ n5_ n6_; clear hb hbox hg; have hnb9 := NB210_208.out; have hnc9 := NB208_210.out; have hcz10_0 := zbc BK210 0 (.int .i64 0); have hcz10_1 := zbc BK210 1 (.int .u32 0); have hcz10_2 := zbc BK210 2 (.string (⟨#[]⟩ : ByteArray)); have hcz10_3 := zbc BK210 3 (.string (⟨#[]⟩ : ByteArray)); have hfz10_0 := q9 BK210.out 0; have hfz10_1 := q9 BK210.out 1; have hfz10_2 := q9 BK210.out 2; have hfz10_3 := q9 BK210.out 3; have hcz11_0 := zbc BK208 0 (.int .i64 x209000_1); have hcz11_1 := zbc BK208 1 (.int .u32 x209001_1); have hcz11_2 := zbc BK208 2 (.string x209002_1); have hcz11_3 := zbc BK208 3 (.string x209003_1); have hfz11_0 := q9 BK208.out 0; have hfz11_1 := q9 BK208.out 1; have hfz11_2 := q9 BK208.out 2; have hfz11_3 := q9 BK208.out 3))
       refine bodyPost_ret (results_ct rfl _ _ gb208 24 #[.int .i64 ((qu l0 x10_1).f0), .int .u32 ((qu l0 x10_1).f1), .string ((qu l0 x10_1).f2), .string ((qu l0 x10_1).f3)] (0, 0) _ rfl (by (with_reducible repeat (first | refine qd ?_ _ | refine qf ?_ | refine qc ?_ _)); refine qx (cs := #[.int .i64 ((qu l0 x10_1).f0), .int .u32 ((qu l0 x10_1).f1), .string ((qu l0 x10_1).f2), .string x209003_1]) ?_ 3 _ rfl; (with_reducible repeat (first | refine qd ?_ _ | refine qf ?_ | refine qc ?_ _)); refine qx (cs := #[.int .i64 ((qu l0 x10_1).f0), .int .u32 ((qu l0 x10_1).f1), .string x209002_1, .string x209003_1]) ?_ 2 _ rfl; (with_reducible repeat (first | refine qd ?_ _ | refine qf ?_ | refine qc ?_ _)); refine qx (cs := #[.int .i64 ((qu l0 x10_1).f0), .int .u32 x209001_1, .string x209002_1, .string x209003_1]) ?_ 1 _ rfl; (with_reducible repeat (first | refine qd ?_ _ | refine qf ?_ | refine qc ?_ _)); refine qx (cs := #[.int .i64 x209000_1, .int .u32 x209001_1, .string x209002_1, .string x209003_1]) ?_ 0 _ rfl; (with_reducible repeat (first | refine qd ?_ _ | refine qf ?_ | refine qc ?_ _)); refine blk_far ?_ NB208_210.out _; (with_reducible repeat (first | refine qd ?_ _ | refine qf ?_ | refine qc ?_ _)); refine blk_far ?_ NB208_210.out _; (with_reducible repeat (first | refine qd ?_ _ | refine qf ?_ | refine qc ?_ _)); refine blk_far ?_ NB208_210.out _; (with_reducible repeat (first | refine qd ?_ _ | refine qf ?_ | refine qc ?_ _)); refine blk_far ?_ NB208_210.out _; (with_reducible repeat (first | refine qd ?_ _ | refine qf ?_ | refine qc ?_ _)); exact BK208.out) Tryz.underlying24 rfl (by kernel_rfl)) rfl ?_
       exact ⟨(by first | rfl | (simp [qq, qp] <;> rfl) | (simp [*, qq, qp] <;> rfl)), (by repeat (first | (with_reducible first | exact HB.out | apply qg | apply qa | apply qi | refine qw ?_ GE208.out | refine qw ?_ GE210.out) | exact HB.out))⟩
      rw [if_neg c7] at H
      have c7b0 : (((qu l0 x10_1).f0) == a1) = false := beq_eq_false_iff_ne.mpr c7
      have c7b1 : (((qu l0 x10_1).f0) != a1) = true := bne_iff_ne.mpr c7
      have H' := Aside0.mk H
      clear H
      have p209 : 0 ≤ (x10_1 : Int) := of_decide_eq_true z93_2
      have q209 : x10_1 < (l0.length : Int) := of_decide_eq_true z93_2
      obtain ⟨ad209, e209, hx209_0, hx209_1, hx209_2, hx209_3⟩ := at_T24 HR0.out x10_1 p209 q209
      cases e209
      replace hx209_0 := (HB.out.cell (World.block_lt_of_cell? w _ hx209_0)).trans hx209_0
      replace hx209_1 := (HB.out.cell (World.block_lt_of_cell? w _ hx209_1)).trans hx209_1
      replace hx209_2 := (HB.out.cell (World.block_lt_of_cell? w _ hx209_2)).trans hx209_2
      replace hx209_3 := (HB.out.cell (World.block_lt_of_cell? w _ hx209_3)).trans hx209_3
      replace p209 := eq_true p209
      replace q209 := eq_true q209
      go_wp2_with (first | ((with_reducible refine q1c (N := 7) rfl ?_); refine q1r ?hg (N := 7) ?hd (cs := #[.int .i64 0, .int .u32 0, .string (⟨#[]⟩ : ByteArray), .string (⟨#[]⟩ : ByteArray)]) (t := 24) ?hr ?_; (case hd => rfl); (case hg => rfl); (case hr => first | (go_simp; done) | (go_simp; rfl)); intro gb210 hg w12 hbox hb; have n0_ := Aside0.mk (qo (g := gb208) (o := .cells #[.int .i64 x209000_1, .int .u32 x209001_1, .string x209002_1, .string x209003_1] 24 (0, 0)) z93_1 hb); have n1_ := Aside0.mk (qe z93_0 hb); have n2_ := Aside0.mk (hbox); have n3_ := Aside0.mk ((by rw [hg]; exact (qm z93_0) : w.heap.size ≤ gb210)); have n4_ := Aside0.mk ((by rw [hg]; exact (qm z93_0) : w.heap.size ≤ gb210)); have n5_ := Aside0.mk ((by rw [hg]; exact Nat.ne_of_lt (blk_lt (g := gb208) (o := .cells #[.int .i64 x209000_1, .int .u32 x209001_1, .string x209002_1, .string x209003_1] 24 (0, 0)) z93_1) : gb208 ≠ gb210)); have n6_ := Aside0.mk ((by rw [hg]; exact Nat.ne_of_gt (blk_lt (g := gb208) (o := .cells #[.int .i64 x209000_1, .int .u32 x209001_1, .string x209002_1, .string x209003_1] 24 (0, 0)) z93_1) : gb210 ≠ gb208)); clear BK208; clear HB; have BK208 := n0_; have HB := n1_; have BK210 := n2_; have GW210 := n3_; have GE210 := n4_; have NB208_210 := n5_; have NB210_208 := n6_; clear n0_ n1_ n2_ n3_ n4_ n5_ n6_; clear hb hbox hg; have hnb13 := NB210_208.out; have hnc13 := NB208_210.out; have hcz14_0 := zbc BK210 0 (.int .i64 0); have hcz14_1 := zbc BK210 1 (.int .u32 0); have hcz14_2 := zbc BK210 2 (.string (⟨#[]⟩ : ByteArray)); have hcz14_3 := zbc BK210 3 (.string (⟨#[]⟩ : ByteArray)); have hfz14_0 := q9 BK210.out 0; have hfz14_1 := q9 BK210.out 1; have hfz14_2 := q9 BK210.out 2; have hfz14_3 := q9 BK210.out 3))
      go_roundg k1
      case measure => have := HK1.out; omega
      case rel => exact ⟨(wrap64 (x10_1 + 1)), (x209000_1), (x209001_1), (x209002_1), (x209003_1), z93_4, H', ⟨by have := HK1.out; omega⟩, ⟨by (with_reducible repeat (first | refine qd ?_ _ | refine qf ?_ | refine qc ?_ _)); refine blk_far ?_ NB208_210.out _; (with_reducible repeat (first | refine qd ?_ _ | refine qf ?_ | refine qc ?_ _)); refine blk_far ?_ NB208_210.out _; (with_reducible repeat (first | refine qd ?_ _ | refine qf ?_ | refine qc ?_ _)); refine blk_far ?_ NB208_210.out _; (with_reducible repeat (first | refine qd ?_ _ | refine qf ?_ | refine qc ?_ _)); refine blk_far ?_ NB208_210.out _; (with_reducible repeat (first | refine qd ?_ _ | refine qf ?_ | refine qc ?_ _)); exact BK208.out⟩, ⟨by repeat (first | (with_reducible first | exact HB.out | apply qg | apply qa | apply qi | refine qw ?_ GE208.out | refine qw ?_ GE210.out) | exact HB.out)⟩⟩
     rw [if_neg c6] at H
     exact absurd H (by simp)
    rw [if_neg c5] at H
    exact absurd H (by simp)
   rw [if_neg c4] at H
   have c4b0 : decide (x10_1 < (l0.length : Int)) = false := decide_eq_false c4
   clear c4
   simp only [Option.some.injEq, Prod.mk.injEq] at H
   obtain ⟨rfl, rfl, rfl, rfl, rfl⟩ := H
   have hcz15_0 := zbc BK208 0 (.int .i64 x209000_1)
   have hcz15_1 := zbc BK208 1 (.int .u32 x209001_1)
   have hcz15_2 := zbc BK208 2 (.string x209002_1)
   have hcz15_3 := zbc BK208 3 (.string x209003_1)
   have hfz15_0 := q9 BK208.out 0
   have hfz15_1 := q9 BK208.out 1
   have hfz15_2 := q9 BK208.out 2
   have hfz15_3 := q9 BK208.out 3
   go_wp2
   refine bodyPost_ret (results_ct rfl _ _ gb208 24 #[.int .i64 0, .int .u32 0, .string (⟨#[]⟩ : ByteArray), .string (⟨#[]⟩ : ByteArray)] (0, 0) _ rfl (by (with_reducible repeat (first | refine qd ?_ _ | refine qf ?_ | refine qc ?_ _)); refine qx (cs := #[.int .i64 0, .int .u32 0, .string (⟨#[]⟩ : ByteArray), .string x209003_1]) ?_ 3 _ rfl; (with_reducible repeat (first | refine qd ?_ _ | refine qf ?_ | refine qc ?_ _)); refine qx (cs := #[.int .i64 0, .int .u32 0, .string x209002_1, .string x209003_1]) ?_ 2 _ rfl; (with_reducible repeat (first | refine qd ?_ _ | refine qf ?_ | refine qc ?_ _)); refine qx (cs := #[.int .i64 0, .int .u32 x209001_1, .string x209002_1, .string x209003_1]) ?_ 1 _ rfl; (with_reducible repeat (first | refine qd ?_ _ | refine qf ?_ | refine qc ?_ _)); refine qx (cs := #[.int .i64 x209000_1, .int .u32 x209001_1, .string x209002_1, .string x209003_1]) ?_ 0 _ rfl; (with_reducible repeat (first | refine qd ?_ _ | refine qf ?_ | refine qc ?_ _)); exact BK208.out) Tryz.underlying24 rfl (by kernel_rfl)) rfl ?_
   exact ⟨(by first | rfl | (simp [qq, qp] <;> rfl) | (simp [*, qq, qp] <;> rfl)), z93_0⟩

end Go.Proofs.YtngmipfobcaojaaGreat.HA
end

-- YtngmipfobcaojaaGreatHA58
section
namespace Go.Proofs.YtngmipfobcaojaaGreat.HA
open Go.RowKit Go.Proofs.YtngmipfobcaojaaGreatW.PrintWords Go.Proofs.YtngmipfobcaojaaGreatW.PrintLast Go.Proofs.YtngmipfobcaojaaGreatW.PrintMore
attribute [local go_sem] q1k q1j q1s q1t q1a q19 q1h q1i

def polyglotlaw05_lives.f  : Option (Bool) := (prop_Bytes.f 3 (([(⟨1, 1, (⟨#[]⟩ : ByteArray), (⟨#[]⟩ : ByteArray)⟩ : S24)] : List (S24)))).bind fun bt225 => (if bt225.2 = 0 then (some (bt225.1.toList == ([2, 1, 1] : List UInt8))) else (some false))
theorem z94_0 {p : Prop} (h : p := by repeat (first | (with_reducible first | exact HB.out | apply qg | apply qa | apply qi) | exact HB.out)) : p := h
theorem z94_1 {p : Prop} (h : p := by (try simp only [List.map_toArray, List.map_cons, List.map_nil]); first | done | rfl | (simp only [List.length_drop, List.length_take]; rfl)) : p := h
theorem z94_2 {p : Prop} (h : p := by (with_reducible repeat (first | apply Kd.R_alloc | apply Kd.R_drewN | apply Kd.R_drew)); exact HO224.out) : p := h
set_option maxHeartbeats 8000000 in
set_option maxRecDepth 100000 in
theorem polyglotlaw05_lives.calls  (r : Bool) (w : World) (h : polyglotlaw05_lives.f  = some r) :
  Calls Tryz.prog 7 #[] w fun e w' => e = .returned (.bool r) ∧ Below w.heap.size w w' := by
 have hu24 := Tryz.underlying24
 have HB := Aside0.mk (Below.refl w.heap.size w)
 have H : ((prop_Bytes.f 3 (([(⟨1, 1, (⟨#[]⟩ : ByteArray), (⟨#[]⟩ : ByteArray)⟩ : S24)] : List (S24)))).bind fun bt225 => (if bt225.2 = 0 then (some (bt225.1.toList == ([2, 1, 1] : List UInt8))) else (some false))) = some r := h
 clear h
 obtain ⟨y222, hy222⟩ : ∃ y_ : List (S24), y_ = (([(⟨1, 1, (⟨#[]⟩ : ByteArray), (⟨#[]⟩ : ByteArray)⟩ : S24)] : List (S24))) := ⟨_, rfl⟩
 replace H : ((prop_Bytes.f 3 y222).bind fun bt225 => (if bt225.2 = 0 then (some (bt225.1.toList == ([2, 1, 1] : List UInt8))) else (some false))) = some r := by first | (rw [hy222]; with_reducible exact H) | (have H2_ := (Option.bind_some _ _).symm.trans H; rw [hy222]; with_reducible exact H2_) | (have H2_ := (Option.bind_some _ _).symm.trans H; with_reducible exact H2_) | with_reducible exact H | (rw [hy222]; exact H) | exact H
 have Ny222 := Aside0.mk hy222
 clear hy222
 replace H := Option.bind_eq_some_iff.mp H
 obtain ⟨⟨t225, t226⟩, A10, H⟩ := H
 replace H : (if t226 = 0 then (some (t225.toList == ([2, 1, 1] : List UInt8))) else (some false)) = some r := H
 have A1 := Aside0.mk A10
 clear A10
 by_cases c2 : t226 = 0
 ·rw [if_pos c2] at H
  have c2b0 : (t226 == 0) = true := beq_iff_eq.mpr c2
  have c2b1 : (t226 != 0) = false := bne_eq_false_iff_eq.mpr c2
  clear c2
  obtain rfl := Option.some.inj H
  go_enter Tryz.func7, Tryz.ntmps7
  go_wp2_with (first | ((with_reducible refine q1c (N := 5) rfl ?_); refine Kd.R_lit k24 _ 24 ?hg (N := 5) ?hd (xs := ([(⟨1, 1, (⟨#[]⟩ : ByteArray), (⟨#[]⟩ : ByteArray)⟩ : S24)] : List (S24))) (inner := [.int .i64 1, .int .u32 1, .string (⟨#[]⟩ : ByteArray), .string (⟨#[]⟩ : ByteArray)]) (ok := fun _ => True) (okp := fun _ => True) ?hr ?hp (fun _ hk => hk) trivial (Below.refl _ _) (Nat.le_refl _) (by simp) ?_; (case hd => rfl); (case hg => rfl); (case hr => first | (go_simp; done) | (go_simp; rfl)); (case hp => exact (Reps.c4 (show Kd.M k24 _ _ _ (⟨1, 1, (⟨#[]⟩ : ByteArray), (⟨#[]⟩ : ByteArray)⟩ : S24) [.int .i64 1, .int .u32 1, .string (⟨#[]⟩ : ByteArray), .string (⟨#[]⟩ : ByteArray)] from (k24_mkM _ _ _ (⟨1, 1, (⟨#[]⟩ : ByteArray), (⟨#[]⟩ : ByteArray)⟩ : S24) )) (Reps.none _ _))); intro v223 w3 ho4 hb hg_ hnew_; clear hg_ hnew_; (first | rw [← Ny222.out] at ho4 | (simp only [Int.reduceToNat] at ho4; rw [← Ny222.out] at ho4)); have n0_ := Aside0.mk (Kd.R_lower ho4 (qm z94_0)); have n1_ := Aside0.mk (qe z94_0 hb); clear HB; have HO224 := n0_; have HB := n1_; clear n0_ n1_; clear hb ho4; obtain ⟨Ao5, co5, eo5⟩ := Kd.R_slice HO224.out; subst eo5) | ((with_reducible refine ql (f := 9) rfl ?_); refine q1b (some 6) rfl rfl Tryz.func9 (by kernel_rfl) rfl #[.int .i64 3, .slice Ao5 y222.length co5] rfl z94_1 ?_; (with_reducible refine (prop_Bytes.calls 3 _ _ y222 t225 t226 _ ?side1 ?side2 A1.out).mono ?_); (case side1 => repeat (first | exact (Kd.R_reads' HO224.out).2.2 | (with_reducible refine Kd.C_alloc ?_ _) | (with_reducible refine Kd.C_drewN ?_ _) | (with_reducible refine Kd.C_drew ?_))); (case side2 => exact (Kd.R_reads' HO224.out).2.1); rintro e w6 ⟨rfl, hb⟩; refine ⟨_, rfl, ?_⟩; have n0_ := Aside0.mk (Kd.R_below z94_2 hb); have n1_ := Aside0.mk (qe z94_0 hb); clear HO224; clear HB; have HO224 := n0_; have HB := n1_; clear n0_ n1_; (try clear hb); (try clear hb2); (try clear hk); (try clear hi)))
  go_ret
  exact ⟨(by first | rfl | (simp [qq, qp] <;> rfl) | (simp [*, qq, qp] <;> rfl)), z94_0⟩
 rw [if_neg c2] at H
 have c2b0 : (t226 == 0) = false := beq_eq_false_iff_ne.mpr c2
 have c2b1 : (t226 != 0) = true := bne_iff_ne.mpr c2
 obtain rfl := Option.some.inj H
 go_enter Tryz.func7, Tryz.ntmps7
 go_wp2_with (first | ((with_reducible refine q1c (N := 5) rfl ?_); refine Kd.R_lit k24 _ 24 ?hg (N := 5) ?hd (xs := ([(⟨1, 1, (⟨#[]⟩ : ByteArray), (⟨#[]⟩ : ByteArray)⟩ : S24)] : List (S24))) (inner := [.int .i64 1, .int .u32 1, .string (⟨#[]⟩ : ByteArray), .string (⟨#[]⟩ : ByteArray)]) (ok := fun _ => True) (okp := fun _ => True) ?hr ?hp (fun _ hk => hk) trivial (Below.refl _ _) (Nat.le_refl _) (by simp) ?_; (case hd => rfl); (case hg => rfl); (case hr => first | (go_simp; done) | (go_simp; rfl)); (case hp => exact (Reps.c4 (show Kd.M k24 _ _ _ (⟨1, 1, (⟨#[]⟩ : ByteArray), (⟨#[]⟩ : ByteArray)⟩ : S24) [.int .i64 1, .int .u32 1, .string (⟨#[]⟩ : ByteArray), .string (⟨#[]⟩ : ByteArray)] from (k24_mkM _ _ _ (⟨1, 1, (⟨#[]⟩ : ByteArray), (⟨#[]⟩ : ByteArray)⟩ : S24) )) (Reps.none _ _))); intro v223 w7 ho8 hb hg_ hnew_; clear hg_ hnew_; (first | rw [← Ny222.out] at ho8 | (simp only [Int.reduceToNat] at ho8; rw [← Ny222.out] at ho8)); have n0_ := Aside0.mk (Kd.R_lower ho8 (qm z94_0)); have n1_ := Aside0.mk (qe z94_0 hb); clear HB; have HO224 := n0_; have HB := n1_; clear n0_ n1_; clear hb ho8; obtain ⟨Ao9, co9, eo9⟩ := Kd.R_slice HO224.out; subst eo9) | ((with_reducible refine ql (f := 9) rfl ?_); refine q1b (some 6) rfl rfl Tryz.func9 (by kernel_rfl) rfl #[.int .i64 3, .slice Ao9 y222.length co9] rfl z94_1 ?_; (with_reducible refine (prop_Bytes.calls 3 _ _ y222 t225 t226 _ ?side1 ?side2 A1.out).mono ?_); (case side1 => repeat (first | exact (Kd.R_reads' HO224.out).2.2 | (with_reducible refine Kd.C_alloc ?_ _) | (with_reducible refine Kd.C_drewN ?_ _) | (with_reducible refine Kd.C_drew ?_))); (case side2 => exact (Kd.R_reads' HO224.out).2.1); rintro e w10 ⟨rfl, hb⟩; refine ⟨_, rfl, ?_⟩; have n0_ := Aside0.mk (Kd.R_below z94_2 hb); have n1_ := Aside0.mk (qe z94_0 hb); clear HO224; clear HB; have HO224 := n0_; have HB := n1_; clear n0_ n1_; (try clear hb); (try clear hb2); (try clear hk); (try clear hi)))
 go_ret
 exact ⟨(by first | rfl | (simp [qq, qp] <;> rfl) | (simp [*, qq, qp] <;> rfl)), z94_0⟩

end Go.Proofs.YtngmipfobcaojaaGreat.HA
end

-- YtngmipfobcaojaaGreatHA59
section
namespace Go.Proofs.YtngmipfobcaojaaGreat.HA
open Go.RowKit Go.Proofs.YtngmipfobcaojaaGreatW.PrintWords Go.Proofs.YtngmipfobcaojaaGreatW.PrintLast Go.Proofs.YtngmipfobcaojaaGreatW.PrintMore
attribute [local go_sem] q1k q1j q1s q1t q1a q19 q1h q1i

def q1y.l0 : Nat → List (S24) → Int → Int → Option (Int)
 | 0, _, _, _ => none
 | k + 1, x0, x3, x4 => if x4 < (x0.length : Int) then (if 0 ≤ x4 then (q1y.l0 k x0 (wrap64 ((wrap64 (x3 + (((qu x0 x4).f2).size : Int))) + (((qu x0 x4).f3).size : Int))) (wrap64 (x4 + 1))) else (none)) else (some x3)
def q1y.f (k : Nat) (l0 : List (S24)) : Option (Int) := q1y.l0 k l0 0 0
theorem z95_0 {p : Prop} (h : p := by first | rfl | (simp; done) | (simp [*]; done) | (simp; exact qh _) | exact qh _ | (simp; exact (qh _).symm) | (simp; exact q15 _)) : p := h
theorem z95_1 {p : Prop} (h : p := by first | (with_reducible assumption) | assumption) : p := h
set_option maxHeartbeats 8000000 in
set_option maxRecDepth 100000 in
theorem q1y.calls (k : Nat) (A0 : Option Addr) (c0 : Nat) (l0 : List (S24)) (r : Int) (w : World) (hr0 : Kd.C k24 w A0 l0.length l0) (hc0 : l0.length ≤ c0) (h : q1y.f k l0 = some r) :
  Calls Tryz.prog 44 #[.slice A0 l0.length c0] w fun e w' => e = .returned (.int .i64 r) ∧ Drawn0 w w' := by
 have HR0 := Aside0.mk hr0
 have HC0 := Aside0.mk hc0
 clear hr0 hc0
 have H : (q1y.l0 k l0 0 0) = some r := h
 clear h
 have H' := Aside0.mk H
 clear H
 go_enter Tryz.func44, Tryz.ntmps44
 go_wp2
 repeat (go_quiet (fail); try go_wp2)
 go_loopg [3, 4] k (fun kq v3 v4 w' => ∃ (x3_1 : Int) (x4_1 : Int), v3 = .int .i64 x3_1 ∧ v4 = .int .i64 x4_1 ∧ Aside0 (q1y.l0 kq l0 x3_1 x4_1 = some r) ∧ Aside0 (kq ≤ k) ∧ Drawn0 w w')
 case atStart => exact ⟨(0), (0), z95_0, z95_0, H', ⟨Nat.le_refl _⟩, by repeat (first | exact Drawn0.refl _ | apply Drawn0.step)⟩
 case round =>
  clear H'
  obtain ⟨x3_1, x4_1, rfl, rfl, HA, HK1, ⟨m1, rfl⟩⟩ := hrel
  cases gk with
  | zero => exact absurd HA.out (by simp [q1y.l0])
  | succ k1 =>
   have H := HA.out
   clear HA
   simp only [q1y.l0] at H
   by_cases c2 : x4_1 < (l0.length : Int)
   ·rw [if_pos c2] at H
    have c2b0 : decide (x4_1 < (l0.length : Int)) = true := decide_eq_true c2
    clear c2
    by_cases c3 : 0 ≤ x4_1
    ·rw [if_pos c3] at H
     have c3b0 : decide (0 ≤ x4_1) = true := decide_eq_true c3
     clear c3
     have H' := Aside0.mk H
     clear H
     have p227 : 0 ≤ (x4_1 : Int) := of_decide_eq_true z95_1
     have q227 : x4_1 < (l0.length : Int) := of_decide_eq_true z95_1
     obtain ⟨ad227, e227, hx227_0, hx227_1, hx227_2, hx227_3⟩ := at_T24 HR0.out x4_1 p227 q227
     cases e227
     replace p227 := eq_true p227
     replace q227 := eq_true q227
     have p228 : 0 ≤ (x4_1 : Int) := of_decide_eq_true z95_1
     have q228 : x4_1 < (l0.length : Int) := of_decide_eq_true z95_1
     obtain ⟨ad228, e228, hx228_0, hx228_1, hx228_2, hx228_3⟩ := at_T24 HR0.out x4_1 p228 q228
     obtain rfl : ad227 = ad228 := (by injection e228)
     replace p228 := eq_true p228
     replace q228 := eq_true q228
     go_wp2
     repeat (go_quiet (fail); try go_wp2)
     go_roundg k1
     case measure => have := HK1.out; omega
     case rel => exact ⟨(wrap64 ((wrap64 (x3_1 + (((qu l0 x4_1).f2).size : Int))) + (((qu l0 x4_1).f3).size : Int))), (wrap64 (x4_1 + 1)), z95_0, z95_0, H', ⟨by have := HK1.out; omega⟩, by repeat (first | exact Drawn0.refl _ | apply Drawn0.step)⟩
    rw [if_neg c3] at H
    exact absurd H (by simp)
   rw [if_neg c2] at H
   have c2b0 : decide (x4_1 < (l0.length : Int)) = false := decide_eq_false c2
   clear c2
   obtain rfl := Option.some.inj H
   go_wp2
   repeat (go_quiet (fail); try go_wp2)
   go_ret
   exact ⟨z95_0, (by repeat (first | exact Drawn0.refl _ | apply Drawn0.step))⟩

end Go.Proofs.YtngmipfobcaojaaGreat.HA
end

-- YtngmipfobcaojaaGreatHA60
section
namespace Go.Proofs.YtngmipfobcaojaaGreat.HA
open Go.RowKit Go.Proofs.YtngmipfobcaojaaGreatW.PrintWords Go.Proofs.YtngmipfobcaojaaGreatW.PrintLast Go.Proofs.YtngmipfobcaojaaGreatW.PrintMore
attribute [local go_sem] q1k q1j q1s q1t q1a q19 q1h q1i

def q1e.f (k : Nat) (l0 : List (S24)) : Option (Bool) := if (l0.length : Int) ≤ 1010 then ((q1y.f k l0).bind fun t229 => (some (decide (t229 ≤ 140000)))) else (some false)
theorem z96_0 {p : Prop} (h : p := by first | rfl | (simp; done) | (simp [*]; done) | (simp; exact qh _) | exact qh _ | (simp; exact (qh _).symm) | (simp; exact q15 _)) : p := h
set_option maxHeartbeats 8000000 in
set_option maxRecDepth 100000 in
theorem q1e.calls (k : Nat) (A0 : Option Addr) (c0 : Nat) (l0 : List (S24)) (r : Bool) (w : World) (hr0 : Kd.C k24 w A0 l0.length l0) (hc0 : l0.length ≤ c0) (h : q1e.f k l0 = some r) :
  Calls Tryz.prog 8 #[.slice A0 l0.length c0] w fun e w' => e = .returned (.bool r) ∧ Drawn0 w w' := by
 have HR0 := Aside0.mk hr0
 have HC0 := Aside0.mk hc0
 clear hr0 hc0
 have H : (if (l0.length : Int) ≤ 1010 then ((q1y.f k l0).bind fun t229 => (some (decide (t229 ≤ 140000)))) else (some false)) = some r := h
 clear h
 by_cases c2 : (l0.length : Int) ≤ 1010
 ·rw [if_pos c2] at H
  have c2b0 : decide ((l0.length : Int) ≤ 1010) = true := decide_eq_true c2
  have c2b1 : decide (l0.length ≤ 1010) = true := decide_eq_true (by omega)
  clear c2
  replace H := Option.bind_eq_some_iff.mp H
  obtain ⟨t229, A30, H⟩ := H
  replace H : (some (decide (t229 ≤ 140000))) = some r := H
  have A3 := Aside0.mk A30
  clear A30
  obtain rfl := Option.some.inj H
  go_enter Tryz.func8, Tryz.ntmps8
  go_wp2_with (first | (go_at_call 44; (with_reducible refine (q1y.calls k _ _ l0 t229 _ ?side1 ?side2 A3.out).mono ?_); (case side1 => repeat (first | exact HR0.out | (with_reducible refine Kd.C_alloc ?_ _) | (with_reducible refine Kd.C_drewN ?_ _) | (with_reducible refine Kd.C_drew ?_))); (case side2 => exact HC0.out); rintro e w' ⟨rfl, ⟨nd, rfl⟩⟩))
  go_ret
  exact ⟨z96_0, (by repeat (first | exact Drawn0.refl _ | apply Drawn0.step))⟩
 rw [if_neg c2] at H
 have c2b0 : decide ((l0.length : Int) ≤ 1010) = false := decide_eq_false c2
 have c2b1 : decide (l0.length ≤ 1010) = false := decide_eq_false (by omega)
 clear c2
 obtain rfl := Option.some.inj H
 go_enter Tryz.func8, Tryz.ntmps8
 go_wp2
 go_ret
 exact ⟨z96_0, (by repeat (first | exact Drawn0.refl _ | apply Drawn0.step))⟩

end Go.Proofs.YtngmipfobcaojaaGreat.HA
end

-- YtngmipfobcaojaaGreatHA61
section
namespace Go.Proofs.YtngmipfobcaojaaGreat.HA
open Go.RowKit Go.Proofs.YtngmipfobcaojaaGreatW.PrintWords Go.Proofs.YtngmipfobcaojaaGreatW.PrintLast Go.Proofs.YtngmipfobcaojaaGreatW.PrintMore
attribute [local go_sem] q1k q1j q1s q1t q1a q19 q1h q1i

def api_Prop_10.f (l0 : List (S24)) : Option ((List (S24))) := (some (([] : List (S24)) : List (S24))).bind fun y230 => (if y230.length + l0.length < 2932031007402 then (some (y230 ++ l0)) else (none))
theorem z97_0 {p : Prop} (h : p := by repeat (first | (with_reducible first | exact HB.out | apply qg | apply qa | apply qi) | exact HB.out)) : p := h
set_option maxHeartbeats 8000000 in
set_option maxRecDepth 100000 in
theorem api_Prop_10.calls (A0 : Option Addr) (c0 : Nat) (l0 : List (S24)) (r : List (S24)) (w : World) (hr0 : Kd.C k24 w A0 l0.length l0) (hc0 : l0.length ≤ c0) (h : api_Prop_10.f l0 = some r) :
  Calls Tryz.prog 10 #[.slice A0 l0.length c0] w fun e w' => ∃ v0_ : Value, e = .returned (v0_) ∧ Kd.R k24 24 w' w.heap.size (fun _ => True) v0_ r ∧ Below w.heap.size w w' := by
 have HR0 := Aside0.mk hr0
 have HC0 := Aside0.mk hc0
 clear hr0 hc0
 have HB := Aside0.mk (Below.refl w.heap.size w)
 have H : ((some (([] : List (S24)) : List (S24))).bind fun y230 => (if y230.length + l0.length < 2932031007402 then (some (y230 ++ l0)) else (none))) = some r := h
 clear h
 obtain ⟨y230, hy230⟩ : ∃ y_ : List (S24), y_ = (([] : List (S24))) := ⟨_, rfl⟩
 replace H : (if y230.length + l0.length < 2932031007402 then (some (y230 ++ l0)) else (none)) = some r := by first | (rw [hy230]; with_reducible exact H) | (have H2_ := (Option.bind_some _ _).symm.trans H; rw [hy230]; with_reducible exact H2_) | (have H2_ := (Option.bind_some _ _).symm.trans H; with_reducible exact H2_) | with_reducible exact H | (rw [hy230]; exact H) | exact H
 have Ny230 := Aside0.mk hy230
 clear hy230
 by_cases c2 : y230.length + l0.length < 2932031007402
 ·rw [if_pos c2] at H
  have LMc2 := Aside0.mk c2
  clear c2
  obtain ⟨y233, hy233⟩ : ∃ y_ : List (S24), y_ = (y230 ++ l0) := ⟨_, rfl⟩
  replace H : (some y233) = some r := by first | (rw [hy233]; with_reducible exact H) | (have H2_ := (Option.bind_some _ _).symm.trans H; rw [hy233]; with_reducible exact H2_) | (have H2_ := (Option.bind_some _ _).symm.trans H; with_reducible exact H2_) | with_reducible exact H | (rw [hy233]; exact H) | exact H
  have Ny233 := Aside0.mk hy233
  clear hy233
  obtain rfl := Option.some.inj H
  go_enter Tryz.func10, Tryz.ntmps10
  go_wp2_with (first | ((with_reducible refine q1c (N := 3) rfl ?_); refine Kd.R_lit k24 _ 24 ?hg (N := 3) ?hd (xs := ([] : List (S24))) (inner := []) (ok := fun _ => True) (okp := fun _ => True) ?hr ?hp (fun _ hk => hk) trivial (Below.refl _ _) (Nat.le_refl _) (by simp) ?_; (case hd => rfl); (case hg => rfl); (case hr => first | (go_simp; done) | (go_simp; rfl)); (case hp => exact (Reps.none _ _)); intro v231 w3 ho4 hb hg_ hnew_; clear hg_ hnew_; (first | rw [← Ny230.out] at ho4 | (simp only [Int.reduceToNat] at ho4; rw [← Ny230.out] at ho4)); have n0_ := Aside0.mk (Kd.R_lower ho4 (qm z97_0)); have n1_ := Aside0.mk (qe z97_0 hb); clear HB; have HO232 := n0_; have HB := n1_; clear n0_ n1_; clear hb ho4) | ((with_reducible refine gate_builtin (b := .append) (xs := #[.tmp 3, .tmp 4]) rfl ?_); at_builtin; refine Kd.R_append_rows k24 (w0 := w) w.heap.size rfl (.tmp 3) (.tmp 4) 25 24 (.agg #[(.int .i64 0), (.int .u32 0), (.string ⟨#[]⟩), (.string ⟨#[]⟩)]) 48 rfl Tryz.underlying25 info24 rfl (by decide) (by omega) v231 y230 l0 _ _ _ (fun _ => True) (fun _ => False) rfl rfl ?aO ?aR (fun _ _ h => h) (fun _ h => h.elim) ?aF ?aB ?aS ?aL ?_; (case aR => repeat (first | exact (Kd.C_below HR0.out HB.out) | (with_reducible refine Kd.C_alloc ?_ _) | (with_reducible refine Kd.C_drewN ?_ _) | (with_reducible refine Kd.C_drew ?_))); (case aB => exact z97_0); (case aF => exact (fun _ _ => trivial)); (case aO => exact (by (with_reducible repeat (first | apply Kd.R_alloc | apply Kd.R_drewN | apply Kd.R_drew)); exact HO232.out)); (case aS => exact (qm z97_0)); (case aL => have := LMc2.out; omega); intro v234 w5 ho hb hg hat; rw [← Ny233.out] at ho; have n0_ := Aside0.mk (hb); have n1_ := Aside0.mk (ho); clear HB; clear HO232; have HB := n0_; have HO235 := n1_; clear n0_ n1_; clear ho hb hg hat))
  go_ret
  exact ⟨_, (by first | rfl | (simp [qq, qp] <;> rfl) | (simp [*, qq, qp] <;> rfl)), (by (with_reducible repeat (first | apply Kd.R_alloc | apply Kd.R_drewN | apply Kd.R_drew)); exact HO235.out), z97_0⟩
 rw [if_neg c2] at H
 exact absurd H (by simp)

end Go.Proofs.YtngmipfobcaojaaGreat.HA
end

-- YtngmipfobcaojaaGreatHA75
section
namespace Go.Proofs.YtngmipfobcaojaaGreat.HA
open Go.RowKit Go.Proofs.YtngmipfobcaojaaGreatW.PrintWords Go.Proofs.YtngmipfobcaojaaGreatW.PrintLast Go.Proofs.YtngmipfobcaojaaGreatW.PrintMore
attribute [local go_sem] q1k q1j q1s q1t q1a q19 q1h q1i

def q1w.j0 : Nat → Int → Bool → Option (Int)
 | 0, _, _ => none
 | k + 1, x0, x3 => if x3 = true then (some 0) else (if x0 < 128 then (some 1) else (if x0 < 16384 then (some 2) else (if x0 < 2097152 then (some 3) else (some 4))))
def q1w.f (k : Nat) (a0 : Int) : Option (Int) := if a0 < 0 then (q1w.j0 k a0 true) else (q1w.j0 k a0 (decide (a0 > 268435455)))
theorem z98_0 {p : Prop} (h : p := by first | rfl | (simp; done) | (simp [*]; done) | (simp; exact qh _) | exact qh _ | (simp; exact (qh _).symm) | (simp; exact q15 _)) : p := h
theorem z98_1 {p : Prop} (h : p := by repeat (first | exact Drawn0.refl _ | apply Drawn0.step)) : p := h
set_option maxHeartbeats 8000000 in
set_option maxRecDepth 100000 in
theorem q1w.calls (k : Nat) (a0 : Int) (r : Int) (w : World) (h : q1w.f k a0 = some r) :
  Calls Tryz.prog 105 #[.int .i64 a0] w fun e w' => e = .returned (.int .i64 r) ∧ Drawn0 w w' := by
 have H : (if a0 < 0 then (q1w.j0 k a0 true) else (q1w.j0 k a0 (decide (a0 > 268435455)))) = some r := h
 clear h
 have HC2 := Aside0.mk H
 clear H
 go_enter Tryz.func105, Tryz.ntmps105
 go_upto_region 1 with (fail)
 go_cut [3] (fun v3 wc => ∃ (kq : Nat) (x3_1 : Bool), v3 = .bool x3_1 ∧ Aside0 (q1w.j0 kq a0 x3_1 = some r) ∧ Aside0 (kq ≤ k) ∧ Drawn0 w wc)
 case first =>
  have H := HC2.out
  clear HC2
  by_cases c3 : a0 < 0
  ·rw [if_pos c3] at H
   have c3b0 : decide (a0 < 0) = true := decide_eq_true c3
   clear c3
   (first | rw [c3b0] | (simp only [i64_w, i32_w]; rw [c3b0]) | skip)
   have H' := Aside0.mk H
   clear H
   go_wp2
   go_meet
   case rel => exact ⟨_, (true), z98_0, H', ⟨(by first | omega | exact Nat.le_refl _)⟩, by repeat (first | exact Drawn0.refl _ | apply Drawn0.step)⟩
  rw [if_neg c3] at H
  have c3b0 : decide (a0 < 0) = false := decide_eq_false c3
  clear c3
  (first | rw [c3b0] | (simp only [i64_w, i32_w]; rw [c3b0]) | skip)
  have H' := Aside0.mk H
  clear H
  go_wp2
  go_meet
  case rel => exact ⟨_, (decide (a0 > 268435455)), z98_0, H', ⟨(by first | omega | exact Nat.le_refl _)⟩, by repeat (first | exact Drawn0.refl _ | apply Drawn0.step)⟩
 case rest =>
  clear HC2
  obtain ⟨kq, x3_1, rfl, HA, HJ1, ⟨mc1, rfl⟩⟩ := hcut
  cases kq with
  | zero => exact absurd HA.out (by simp [q1w.j0])
  | succ kj1 =>
   have H := HA.out
   clear HA
   simp only [q1w.j0] at H
   by_cases c4 : x3_1 = true
   ·subst c4
    rw [if_pos rfl] at H
    obtain rfl := Option.some.inj H
    go_wp2
    go_ret
    exact ⟨z98_0, z98_1⟩
   replace c4 := Bool.eq_false_iff.mpr c4
   subst c4
   rw [if_neg (show ¬ (false = true) by decide)] at H
   by_cases c5 : a0 < 128
   ·rw [if_pos c5] at H
    have c5b0 : decide (a0 < 128) = true := decide_eq_true c5
    clear c5
    obtain rfl := Option.some.inj H
    go_wp2
    go_ret
    exact ⟨z98_0, z98_1⟩
   rw [if_neg c5] at H
   have c5b0 : decide (a0 < 128) = false := decide_eq_false c5
   clear c5
   by_cases c6 : a0 < 16384
   ·rw [if_pos c6] at H
    have c6b0 : decide (a0 < 16384) = true := decide_eq_true c6
    clear c6
    obtain rfl := Option.some.inj H
    go_wp2
    go_ret
    exact ⟨z98_0, z98_1⟩
   rw [if_neg c6] at H
   have c6b0 : decide (a0 < 16384) = false := decide_eq_false c6
   clear c6
   by_cases c7 : a0 < 2097152
   ·rw [if_pos c7] at H
    have c7b0 : decide (a0 < 2097152) = true := decide_eq_true c7
    clear c7
    obtain rfl := Option.some.inj H
    go_wp2
    go_ret
    exact ⟨z98_0, z98_1⟩
   rw [if_neg c7] at H
   have c7b0 : decide (a0 < 2097152) = false := decide_eq_false c7
   clear c7
   obtain rfl := Option.some.inj H
   go_wp2
   go_ret
   exact ⟨z98_0, z98_1⟩

end Go.Proofs.YtngmipfobcaojaaGreat.HA
end

-- YtngmipfobcaojaaGreatHA76
section
namespace Go.Proofs.YtngmipfobcaojaaGreat.HA
open Go.RowKit Go.Proofs.YtngmipfobcaojaaGreatW.PrintWords Go.Proofs.YtngmipfobcaojaaGreatW.PrintLast Go.Proofs.YtngmipfobcaojaaGreatW.PrintMore
attribute [local go_sem] q1k q1j q1s q1t q1a q19 q1h q1i

def q16.l0 : Nat → Int → Int → List Int → Int → Option (ByteArray × Int)
 | 0, _, _, _, _ => none
 | k + 1, x0, x4, x5, x6 => if x6 < x4 then (if (wrap64 (x6 + 1)) < x4 then (if x5.length < 140737488355328 then (q16.l0 k (wrap64 (Int.tdiv x0 128)) x4 (x5 ++ [((Int.tmod x0 128) + 128) % 256]) (wrap64 (x6 + 1))) else (none)) else (if x5.length < 140737488355328 then (q16.l0 k (wrap64 (Int.tdiv x0 128)) x4 (x5 ++ [(Int.tmod x0 128) % 256]) (wrap64 (x6 + 1))) else (none))) else (some (strOfNums x5, 0))
def q16.f (k : Nat) (a0 : Int) : Option (ByteArray × Int) := (q1w.f k a0).bind fun t442 => (if t442 = 0 then (some ((⟨#[]⟩ : ByteArray), 2)) else (q16.l0 k a0 t442 ([] : List Int) 0))
theorem z99_0 {p : Prop} (h : p := by repeat (first | (with_reducible first | exact HB.out | apply qg | apply qa | apply qi) | exact HB.out)) : p := h
theorem z99_1 {p : Prop} (h : p := by first | rfl | (simp; done) | (simp [*]; done) | (simp; exact qh _) | exact qh _ | (simp; exact (qh _).symm) | (simp; exact q15 _)) : p := h
theorem z99_2 {p : Prop} (h : p := by (try simp only [List.map_toArray, List.map_cons, List.map_nil]); first | done | rfl | (simp only [List.length_drop, List.length_take]; rfl)) : p := h
theorem z99_3 {p : Prop} (h : p := by (with_reducible repeat (first | apply Kd.R_alloc | apply Kd.R_drewN | apply Kd.R_drew)); exact HO_5.out) : p := h
set_option maxHeartbeats 8000000 in
set_option maxRecDepth 100000 in
theorem q16.calls (k : Nat) (a0 : Int) (r1 : ByteArray) (r2 : Int) (w : World) (h : q16.f k a0 = some (r1, r2)) :
  Calls Tryz.prog 52 #[.int .i64 a0] w fun e w' => e = .returned (.tuple #[.string r1, .int .i64 r2]) ∧ Below w.heap.size w w' := by
 have HB := Aside0.mk (Below.refl w.heap.size w)
 have H : ((q1w.f k a0).bind fun t442 => (if t442 = 0 then (some ((⟨#[]⟩ : ByteArray), 2)) else (q16.l0 k a0 t442 ([] : List Int) 0))) = some (r1, r2) := h
 clear h
 replace H := Option.bind_eq_some_iff.mp H
 obtain ⟨t442, A20, H⟩ := H
 replace H : (if t442 = 0 then (some ((⟨#[]⟩ : ByteArray), 2)) else (q16.l0 k a0 t442 ([] : List Int) 0)) = some (r1, r2) := H
 have A2 := Aside0.mk A20
 clear A20
 by_cases c3 : t442 = 0
 ·rw [if_pos c3] at H
  have c3b0 : (t442 == 0) = true := beq_iff_eq.mpr c3
  have c3b1 : (t442 != 0) = false := bne_eq_false_iff_eq.mpr c3
  clear c3
  simp only [Option.some.injEq, Prod.mk.injEq] at H
  obtain ⟨rfl, rfl⟩ := H
  go_enter Tryz.func52, Tryz.ntmps52
  go_wp2_with (first | ((with_reducible refine ql (f := 105) rfl ?_); refine q1b (some 9) rfl rfl Tryz.func105 (by kernel_rfl) rfl #[.int .i64 a0] rfl z99_2 ?_; (with_reducible refine (q1w.calls k a0 t442 _ A2.out).mono ?_); rintro e w' ⟨rfl, ⟨nd, rfl⟩⟩; refine ⟨_, rfl, ?_⟩))
  go_ret2
  exact ⟨(by first | rfl | (simp [qq, qp] <;> rfl) | (simp [*, qq, qp] <;> rfl)), z99_0⟩
 rw [if_neg c3] at H
 have c3b0 : (t442 == 0) = false := beq_eq_false_iff_ne.mpr c3
 have c3b1 : (t442 != 0) = true := bne_iff_ne.mpr c3
 have H' := Aside0.mk H
 clear H
 go_enter Tryz.func52, Tryz.ntmps52
 go_wp2_with (first | ((with_reducible refine ql (f := 105) rfl ?_); refine q1b (some 9) rfl rfl Tryz.func105 (by kernel_rfl) rfl #[.int .i64 a0] rfl z99_2 ?_; (with_reducible refine (q1w.calls k a0 t442 _ A2.out).mono ?_); rintro e w' ⟨rfl, ⟨nd, rfl⟩⟩; refine ⟨_, rfl, ?_⟩))
 go_loopg [0, 5, 6] k (fun kq v0 v5 v6 w' => ∃ (x0_1 : Int) (x5_1 : List Int) (x6_1 : Int), v0 = .int .i64 x0_1 ∧ v6 = .int .i64 x6_1 ∧ Aside0 (q16.l0 kq x0_1 t442 x5_1 x6_1 = some (r1, r2)) ∧ Aside0 (kq ≤ k) ∧ Aside0 (Kd.R (Kd.int .u8) 5 w' w.heap.size (fun _ => True) v5 x5_1) ∧ Aside0 (Below w.heap.size w w'))
 case atStart => exact ⟨(a0), (([] : List Int)), (0), z99_1, z99_1, H', ⟨Nat.le_refl _⟩, ⟨(by first | exact Kd.R_nil _ _ _ _ _ | exact Kd.N_nil _ _ _ _ _ | exact Kd.V_nil _ _ _ _ _ | exact Kd.Q_nil _ _ _ _ _ | exact Kd.S_nil _ _ _ _ _)⟩, ⟨z99_0⟩⟩
 case round =>
  clear H'
  clear c3 c3b0 c3b1
  obtain ⟨x0_1, x5_1, x6_1, rfl, rfl, HA, HK1, HO_5, HB⟩ := hrel
  cases gk with
  | zero => exact absurd HA.out (by simp [q16.l0])
  | succ k1 =>
   have H := HA.out
   clear HA
   simp only [q16.l0] at H
   by_cases c4 : x6_1 < t442
   ·rw [if_pos c4] at H
    have c4b0 : decide (x6_1 < t442) = true := decide_eq_true c4
    clear c4
    by_cases c5 : (wrap64 (x6_1 + 1)) < t442
    ·rw [if_pos c5] at H
     have c5b0 : decide ((wrap64 (x6_1 + 1)) < t442) = true := decide_eq_true c5
     clear c5
     by_cases c6 : x5_1.length < 140737488355328
     ·rw [if_pos c6] at H
      have LMc6 := Aside0.mk c6
      clear c6
      obtain ⟨y443, hy443⟩ : ∃ y_ : List Int, y_ = (x5_1 ++ [((Int.tmod x0_1 128) + 128) % 256]) := ⟨_, rfl⟩
      replace H : (q16.l0 k1 (wrap64 (Int.tdiv x0_1 128)) t442 y443 (wrap64 (x6_1 + 1))) = some (r1, r2) := by first | (rw [hy443]; with_reducible exact H) | (have H2_ := (Option.bind_some _ _).symm.trans H; rw [hy443]; with_reducible exact H2_) | (have H2_ := (Option.bind_some _ _).symm.trans H; with_reducible exact H2_) | with_reducible exact H | (rw [hy443]; exact H) | exact H
      have Ny443 := Aside0.mk hy443
      clear hy443
      have H' := Aside0.mk H
      clear H
      go_wp2_with (first | ((with_reducible refine gate_builtin (b := .append) (xs := #[.tmp 28, .tmp 30]) rfl ?_); at_builtin; refine Kd.R_append (Kd.int .u8) (w0 := w) w.heap.size rfl (.tmp 28) (.tmp 30) 65 5 (.int .u8 0) 1 rfl Tryz.underlying65 info5 rfl (by decide) (by omega) u5 x5_1 (((Int.tmod x0_1 128) + 128) % 256) [.int .u8 (((Int.tmod x0_1 128) + 128) % 256)] (fun _ => True) (fun _ => False) rfl rfl ?aP (fun _ hk => hk.elim) ?aF ?aO ?aB ?aS ?aL ?_; (case aP => exact rfl); (case aB => exact z99_0); (case aF => exact (fun _ _ => trivial)); (case aO => exact z99_3); (case aS => exact (qm z99_0)); (case aL => have := LMc6.out; omega); intro v444 w7 ho hb hg hat; rw [← Ny443.out] at ho; have n0_ := Aside0.mk (hb); have n1_ := Aside0.mk (ho); clear HB; clear HO_5; have HB := n0_; have HO445 := n1_; clear n0_ n1_; clear ho hb hg hat))
      go_roundg k1
      case measure => have := HK1.out; omega
      case rel => exact ⟨(wrap64 (Int.tdiv x0_1 128)), (y443), (wrap64 (x6_1 + 1)), z99_1, z99_1, H', ⟨by have := HK1.out; omega⟩, ⟨by (with_reducible repeat (first | apply Kd.R_alloc | apply Kd.R_drewN | apply Kd.R_drew)); exact HO445.out⟩, ⟨by repeat (first | (with_reducible first | exact HB.out | apply qg | apply qa | apply qi) | exact HB.out)⟩⟩
     rw [if_neg c6] at H
     exact absurd H (by simp)
    rw [if_neg c5] at H
    have c5b0 : decide ((wrap64 (x6_1 + 1)) < t442) = false := decide_eq_false c5
    clear c5
    by_cases c8 : x5_1.length < 140737488355328
    ·rw [if_pos c8] at H
     have LMc8 := Aside0.mk c8
     clear c8
     obtain ⟨y446, hy446⟩ : ∃ y_ : List Int, y_ = (x5_1 ++ [(Int.tmod x0_1 128) % 256]) := ⟨_, rfl⟩
     replace H : (q16.l0 k1 (wrap64 (Int.tdiv x0_1 128)) t442 y446 (wrap64 (x6_1 + 1))) = some (r1, r2) := by first | (rw [hy446]; with_reducible exact H) | (have H2_ := (Option.bind_some _ _).symm.trans H; rw [hy446]; with_reducible exact H2_) | (have H2_ := (Option.bind_some _ _).symm.trans H; with_reducible exact H2_) | with_reducible exact H | (rw [hy446]; exact H) | exact H
     have Ny446 := Aside0.mk hy446
     clear hy446
     have H' := Aside0.mk H
     clear H
     go_wp2_with (first | ((with_reducible refine gate_builtin (b := .append) (xs := #[.tmp 28, .tmp 30]) rfl ?_); at_builtin; refine Kd.R_append (Kd.int .u8) (w0 := w) w.heap.size rfl (.tmp 28) (.tmp 30) 65 5 (.int .u8 0) 1 rfl Tryz.underlying65 info5 rfl (by decide) (by omega) u5 x5_1 ((Int.tmod x0_1 128) % 256) [.int .u8 ((Int.tmod x0_1 128) % 256)] (fun _ => True) (fun _ => False) rfl rfl ?aP (fun _ hk => hk.elim) ?aF ?aO ?aB ?aS ?aL ?_; (case aP => exact rfl); (case aB => exact z99_0); (case aF => exact (fun _ _ => trivial)); (case aO => exact z99_3); (case aS => exact (qm z99_0)); (case aL => have := LMc8.out; omega); intro v447 w9 ho hb hg hat; rw [← Ny446.out] at ho; have n0_ := Aside0.mk (hb); have n1_ := Aside0.mk (ho); clear HB; clear HO_5; have HB := n0_; have HO448 := n1_; clear n0_ n1_; clear ho hb hg hat))
     go_roundg k1
     case measure => have := HK1.out; omega
     case rel => exact ⟨(wrap64 (Int.tdiv x0_1 128)), (y446), (wrap64 (x6_1 + 1)), z99_1, z99_1, H', ⟨by have := HK1.out; omega⟩, ⟨by (with_reducible repeat (first | apply Kd.R_alloc | apply Kd.R_drewN | apply Kd.R_drew)); exact HO448.out⟩, ⟨by repeat (first | (with_reducible first | exact HB.out | apply qg | apply qa | apply qi) | exact HB.out)⟩⟩
    rw [if_neg c8] at H
    exact absurd H (by simp)
   rw [if_neg c4] at H
   have c4b0 : decide (x6_1 < t442) = false := decide_eq_false c4
   clear c4
   simp only [Option.some.injEq, Prod.mk.injEq] at H
   obtain ⟨rfl, rfl⟩ := H
   have hcv10 := own_string (P := Tryz.prog) Tryz.underlying65 Tryz.underlying5 Tryz.underlying9 (Kd.own_of_R HO_5.out)
   go_wp2
   go_ret2
   exact ⟨(by first | rfl | (simp [qq, qp] <;> rfl) | (simp [*, qq, qp] <;> rfl)), z99_0⟩

end Go.Proofs.YtngmipfobcaojaaGreat.HA
end

-- YtngmipfobcaojaaGreatHA77
section
namespace Go.Proofs.YtngmipfobcaojaaGreat.HA
open Go.RowKit Go.Proofs.YtngmipfobcaojaaGreatW.PrintWords Go.Proofs.YtngmipfobcaojaaGreatW.PrintLast Go.Proofs.YtngmipfobcaojaaGreatW.PrintMore
attribute [local go_sem] q1k q1j q1s q1t q1a q19 q1h q1i

def qz.l0 : Nat → Int → List Int → Int → Option (ByteArray)
 | 0, _, _, _ => none
 | k + 1, x0, x5, x6 => if x6 ≥ 0 then (if x6 < 8 then (if 0 ≤ (IntKind.u64.wrap (wrap64 (8 * x6))) then (if x5.length < 140737488355328 then (qz.l0 k x0 (x5 ++ [(shr .u64 x0 (IntKind.u64.wrap (wrap64 (8 * x6)))) % 256]) (wrap64 (x6 - 1))) else (none)) else (none)) else (if x5.length < 140737488355328 then (qz.l0 k x0 (x5 ++ [0]) (wrap64 (x6 - 1))) else (none))) else (some (strOfNums x5))
def qz.f (k : Nat) (a0 : Int) (a1 : Int) : Option (ByteArray) := qz.l0 k a0 ([] : List Int) ((mx 0 (mn a1 16)) - 1)
theorem z100_0 {p : Prop} (h : p := by repeat (first | (with_reducible first | exact HB.out | apply qg | apply qa | apply qi) | exact HB.out)) : p := h
theorem z100_1 {p : Prop} (h : p := by (with_reducible repeat (first | apply Kd.R_alloc | apply Kd.R_drewN | apply Kd.R_drew)); exact HO_5.out) : p := h
theorem z100_2 {p : Prop} (h : p := by first | rfl | (simp; done) | (simp [*]; done) | (simp; exact qh _) | exact qh _ | (simp; exact (qh _).symm) | (simp; exact q15 _)) : p := h
set_option maxHeartbeats 8000000 in
set_option maxRecDepth 100000 in
theorem qz.calls (k : Nat) (a0 : Int) (a1 : Int) (r : ByteArray) (w : World) (h : qz.f k a0 a1 = some r) :
  Calls Tryz.prog 85 #[.int .u64 a0, .int .i64 a1] w fun e w' => e = .returned (.string r) ∧ Below w.heap.size w w' := by
 have HB := Aside0.mk (Below.refl w.heap.size w)
 have H : (qz.l0 k a0 ([] : List Int) ((mx 0 (mn a1 16)) - 1)) = some r := h
 clear h
 obtain ⟨ji3, hji3⟩ : ∃ j_ : Int, (mn a1 16) = j_ := ⟨_, rfl⟩
 replace H : (qz.l0 k a0 ([] : List Int) ((mx 0 (ji3)) - 1)) = some r := by first | (rw [hji3] at H; exact H) | (simp only [hji3] at H ⊢; exact H)
 (try (have hji3h : ji3 ≤ 16 := by (rw [← hji3]; unfold mn; (repeat' split) <;> omega)))
 (try (have hji3g : ji3 ≤ 64 := by omega))
 have hji3_ : (if 16 < a1 then 16 else a1) = ji3 := hji3
 obtain ⟨ji4, hji4⟩ : ∃ j_ : Int, (mx 0 (ji3)) = j_ := ⟨_, rfl⟩
 replace H : (qz.l0 k a0 ([] : List Int) ((ji4) - 1)) = some r := by first | (rw [hji4] at H; exact H) | (simp only [hji4] at H ⊢; exact H)
 have hji4_ : (if 0 < (ji3) then (ji3) else 0) = ji4 := hji4
 have H' := Aside0.mk H
 clear H
 go_enter Tryz.func85, Tryz.ntmps85
 go_wp2
 go_loopg [5, 6] k (fun kq v5 v6 w' => ∃ (x5_1 : List Int) (x6_1 : Int), v6 = .int .i64 x6_1 ∧ Aside0 (qz.l0 kq a0 x5_1 x6_1 = some r) ∧ Aside0 (kq ≤ k) ∧ Aside0 (Kd.R (Kd.int .u8) 5 w' w.heap.size (fun _ => True) v5 x5_1) ∧ Aside0 (Below w.heap.size w w'))
 case atStart => exact ⟨(([] : List Int)), ((ji4) - 1), (by first | rfl | (simp; done) | (simp only [← hji4] <;> (first | rfl | simp)) | (simp [*]; done) | (simp; exact qh _)), H', ⟨Nat.le_refl _⟩, ⟨(by first | exact Kd.R_nil _ _ _ _ _ | exact Kd.N_nil _ _ _ _ _ | exact Kd.V_nil _ _ _ _ _ | exact Kd.Q_nil _ _ _ _ _ | exact Kd.S_nil _ _ _ _ _)⟩, ⟨z100_0⟩⟩
 case round =>
  clear H'
  try clear p2
  obtain ⟨x5_1, x6_1, rfl, HA, HK1, HO_5, HB⟩ := hrel
  cases gk with
  | zero => exact absurd HA.out (by simp [qz.l0])
  | succ k1 =>
   have H := HA.out
   clear HA
   simp only [qz.l0] at H
   by_cases c5 : x6_1 ≥ 0
   ·rw [if_pos c5] at H
    have c5b0 : decide (0 ≤ x6_1) = true := decide_eq_true c5
    clear c5
    by_cases c6 : x6_1 < 8
    ·rw [if_pos c6] at H
     have c6b0 : decide (x6_1 < 8) = true := decide_eq_true c6
     clear c6
     obtain ⟨ji7, hji7⟩ : ∃ j_ : Int, (IntKind.u64.wrap (wrap64 (8 * x6_1))) = j_ := ⟨_, rfl⟩
     replace H : (if 0 ≤ (ji7) then (if x5_1.length < 140737488355328 then (qz.l0 k1 a0 (x5_1 ++ [(shr .u64 a0 (ji7)) % 256]) (wrap64 (x6_1 - 1))) else (none)) else (none)) = some r := by first | (rw [hji7] at H; exact H) | (simp only [hji7] at H ⊢; exact H)
     by_cases c8 : 0 ≤ (ji7)
     ·rw [if_pos c8] at H
      have c8b0 := eq_true c8
      have c8b1 : decide (0 ≤ (ji7)) = true := decide_eq_true c8
      clear c8
      obtain ⟨ji9, hji9⟩ : ∃ j_ : Int, (shr .u64 a0 (ji7)) = j_ := ⟨_, rfl⟩
      replace H : (if x5_1.length < 140737488355328 then (qz.l0 k1 a0 (x5_1 ++ [(ji9) % 256]) (wrap64 (x6_1 - 1))) else (none)) = some r := by first | (rw [hji9] at H; exact H) | (simp only [hji9] at H ⊢; exact H)
      have hji9_ : (a0 / 2 ^ min (ji7).toNat 64) = ji9 := hji9
      have hji9z : (ji7) ≤ 64 → (a0 / 2 ^ (ji7).toNat) = ji9 := shr_small hji9
      by_cases c10 : x5_1.length < 140737488355328
      ·rw [if_pos c10] at H
       have LMc10 := Aside0.mk c10
       clear c10
       obtain ⟨y449, hy449⟩ : ∃ y_ : List Int, y_ = (x5_1 ++ [(ji9) % 256]) := ⟨_, rfl⟩
       replace H : (qz.l0 k1 a0 y449 (wrap64 (x6_1 - 1))) = some r := by first | (rw [hy449]; with_reducible exact H) | (have H2_ := (Option.bind_some _ _).symm.trans H; rw [hy449]; with_reducible exact H2_) | (have H2_ := (Option.bind_some _ _).symm.trans H; with_reducible exact H2_) | with_reducible exact H | (rw [hy449]; exact H) | exact H
       have Ny449 := Aside0.mk hy449
       clear hy449
       have H' := Aside0.mk H
       clear H
       go_wp2_with (first | ((with_reducible refine gate_builtin (b := .append) (xs := #[.tmp 24, .tmp 26]) rfl ?_); at_builtin; refine Kd.R_append (Kd.int .u8) (w0 := w) w.heap.size rfl (.tmp 24) (.tmp 26) 65 5 (.int .u8 0) 1 rfl Tryz.underlying65 info5 rfl (by decide) (by omega) u5 x5_1 ((ji9) % 256) [.int .u8 ((ji9) % 256)] (fun _ => True) (fun _ => False) rfl rfl ?aP (fun _ hk => hk.elim) ?aF ?aO ?aB ?aS ?aL ?_; (case aP => exact rfl); (case aB => exact z100_0); (case aF => exact (fun _ _ => trivial)); (case aO => exact z100_1); (case aS => exact (qm z100_0)); (case aL => have := LMc10.out; omega); intro v450 w11 ho hb hg hat; rw [← Ny449.out] at ho; have n0_ := Aside0.mk (hb); have n1_ := Aside0.mk (ho); clear HB; clear HO_5; have HB := n0_; have HO451 := n1_; clear n0_ n1_; clear ho hb hg hat))
       go_roundg k1
       case measure => have := HK1.out; omega
       case rel => exact ⟨(y449), (wrap64 (x6_1 - 1)), z100_2, H', ⟨by have := HK1.out; omega⟩, ⟨by (with_reducible repeat (first | apply Kd.R_alloc | apply Kd.R_drewN | apply Kd.R_drew)); exact HO451.out⟩, ⟨by repeat (first | (with_reducible first | exact HB.out | apply qg | apply qa | apply qi) | exact HB.out)⟩⟩
      rw [if_neg c10] at H
      exact absurd H (by simp)
     rw [if_neg c8] at H
     exact absurd H (by simp)
    rw [if_neg c6] at H
    have c6b0 : decide (x6_1 < 8) = false := decide_eq_false c6
    clear c6
    by_cases c12 : x5_1.length < 140737488355328
    ·rw [if_pos c12] at H
     have LMc12 := Aside0.mk c12
     clear c12
     obtain ⟨y452, hy452⟩ : ∃ y_ : List Int, y_ = (x5_1 ++ [0]) := ⟨_, rfl⟩
     replace H : (qz.l0 k1 a0 y452 (wrap64 (x6_1 - 1))) = some r := by first | (rw [hy452]; with_reducible exact H) | (have H2_ := (Option.bind_some _ _).symm.trans H; rw [hy452]; with_reducible exact H2_) | (have H2_ := (Option.bind_some _ _).symm.trans H; with_reducible exact H2_) | with_reducible exact H | (rw [hy452]; exact H) | exact H
     have Ny452 := Aside0.mk hy452
     clear hy452
     have H' := Aside0.mk H
     clear H
     go_wp2_with (first | ((with_reducible refine gate_builtin (b := .append) (xs := #[.tmp 24, .tmp 26]) rfl ?_); at_builtin; refine Kd.R_append (Kd.int .u8) (w0 := w) w.heap.size rfl (.tmp 24) (.tmp 26) 65 5 (.int .u8 0) 1 rfl Tryz.underlying65 info5 rfl (by decide) (by omega) u5 x5_1 0 [.int .u8 0] (fun _ => True) (fun _ => False) rfl rfl ?aP (fun _ hk => hk.elim) ?aF ?aO ?aB ?aS ?aL ?_; (case aP => exact rfl); (case aB => exact z100_0); (case aF => exact (fun _ _ => trivial)); (case aO => exact z100_1); (case aS => exact (qm z100_0)); (case aL => have := LMc12.out; omega); intro v453 w13 ho hb hg hat; rw [← Ny452.out] at ho; have n0_ := Aside0.mk (hb); have n1_ := Aside0.mk (ho); clear HB; clear HO_5; have HB := n0_; have HO454 := n1_; clear n0_ n1_; clear ho hb hg hat))
     go_roundg k1
     case measure => have := HK1.out; omega
     case rel => exact ⟨(y452), (wrap64 (x6_1 - 1)), z100_2, H', ⟨by have := HK1.out; omega⟩, ⟨by (with_reducible repeat (first | apply Kd.R_alloc | apply Kd.R_drewN | apply Kd.R_drew)); exact HO454.out⟩, ⟨by repeat (first | (with_reducible first | exact HB.out | apply qg | apply qa | apply qi) | exact HB.out)⟩⟩
    rw [if_neg c12] at H
    exact absurd H (by simp)
   rw [if_neg c5] at H
   have c5b0 : decide (0 ≤ x6_1) = false := decide_eq_false c5
   clear c5
   obtain rfl := Option.some.inj H
   have hcv14 := own_string (P := Tryz.prog) Tryz.underlying65 Tryz.underlying5 Tryz.underlying9 (Kd.own_of_R HO_5.out)
   go_wp2
   go_ret
   exact ⟨(by first | rfl | (simp [qq, qp] <;> rfl) | (simp only [← hji3, ← hji4]; first | rfl | (simp [qq, qp] <;> rfl)) | (simp [*, qq, qp] <;> rfl)), z100_0⟩

end Go.Proofs.YtngmipfobcaojaaGreat.HA
end

-- YtngmipfobcaojaaGreatHA78
section
namespace Go.Proofs.YtngmipfobcaojaaGreat.HA
open Go.RowKit Go.Proofs.YtngmipfobcaojaaGreatW.PrintWords Go.Proofs.YtngmipfobcaojaaGreatW.PrintLast Go.Proofs.YtngmipfobcaojaaGreatW.PrintMore
attribute [local go_sem] q1k q1j q1s q1t q1a q19 q1h q1i

def q1v.f (k : Nat) (a0 : ByteArray) : Option (ByteArray × Int) := if (a0.size : Int) > 65535 then (some ((⟨#[]⟩ : ByteArray), 2)) else (if a0.size ≤ 9223372036854775807 then ((qz.f k (a0.size : Int) 2).bind fun t455 => (if t455.size + a0.size ≤ 9223372036854775807 then (some (t455 ++ a0, 0)) else (none))) else (none))
theorem z101_0 {p : Prop} (h : p := by repeat (first | (with_reducible first | exact HB.out | apply qg | apply qa | apply qi) | exact HB.out)) : p := h
set_option maxHeartbeats 8000000 in
set_option maxRecDepth 100000 in
theorem q1v.calls (k : Nat) (a0 : ByteArray) (r1 : ByteArray) (r2 : Int) (w : World) (h : q1v.f k a0 = some (r1, r2)) :
  Calls Tryz.prog 139 #[.string a0] w fun e w' => e = .returned (.tuple #[.string r1, .int .i64 r2]) ∧ Below w.heap.size w w' := by
 have HB := Aside0.mk (Below.refl w.heap.size w)
 have H : (if (a0.size : Int) > 65535 then (some ((⟨#[]⟩ : ByteArray), 2)) else (if a0.size ≤ 9223372036854775807 then ((qz.f k (a0.size : Int) 2).bind fun t455 => (if t455.size + a0.size ≤ 9223372036854775807 then (some (t455 ++ a0, 0)) else (none))) else (none))) = some (r1, r2) := h
 clear h
 by_cases c2 : (a0.size : Int) > 65535
 ·rw [if_pos c2] at H
  have c2b0 : decide (65535 < (a0.size : Int)) = true := decide_eq_true c2
  have c2b1 : decide (65535 < a0.size) = true := decide_eq_true (by omega)
  clear c2
  simp only [Option.some.injEq, Prod.mk.injEq] at H
  obtain ⟨rfl, rfl⟩ := H
  go_enter Tryz.func139, Tryz.ntmps139
  go_wp2
  go_ret2
  exact ⟨(by first | rfl | (simp [qq, qp] <;> rfl) | (simp [*, qq, qp] <;> rfl)), z101_0⟩
 rw [if_neg c2] at H
 have c2b0 : decide (65535 < (a0.size : Int)) = false := decide_eq_false c2
 have c2b1 : decide (65535 < a0.size) = false := decide_eq_false (by omega)
 clear c2
 by_cases c3 : a0.size ≤ 9223372036854775807
 ·rw [if_pos c3] at H
  have c3b0 := eq_true c3
  have c3b1 : decide (a0.size ≤ 9223372036854775807) = true := decide_eq_true c3
  try have c3b2 : (9223372036854775807 < a0.size) = False := eq_false (Nat.not_lt.2 c3)
  clear c3
  replace H := Option.bind_eq_some_iff.mp H
  obtain ⟨t455, A40, H⟩ := H
  replace H : (if t455.size + a0.size ≤ 9223372036854775807 then (some (t455 ++ a0, 0)) else (none)) = some (r1, r2) := H
  have A4 := Aside0.mk A40
  clear A40
  by_cases c5 : t455.size + a0.size ≤ 9223372036854775807
  ·rw [if_pos c5] at H
   have c5b0 := eq_true c5
   have c5b1 : decide (t455.size + a0.size ≤ 9223372036854775807) = true := decide_eq_true c5
   try have c5b2 : (9223372036854775807 < t455.size + a0.size) = False := eq_false (Nat.not_lt.2 c5)
   simp only [Option.some.injEq, Prod.mk.injEq] at H
   obtain ⟨rfl, rfl⟩ := H
   go_enter Tryz.func139, Tryz.ntmps139
   go_wp2_with (first | ((with_reducible refine ql (f := 85) rfl ?_); refine q1b (some 10) rfl rfl Tryz.func85 (by kernel_rfl) rfl #[.int .u64 (a0.size : Int), .int .i64 2] rfl (by (try simp only [List.map_toArray, List.map_cons, List.map_nil]); first | done | rfl | (simp only [List.length_drop, List.length_take]; rfl)) ?_; (with_reducible refine (qz.calls k (a0.size : Int) 2 t455 _ A4.out).mono ?_); rintro e w6 ⟨rfl, hb⟩; refine ⟨_, rfl, ?_⟩; have n0_ := Aside0.mk (qe z101_0 hb); clear HB; have HB := n0_; clear n0_; (try clear hb); (try clear hb2); (try clear hk); (try clear hi)))
   go_ret2
   exact ⟨(by first | rfl | (simp [qq, qp] <;> rfl) | (simp [*, qq, qp] <;> rfl)), z101_0⟩
  rw [if_neg c5] at H
  exact absurd H (by simp)
 rw [if_neg c3] at H
 exact absurd H (by simp)

end Go.Proofs.YtngmipfobcaojaaGreat.HA
end

-- YtngmipfobcaojaaGreatHA79
section
namespace Go.Proofs.YtngmipfobcaojaaGreat.HA
open Go.RowKit Go.Proofs.YtngmipfobcaojaaGreatW.PrintWords Go.Proofs.YtngmipfobcaojaaGreatW.PrintLast Go.Proofs.YtngmipfobcaojaaGreatW.PrintMore
attribute [local go_sem] q1k q1j q1s q1t q1a q19 q1h q1i

def polyglotref05_value.f (k : Nat) (a0_0 : Int) (a0_1 : Int) (a0_2 : ByteArray) (a0_3 : ByteArray) : Option (ByteArray) := (qn.f k a0_0).bind fun bt457 => (if bt457.1 = 1 then ((qz.f k (IntKind.u64.wrap (a0_1)) 1).bind fun t463 => (some t463)) else (if bt457.1 = 2 then ((qz.f k (IntKind.u64.wrap (a0_1)) 2).bind fun t464 => (some t464)) else (if bt457.1 = 3 then ((qz.f k (IntKind.u64.wrap (a0_1)) 4).bind fun t465 => (some t465)) else (if bt457.1 = 4 then ((q16.f k (wrap64 (a0_1))).bind fun bt466 => (some bt466.1)) else ((q1v.f k a0_2).bind fun bt468 => ((qn.f k a0_0).bind fun bt470 => (if bt470.1 = 7 then ((q1v.f k a0_3).bind fun bt476 => (if bt468.1.size + bt476.1.size ≤ 9223372036854775807 then (some (bt468.1 ++ bt476.1)) else (none))) else (some bt468.1))))))))
theorem z102_0 {p : Prop} (h : p := by repeat (first | (with_reducible first | exact HB.out | apply qg | apply qa | apply qi | refine qw ?_ GE456.out) | exact HB.out)) : p := h
theorem z102_1 {p : Prop} (h : p := by repeat (first | (with_reducible first | exact HB.out | apply qg | apply qa | apply qi) | exact HB.out)) : p := h
theorem z102_2 {p : Prop} (h : p := by kernel_rfl) : p := h
theorem z102_3 {p : Prop} (h : p := by (try simp only [List.map_toArray, List.map_cons, List.map_nil]); first | done | rfl | (simp only [List.length_drop, List.length_take]; rfl)) : p := h
theorem z102_4 {p : Prop} (h : p := by (with_reducible repeat (first | refine qd ?_ _ | refine qf ?_ | refine qc ?_ _)); exact BK456.out) : p := h
theorem z102_5 {p : Prop} (h : p := by (with_reducible repeat (first | apply Kd.R_alloc | apply Kd.R_drewN | apply Kd.R_drew)); exact HO460.out) : p := h
theorem z102_6 {p : Prop} (h : p := by first | rfl | (simp [qq, qp] <;> rfl) | (simp [*, qq, qp] <;> rfl)) : p := h
set_option maxHeartbeats 8000000 in
set_option maxRecDepth 100000 in
theorem polyglotref05_value.calls (k : Nat) (a0_0 : Int) (a0_1 : Int) (a0_2 : ByteArray) (a0_3 : ByteArray) (r : ByteArray) (w : World) (h : polyglotref05_value.f k a0_0 a0_1 a0_2 a0_3 = some r) :
  Calls Tryz.prog 104 #[.agg #[.int .i64 a0_0, .int .u32 a0_1, .string a0_2, .string a0_3]] w fun e w' => e = .returned (.string r) ∧ Below w.heap.size w w' := by
 have hu24 := Tryz.underlying24
 have hf80_0 : ∀ (v0 v1 v2 v3 : Value) (W : World), (Instr.field 80 (.agg #[v0, v1, v2, v3]) 0).run Tryz.prog W = .ok (v0) W := fun _ _ _ _ _ => by kernel_rfl
 have HB := Aside0.mk (Below.refl w.heap.size w)
 have H : ((qn.f k a0_0).bind fun bt457 => (if bt457.1 = 1 then ((qz.f k (IntKind.u64.wrap (a0_1)) 1).bind fun t463 => (some t463)) else (if bt457.1 = 2 then ((qz.f k (IntKind.u64.wrap (a0_1)) 2).bind fun t464 => (some t464)) else (if bt457.1 = 3 then ((qz.f k (IntKind.u64.wrap (a0_1)) 4).bind fun t465 => (some t465)) else (if bt457.1 = 4 then ((q16.f k (wrap64 (a0_1))).bind fun bt466 => (some bt466.1)) else ((q1v.f k a0_2).bind fun bt468 => ((qn.f k a0_0).bind fun bt470 => (if bt470.1 = 7 then ((q1v.f k a0_3).bind fun bt476 => (if bt468.1.size + bt476.1.size ≤ 9223372036854775807 then (some (bt468.1 ++ bt476.1)) else (none))) else (some bt468.1))))))))) = some r := h
 clear h
 replace H := Option.bind_eq_some_iff.mp H
 obtain ⟨⟨t457, t458, t461, t462⟩, A20, H⟩ := H
 replace H : (if t457 = 1 then ((qz.f k (IntKind.u64.wrap (a0_1)) 1).bind fun t463 => (some t463)) else (if t457 = 2 then ((qz.f k (IntKind.u64.wrap (a0_1)) 2).bind fun t464 => (some t464)) else (if t457 = 3 then ((qz.f k (IntKind.u64.wrap (a0_1)) 4).bind fun t465 => (some t465)) else (if t457 = 4 then ((q16.f k (wrap64 (a0_1))).bind fun bt466 => (some bt466.1)) else ((q1v.f k a0_2).bind fun bt468 => ((qn.f k a0_0).bind fun bt470 => (if bt470.1 = 7 then ((q1v.f k a0_3).bind fun bt476 => (if bt468.1.size + bt476.1.size ≤ 9223372036854775807 then (some (bt468.1 ++ bt476.1)) else (none))) else (some bt468.1)))))))) = some r := H
 have A2 := Aside0.mk A20
 clear A20
 by_cases c3 : t457 = 1
 ·rw [if_pos c3] at H
  have c3b0 : (t457 == 1) = true := beq_iff_eq.mpr c3
  have c3b1 : (t457 != 1) = false := bne_eq_false_iff_eq.mpr c3
  clear c3
  replace H := Option.bind_eq_some_iff.mp H
  obtain ⟨t463, A40, H⟩ := H
  replace H : (some t463) = some r := H
  have A4 := Aside0.mk A40
  clear A40
  obtain rfl := Option.some.inj H
  go_enter Tryz.func104, Tryz.ntmps104
  go_wp2_with (first | ((with_reducible refine q1c (N := 1) rfl ?_); refine q1r ?hg (N := 1) ?hd (cs := #[.int .i64 a0_0, .int .u32 a0_1, .string a0_2, .string a0_3]) (t := 24) ?hr ?_; (case hd => rfl); (case hg => rfl); (case hr => first | (go_simp; done) | (go_simp; rfl)); intro gb456 hg w5 hbox hb; have n0_ := Aside0.mk (qe z102_1 hb); have n1_ := Aside0.mk (hbox); have n2_ := Aside0.mk ((by rw [hg]; exact (qm z102_1) : w.heap.size ≤ gb456)); have n3_ := Aside0.mk ((by rw [hg]; exact (qm z102_1) : w.heap.size ≤ gb456)); clear HB; have HB := n0_; have BK456 := n1_; have GW456 := n2_; have GE456 := n3_; clear n0_ n1_ n2_ n3_; clear hb hbox hg; have hcz6_0 := zbc BK456 0 (.int .i64 a0_0); have hcz6_1 := zbc BK456 1 (.int .u32 a0_1); have hcz6_2 := zbc BK456 2 (.string a0_2); have hcz6_3 := zbc BK456 3 (.string a0_3); have hfz6_0 := q9 BK456.out 0; have hfz6_1 := q9 BK456.out 1; have hfz6_2 := q9 BK456.out 2; have hfz6_3 := q9 BK456.out 3) | ((with_reducible refine ql (f := 59) rfl ?_); refine q1b (some 11) rfl rfl Tryz.func59 z102_2 rfl #[.int .i64 a0_0] rfl z102_3 ?_; (with_reducible refine (qn.calls k a0_0 t457 t458 t461 t462 _ A2.out).mono ?_); rintro e w7 ⟨v459, rfl, ho0, hb⟩; refine ⟨_, rfl, ?_⟩; have n0_ := Aside0.mk (Kd.R_lower ho0 (qm z102_0)); have n1_ := Aside0.mk (qo (g := gb456) (o := .cells #[.int .i64 a0_0, .int .u32 a0_1, .string a0_2, .string a0_3] 24 (0, 0)) z102_4 hb); have n2_ := Aside0.mk (qe z102_0 hb); clear BK456; clear HB; have HO460 := n0_; have BK456 := n1_; have HB := n2_; clear n0_ n1_ n2_; (try clear hb); (try clear hb2); (try clear hk); (try clear hi); (try clear ho0); have hcz8_0 := zbc BK456 0 (.int .i64 a0_0); have hcz8_1 := zbc BK456 1 (.int .u32 a0_1); have hcz8_2 := zbc BK456 2 (.string a0_2); have hcz8_3 := zbc BK456 3 (.string a0_3); have hfz8_0 := q9 BK456.out 0; have hfz8_1 := q9 BK456.out 1; have hfz8_2 := q9 BK456.out 2; have hfz8_3 := q9 BK456.out 3) | ((with_reducible refine ql (f := 85) rfl ?_); refine q1b (some 18) rfl rfl Tryz.func85 z102_2 rfl #[.int .u64 (IntKind.u64.wrap (a0_1)), .int .i64 1] rfl z102_3 ?_; (with_reducible refine (qz.calls k (IntKind.u64.wrap (a0_1)) 1 t463 _ A4.out).mono ?_); rintro e w9 ⟨rfl, hb⟩; refine ⟨_, rfl, ?_⟩; have n0_ := Aside0.mk (Kd.R_below z102_5 hb); have n1_ := Aside0.mk (qo (g := gb456) (o := .cells #[.int .i64 a0_0, .int .u32 a0_1, .string a0_2, .string a0_3] 24 (0, 0)) z102_4 hb); have n2_ := Aside0.mk (qe z102_0 hb); clear HO460; clear BK456; clear HB; have HO460 := n0_; have BK456 := n1_; have HB := n2_; clear n0_ n1_ n2_; (try clear hb); (try clear hb2); (try clear hk); (try clear hi)))
  go_ret
  exact ⟨z102_6, z102_0⟩
 rw [if_neg c3] at H
 have c3b0 : (t457 == 1) = false := beq_eq_false_iff_ne.mpr c3
 have c3b1 : (t457 != 1) = true := bne_iff_ne.mpr c3
 by_cases c10 : t457 = 2
 ·rw [if_pos c10] at H
  have c10b0 : (t457 == 2) = true := beq_iff_eq.mpr c10
  have c10b1 : (t457 != 2) = false := bne_eq_false_iff_eq.mpr c10
  clear c10
  replace H := Option.bind_eq_some_iff.mp H
  obtain ⟨t464, A110, H⟩ := H
  replace H : (some t464) = some r := H
  have A11 := Aside0.mk A110
  clear A110
  obtain rfl := Option.some.inj H
  go_enter Tryz.func104, Tryz.ntmps104
  go_wp2_with (first | ((with_reducible refine q1c (N := 1) rfl ?_); refine q1r ?hg (N := 1) ?hd (cs := #[.int .i64 a0_0, .int .u32 a0_1, .string a0_2, .string a0_3]) (t := 24) ?hr ?_; (case hd => rfl); (case hg => rfl); (case hr => first | (go_simp; done) | (go_simp; rfl)); intro gb456 hg w12 hbox hb; have n0_ := Aside0.mk (qe z102_1 hb); have n1_ := Aside0.mk (hbox); have n2_ := Aside0.mk ((by rw [hg]; exact (qm z102_1) : w.heap.size ≤ gb456)); have n3_ := Aside0.mk ((by rw [hg]; exact (qm z102_1) : w.heap.size ≤ gb456)); clear HB; have HB := n0_; have BK456 := n1_; have GW456 := n2_; have GE456 := n3_; clear n0_ n1_ n2_ n3_; clear hb hbox hg; have hcz13_0 := zbc BK456 0 (.int .i64 a0_0); have hcz13_1 := zbc BK456 1 (.int .u32 a0_1); have hcz13_2 := zbc BK456 2 (.string a0_2); have hcz13_3 := zbc BK456 3 (.string a0_3); have hfz13_0 := q9 BK456.out 0; have hfz13_1 := q9 BK456.out 1; have hfz13_2 := q9 BK456.out 2; have hfz13_3 := q9 BK456.out 3) | ((with_reducible refine ql (f := 59) rfl ?_); refine q1b (some 11) rfl rfl Tryz.func59 z102_2 rfl #[.int .i64 a0_0] rfl z102_3 ?_; (with_reducible refine (qn.calls k a0_0 t457 t458 t461 t462 _ A2.out).mono ?_); rintro e w14 ⟨v459, rfl, ho0, hb⟩; refine ⟨_, rfl, ?_⟩; have n0_ := Aside0.mk (Kd.R_lower ho0 (qm z102_0)); have n1_ := Aside0.mk (qo (g := gb456) (o := .cells #[.int .i64 a0_0, .int .u32 a0_1, .string a0_2, .string a0_3] 24 (0, 0)) z102_4 hb); have n2_ := Aside0.mk (qe z102_0 hb); clear BK456; clear HB; have HO460 := n0_; have BK456 := n1_; have HB := n2_; clear n0_ n1_ n2_; (try clear hb); (try clear hb2); (try clear hk); (try clear hi); (try clear ho0); have hcz15_0 := zbc BK456 0 (.int .i64 a0_0); have hcz15_1 := zbc BK456 1 (.int .u32 a0_1); have hcz15_2 := zbc BK456 2 (.string a0_2); have hcz15_3 := zbc BK456 3 (.string a0_3); have hfz15_0 := q9 BK456.out 0; have hfz15_1 := q9 BK456.out 1; have hfz15_2 := q9 BK456.out 2; have hfz15_3 := q9 BK456.out 3) | ((with_reducible refine ql (f := 85) rfl ?_); refine q1b (some 24) rfl rfl Tryz.func85 z102_2 rfl #[.int .u64 (IntKind.u64.wrap (a0_1)), .int .i64 2] rfl z102_3 ?_; (with_reducible refine (qz.calls k (IntKind.u64.wrap (a0_1)) 2 t464 _ A11.out).mono ?_); rintro e w16 ⟨rfl, hb⟩; refine ⟨_, rfl, ?_⟩; have n0_ := Aside0.mk (Kd.R_below z102_5 hb); have n1_ := Aside0.mk (qo (g := gb456) (o := .cells #[.int .i64 a0_0, .int .u32 a0_1, .string a0_2, .string a0_3] 24 (0, 0)) z102_4 hb); have n2_ := Aside0.mk (qe z102_0 hb); clear HO460; clear BK456; clear HB; have HO460 := n0_; have BK456 := n1_; have HB := n2_; clear n0_ n1_ n2_; (try clear hb); (try clear hb2); (try clear hk); (try clear hi)))
  go_ret
  exact ⟨z102_6, z102_0⟩
 rw [if_neg c10] at H
 have c10b0 : (t457 == 2) = false := beq_eq_false_iff_ne.mpr c10
 have c10b1 : (t457 != 2) = true := bne_iff_ne.mpr c10
 by_cases c17 : t457 = 3
 ·rw [if_pos c17] at H
  have c17b0 : (t457 == 3) = true := beq_iff_eq.mpr c17
  have c17b1 : (t457 != 3) = false := bne_eq_false_iff_eq.mpr c17
  clear c17
  replace H := Option.bind_eq_some_iff.mp H
  obtain ⟨t465, A180, H⟩ := H
  replace H : (some t465) = some r := H
  have A18 := Aside0.mk A180
  clear A180
  obtain rfl := Option.some.inj H
  go_enter Tryz.func104, Tryz.ntmps104
  go_wp2_with (first | ((with_reducible refine q1c (N := 1) rfl ?_); refine q1r ?hg (N := 1) ?hd (cs := #[.int .i64 a0_0, .int .u32 a0_1, .string a0_2, .string a0_3]) (t := 24) ?hr ?_; (case hd => rfl); (case hg => rfl); (case hr => first | (go_simp; done) | (go_simp; rfl)); intro gb456 hg w19 hbox hb; have n0_ := Aside0.mk (qe z102_1 hb); have n1_ := Aside0.mk (hbox); have n2_ := Aside0.mk ((by rw [hg]; exact (qm z102_1) : w.heap.size ≤ gb456)); have n3_ := Aside0.mk ((by rw [hg]; exact (qm z102_1) : w.heap.size ≤ gb456)); clear HB; have HB := n0_; have BK456 := n1_; have GW456 := n2_; have GE456 := n3_; clear n0_ n1_ n2_ n3_; clear hb hbox hg; have hcz20_0 := zbc BK456 0 (.int .i64 a0_0); have hcz20_1 := zbc BK456 1 (.int .u32 a0_1); have hcz20_2 := zbc BK456 2 (.string a0_2); have hcz20_3 := zbc BK456 3 (.string a0_3); have hfz20_0 := q9 BK456.out 0; have hfz20_1 := q9 BK456.out 1; have hfz20_2 := q9 BK456.out 2; have hfz20_3 := q9 BK456.out 3) | ((with_reducible refine ql (f := 59) rfl ?_); refine q1b (some 11) rfl rfl Tryz.func59 z102_2 rfl #[.int .i64 a0_0] rfl z102_3 ?_; (with_reducible refine (qn.calls k a0_0 t457 t458 t461 t462 _ A2.out).mono ?_); rintro e w21 ⟨v459, rfl, ho0, hb⟩; refine ⟨_, rfl, ?_⟩; have n0_ := Aside0.mk (Kd.R_lower ho0 (qm z102_0)); have n1_ := Aside0.mk (qo (g := gb456) (o := .cells #[.int .i64 a0_0, .int .u32 a0_1, .string a0_2, .string a0_3] 24 (0, 0)) z102_4 hb); have n2_ := Aside0.mk (qe z102_0 hb); clear BK456; clear HB; have HO460 := n0_; have BK456 := n1_; have HB := n2_; clear n0_ n1_ n2_; (try clear hb); (try clear hb2); (try clear hk); (try clear hi); (try clear ho0); have hcz22_0 := zbc BK456 0 (.int .i64 a0_0); have hcz22_1 := zbc BK456 1 (.int .u32 a0_1); have hcz22_2 := zbc BK456 2 (.string a0_2); have hcz22_3 := zbc BK456 3 (.string a0_3); have hfz22_0 := q9 BK456.out 0; have hfz22_1 := q9 BK456.out 1; have hfz22_2 := q9 BK456.out 2; have hfz22_3 := q9 BK456.out 3) | ((with_reducible refine ql (f := 85) rfl ?_); refine q1b (some 30) rfl rfl Tryz.func85 z102_2 rfl #[.int .u64 (IntKind.u64.wrap (a0_1)), .int .i64 4] rfl z102_3 ?_; (with_reducible refine (qz.calls k (IntKind.u64.wrap (a0_1)) 4 t465 _ A18.out).mono ?_); rintro e w23 ⟨rfl, hb⟩; refine ⟨_, rfl, ?_⟩; have n0_ := Aside0.mk (Kd.R_below z102_5 hb); have n1_ := Aside0.mk (qo (g := gb456) (o := .cells #[.int .i64 a0_0, .int .u32 a0_1, .string a0_2, .string a0_3] 24 (0, 0)) z102_4 hb); have n2_ := Aside0.mk (qe z102_0 hb); clear HO460; clear BK456; clear HB; have HO460 := n0_; have BK456 := n1_; have HB := n2_; clear n0_ n1_ n2_; (try clear hb); (try clear hb2); (try clear hk); (try clear hi)))
  go_ret
  exact ⟨z102_6, z102_0⟩
 rw [if_neg c17] at H
 have c17b0 : (t457 == 3) = false := beq_eq_false_iff_ne.mpr c17
 have c17b1 : (t457 != 3) = true := bne_iff_ne.mpr c17
 by_cases c24 : t457 = 4
 ·rw [if_pos c24] at H
  have c24b0 : (t457 == 4) = true := beq_iff_eq.mpr c24
  have c24b1 : (t457 != 4) = false := bne_eq_false_iff_eq.mpr c24
  clear c24
  replace H := Option.bind_eq_some_iff.mp H
  obtain ⟨⟨t466, t467⟩, A250, H⟩ := H
  replace H : (some t466) = some r := H
  have A25 := Aside0.mk A250
  clear A250
  obtain rfl := Option.some.inj H
  go_enter Tryz.func104, Tryz.ntmps104
  go_wp2_with (first | ((with_reducible refine q1c (N := 1) rfl ?_); refine q1r ?hg (N := 1) ?hd (cs := #[.int .i64 a0_0, .int .u32 a0_1, .string a0_2, .string a0_3]) (t := 24) ?hr ?_; (case hd => rfl); (case hg => rfl); (case hr => first | (go_simp; done) | (go_simp; rfl)); intro gb456 hg w26 hbox hb; have n0_ := Aside0.mk (qe z102_1 hb); have n1_ := Aside0.mk (hbox); have n2_ := Aside0.mk ((by rw [hg]; exact (qm z102_1) : w.heap.size ≤ gb456)); have n3_ := Aside0.mk ((by rw [hg]; exact (qm z102_1) : w.heap.size ≤ gb456)); clear HB; have HB := n0_; have BK456 := n1_; have GW456 := n2_; have GE456 := n3_; clear n0_ n1_ n2_ n3_; clear hb hbox hg; have hcz27_0 := zbc BK456 0 (.int .i64 a0_0); have hcz27_1 := zbc BK456 1 (.int .u32 a0_1); have hcz27_2 := zbc BK456 2 (.string a0_2); have hcz27_3 := zbc BK456 3 (.string a0_3); have hfz27_0 := q9 BK456.out 0; have hfz27_1 := q9 BK456.out 1; have hfz27_2 := q9 BK456.out 2; have hfz27_3 := q9 BK456.out 3) | ((with_reducible refine ql (f := 59) rfl ?_); refine q1b (some 11) rfl rfl Tryz.func59 z102_2 rfl #[.int .i64 a0_0] rfl z102_3 ?_; (with_reducible refine (qn.calls k a0_0 t457 t458 t461 t462 _ A2.out).mono ?_); rintro e w28 ⟨v459, rfl, ho0, hb⟩; refine ⟨_, rfl, ?_⟩; have n0_ := Aside0.mk (Kd.R_lower ho0 (qm z102_0)); have n1_ := Aside0.mk (qo (g := gb456) (o := .cells #[.int .i64 a0_0, .int .u32 a0_1, .string a0_2, .string a0_3] 24 (0, 0)) z102_4 hb); have n2_ := Aside0.mk (qe z102_0 hb); clear BK456; clear HB; have HO460 := n0_; have BK456 := n1_; have HB := n2_; clear n0_ n1_ n2_; (try clear hb); (try clear hb2); (try clear hk); (try clear hi); (try clear ho0); have hcz29_0 := zbc BK456 0 (.int .i64 a0_0); have hcz29_1 := zbc BK456 1 (.int .u32 a0_1); have hcz29_2 := zbc BK456 2 (.string a0_2); have hcz29_3 := zbc BK456 3 (.string a0_3); have hfz29_0 := q9 BK456.out 0; have hfz29_1 := q9 BK456.out 1; have hfz29_2 := q9 BK456.out 2; have hfz29_3 := q9 BK456.out 3) | ((with_reducible refine ql (f := 52) rfl ?_); refine q1b (some 37) rfl rfl Tryz.func52 z102_2 rfl #[.int .i64 (wrap64 (a0_1))] rfl z102_3 ?_; (with_reducible refine (q16.calls k (wrap64 (a0_1)) t466 t467 _ A25.out).mono ?_); rintro e w30 ⟨rfl, hb⟩; refine ⟨_, rfl, ?_⟩; have n0_ := Aside0.mk (Kd.R_below z102_5 hb); have n1_ := Aside0.mk (qo (g := gb456) (o := .cells #[.int .i64 a0_0, .int .u32 a0_1, .string a0_2, .string a0_3] 24 (0, 0)) z102_4 hb); have n2_ := Aside0.mk (qe z102_0 hb); clear HO460; clear BK456; clear HB; have HO460 := n0_; have BK456 := n1_; have HB := n2_; clear n0_ n1_ n2_; (try clear hb); (try clear hb2); (try clear hk); (try clear hi)))
  go_ret
  exact ⟨z102_6, z102_0⟩
 rw [if_neg c24] at H
 have c24b0 : (t457 == 4) = false := beq_eq_false_iff_ne.mpr c24
 have c24b1 : (t457 != 4) = true := bne_iff_ne.mpr c24
 replace H := Option.bind_eq_some_iff.mp H
 obtain ⟨⟨t468, t469⟩, A310, H⟩ := H
 replace H : ((qn.f k a0_0).bind fun bt470 => (if bt470.1 = 7 then ((q1v.f k a0_3).bind fun bt476 => (if t468.size + bt476.1.size ≤ 9223372036854775807 then (some (t468 ++ bt476.1)) else (none))) else (some t468))) = some r := H
 have A31 := Aside0.mk A310
 clear A310
 replace H := Option.bind_eq_some_iff.mp H
 obtain ⟨⟨t470, t471, t474, t475⟩, A320, H⟩ := H
 replace H : (if t470 = 7 then ((q1v.f k a0_3).bind fun bt476 => (if t468.size + bt476.1.size ≤ 9223372036854775807 then (some (t468 ++ bt476.1)) else (none))) else (some t468)) = some r := H
 have A32 := Aside0.mk A320
 clear A320
 by_cases c33 : t470 = 7
 ·rw [if_pos c33] at H
  have c33b0 : (t470 == 7) = true := beq_iff_eq.mpr c33
  have c33b1 : (t470 != 7) = false := bne_eq_false_iff_eq.mpr c33
  clear c33
  replace H := Option.bind_eq_some_iff.mp H
  obtain ⟨⟨t476, t477⟩, A340, H⟩ := H
  replace H : (if t468.size + t476.size ≤ 9223372036854775807 then (some (t468 ++ t476)) else (none)) = some r := H
  have A34 := Aside0.mk A340
  clear A340
  by_cases c35 : t468.size + t476.size ≤ 9223372036854775807
  ·rw [if_pos c35] at H
   have c35b0 := eq_true c35
   have c35b1 : decide (t468.size + t476.size ≤ 9223372036854775807) = true := decide_eq_true c35
   try have c35b2 : (9223372036854775807 < t468.size + t476.size) = False := eq_false (Nat.not_lt.2 c35)
   obtain rfl := Option.some.inj H
   go_enter Tryz.func104, Tryz.ntmps104
   go_wp2_with (first | ((with_reducible refine q1c (N := 1) rfl ?_); refine q1r ?hg (N := 1) ?hd (cs := #[.int .i64 a0_0, .int .u32 a0_1, .string a0_2, .string a0_3]) (t := 24) ?hr ?_; (case hd => rfl); (case hg => rfl); (case hr => first | (go_simp; done) | (go_simp; rfl)); intro gb456 hg w36 hbox hb; have n0_ := Aside0.mk (qe z102_1 hb); have n1_ := Aside0.mk (hbox); have n2_ := Aside0.mk ((by rw [hg]; exact (qm z102_1) : w.heap.size ≤ gb456)); have n3_ := Aside0.mk ((by rw [hg]; exact (qm z102_1) : w.heap.size ≤ gb456)); clear HB; have HB := n0_; have BK456 := n1_; have GW456 := n2_; have GE456 := n3_; clear n0_ n1_ n2_ n3_; clear hb hbox hg; have hcz37_0 := zbc BK456 0 (.int .i64 a0_0); have hcz37_1 := zbc BK456 1 (.int .u32 a0_1); have hcz37_2 := zbc BK456 2 (.string a0_2); have hcz37_3 := zbc BK456 3 (.string a0_3); have hfz37_0 := q9 BK456.out 0; have hfz37_1 := q9 BK456.out 1; have hfz37_2 := q9 BK456.out 2; have hfz37_3 := q9 BK456.out 3) | ((with_reducible refine ql (f := 59) rfl ?_); refine q1b (some 11) rfl rfl Tryz.func59 z102_2 rfl #[.int .i64 a0_0] rfl z102_3 ?_; (with_reducible refine (qn.calls k a0_0 t457 t458 t461 t462 _ A2.out).mono ?_); rintro e w38 ⟨v459, rfl, ho0, hb⟩; refine ⟨_, rfl, ?_⟩; have n0_ := Aside0.mk (Kd.R_lower ho0 (qm z102_0)); have n1_ := Aside0.mk (qo (g := gb456) (o := .cells #[.int .i64 a0_0, .int .u32 a0_1, .string a0_2, .string a0_3] 24 (0, 0)) z102_4 hb); have n2_ := Aside0.mk (qe z102_0 hb); clear BK456; clear HB; have HO460 := n0_; have BK456 := n1_; have HB := n2_; clear n0_ n1_ n2_; (try clear hb); (try clear hb2); (try clear hk); (try clear hi); (try clear ho0); have hcz39_0 := zbc BK456 0 (.int .i64 a0_0); have hcz39_1 := zbc BK456 1 (.int .u32 a0_1); have hcz39_2 := zbc BK456 2 (.string a0_2); have hcz39_3 := zbc BK456 3 (.string a0_3); have hfz39_0 := q9 BK456.out 0; have hfz39_1 := q9 BK456.out 1; have hfz39_2 := q9 BK456.out 2; have hfz39_3 := q9 BK456.out 3) | ((with_reducible refine ql (f := 139) rfl ?_); refine q1b (some 44) rfl rfl Tryz.func139 z102_2 rfl #[.string a0_2] rfl z102_3 ?_; (with_reducible refine (q1v.calls k a0_2 t468 t469 _ A31.out).mono ?_); rintro e w40 ⟨rfl, hb⟩; refine ⟨_, rfl, ?_⟩; have n0_ := Aside0.mk (Kd.R_below z102_5 hb); have n1_ := Aside0.mk (qo (g := gb456) (o := .cells #[.int .i64 a0_0, .int .u32 a0_1, .string a0_2, .string a0_3] 24 (0, 0)) z102_4 hb); have n2_ := Aside0.mk (qe z102_0 hb); clear HO460; clear BK456; clear HB; have HO460 := n0_; have BK456 := n1_; have HB := n2_; clear n0_ n1_ n2_; (try clear hb); (try clear hb2); (try clear hk); (try clear hi); have hcz41_0 := zbc BK456 0 (.int .i64 a0_0); have hcz41_1 := zbc BK456 1 (.int .u32 a0_1); have hcz41_2 := zbc BK456 2 (.string a0_2); have hcz41_3 := zbc BK456 3 (.string a0_3); have hfz41_0 := q9 BK456.out 0; have hfz41_1 := q9 BK456.out 1; have hfz41_2 := q9 BK456.out 2; have hfz41_3 := q9 BK456.out 3) | ((with_reducible refine ql (f := 59) rfl ?_); refine q1b (some 49) rfl rfl Tryz.func59 z102_2 rfl #[.int .i64 a0_0] rfl z102_3 ?_; (with_reducible refine (qn.calls k a0_0 t470 t471 t474 t475 _ A32.out).mono ?_); rintro e w42 ⟨v472, rfl, ho0, hb⟩; refine ⟨_, rfl, ?_⟩; have n0_ := Aside0.mk (Kd.R_elder' z102_5 (Kd.R_base ho0) hb); have n1_ := Aside0.mk (Kd.R_lower (Kd.R_new' ho0 (Kd.R_lt z102_5)) (qm z102_0)); have n2_ := Aside0.mk (qo (g := gb456) (o := .cells #[.int .i64 a0_0, .int .u32 a0_1, .string a0_2, .string a0_3] 24 (0, 0)) z102_4 hb); have n3_ := Aside0.mk (qe z102_0 hb); clear HO460; clear BK456; clear HB; have HO460 := n0_; have HO473 := n1_; have BK456 := n2_; have HB := n3_; clear n0_ n1_ n2_ n3_; (try clear hb); (try clear hb2); (try clear hk); (try clear hi); (try clear ho0); have hcz43_0 := zbc BK456 0 (.int .i64 a0_0); have hcz43_1 := zbc BK456 1 (.int .u32 a0_1); have hcz43_2 := zbc BK456 2 (.string a0_2); have hcz43_3 := zbc BK456 3 (.string a0_3); have hfz43_0 := q9 BK456.out 0; have hfz43_1 := q9 BK456.out 1; have hfz43_2 := q9 BK456.out 2; have hfz43_3 := q9 BK456.out 3) | ((with_reducible refine ql (f := 139) rfl ?_); refine q1b (some 55) rfl rfl Tryz.func139 z102_2 rfl #[.string a0_3] rfl z102_3 ?_; (with_reducible refine (q1v.calls k a0_3 t476 t477 _ A34.out).mono ?_); rintro e w44 ⟨rfl, hb⟩; refine ⟨_, rfl, ?_⟩; have n0_ := Aside0.mk (Kd.R_below z102_5 hb); have n1_ := Aside0.mk (Kd.R_below (by (with_reducible repeat (first | apply Kd.R_alloc | apply Kd.R_drewN | apply Kd.R_drew)); exact HO473.out) hb); have n2_ := Aside0.mk (qo (g := gb456) (o := .cells #[.int .i64 a0_0, .int .u32 a0_1, .string a0_2, .string a0_3] 24 (0, 0)) z102_4 hb); have n3_ := Aside0.mk (qe z102_0 hb); clear HO460; clear HO473; clear BK456; clear HB; have HO460 := n0_; have HO473 := n1_; have BK456 := n2_; have HB := n3_; clear n0_ n1_ n2_ n3_; (try clear hb); (try clear hb2); (try clear hk); (try clear hi)))
   go_ret
   exact ⟨z102_6, z102_0⟩
  rw [if_neg c35] at H
  exact absurd H (by simp)
 rw [if_neg c33] at H
 have c33b0 : (t470 == 7) = false := beq_eq_false_iff_ne.mpr c33
 have c33b1 : (t470 != 7) = true := bne_iff_ne.mpr c33
 obtain rfl := Option.some.inj H
 go_enter Tryz.func104, Tryz.ntmps104
 go_wp2_with (first | ((with_reducible refine q1c (N := 1) rfl ?_); refine q1r ?hg (N := 1) ?hd (cs := #[.int .i64 a0_0, .int .u32 a0_1, .string a0_2, .string a0_3]) (t := 24) ?hr ?_; (case hd => rfl); (case hg => rfl); (case hr => first | (go_simp; done) | (go_simp; rfl)); intro gb456 hg w45 hbox hb; have n0_ := Aside0.mk (qe z102_1 hb); have n1_ := Aside0.mk (hbox); have n2_ := Aside0.mk ((by rw [hg]; exact (qm z102_1) : w.heap.size ≤ gb456)); have n3_ := Aside0.mk ((by rw [hg]; exact (qm z102_1) : w.heap.size ≤ gb456)); clear HB; have HB := n0_; have BK456 := n1_; have GW456 := n2_; have GE456 := n3_; clear n0_ n1_ n2_ n3_; clear hb hbox hg; have hcz46_0 := zbc BK456 0 (.int .i64 a0_0); have hcz46_1 := zbc BK456 1 (.int .u32 a0_1); have hcz46_2 := zbc BK456 2 (.string a0_2); have hcz46_3 := zbc BK456 3 (.string a0_3); have hfz46_0 := q9 BK456.out 0; have hfz46_1 := q9 BK456.out 1; have hfz46_2 := q9 BK456.out 2; have hfz46_3 := q9 BK456.out 3) | ((with_reducible refine ql (f := 59) rfl ?_); refine q1b (some 11) rfl rfl Tryz.func59 z102_2 rfl #[.int .i64 a0_0] rfl z102_3 ?_; (with_reducible refine (qn.calls k a0_0 t457 t458 t461 t462 _ A2.out).mono ?_); rintro e w47 ⟨v459, rfl, ho0, hb⟩; refine ⟨_, rfl, ?_⟩; have n0_ := Aside0.mk (Kd.R_lower ho0 (qm z102_0)); have n1_ := Aside0.mk (qo (g := gb456) (o := .cells #[.int .i64 a0_0, .int .u32 a0_1, .string a0_2, .string a0_3] 24 (0, 0)) z102_4 hb); have n2_ := Aside0.mk (qe z102_0 hb); clear BK456; clear HB; have HO460 := n0_; have BK456 := n1_; have HB := n2_; clear n0_ n1_ n2_; (try clear hb); (try clear hb2); (try clear hk); (try clear hi); (try clear ho0); have hcz48_0 := zbc BK456 0 (.int .i64 a0_0); have hcz48_1 := zbc BK456 1 (.int .u32 a0_1); have hcz48_2 := zbc BK456 2 (.string a0_2); have hcz48_3 := zbc BK456 3 (.string a0_3); have hfz48_0 := q9 BK456.out 0; have hfz48_1 := q9 BK456.out 1; have hfz48_2 := q9 BK456.out 2; have hfz48_3 := q9 BK456.out 3) | ((with_reducible refine ql (f := 139) rfl ?_); refine q1b (some 44) rfl rfl Tryz.func139 z102_2 rfl #[.string a0_2] rfl z102_3 ?_; (with_reducible refine (q1v.calls k a0_2 t468 t469 _ A31.out).mono ?_); rintro e w49 ⟨rfl, hb⟩; refine ⟨_, rfl, ?_⟩; have n0_ := Aside0.mk (Kd.R_below z102_5 hb); have n1_ := Aside0.mk (qo (g := gb456) (o := .cells #[.int .i64 a0_0, .int .u32 a0_1, .string a0_2, .string a0_3] 24 (0, 0)) z102_4 hb); have n2_ := Aside0.mk (qe z102_0 hb); clear HO460; clear BK456; clear HB; have HO460 := n0_; have BK456 := n1_; have HB := n2_; clear n0_ n1_ n2_; (try clear hb); (try clear hb2); (try clear hk); (try clear hi); have hcz50_0 := zbc BK456 0 (.int .i64 a0_0); have hcz50_1 := zbc BK456 1 (.int .u32 a0_1); have hcz50_2 := zbc BK456 2 (.string a0_2); have hcz50_3 := zbc BK456 3 (.string a0_3); have hfz50_0 := q9 BK456.out 0; have hfz50_1 := q9 BK456.out 1; have hfz50_2 := q9 BK456.out 2; have hfz50_3 := q9 BK456.out 3) | ((with_reducible refine ql (f := 59) rfl ?_); refine q1b (some 49) rfl rfl Tryz.func59 z102_2 rfl #[.int .i64 a0_0] rfl z102_3 ?_; (with_reducible refine (qn.calls k a0_0 t470 t471 t474 t475 _ A32.out).mono ?_); rintro e w51 ⟨v472, rfl, ho0, hb⟩; refine ⟨_, rfl, ?_⟩; have n0_ := Aside0.mk (Kd.R_elder' z102_5 (Kd.R_base ho0) hb); have n1_ := Aside0.mk (Kd.R_lower (Kd.R_new' ho0 (Kd.R_lt z102_5)) (qm z102_0)); have n2_ := Aside0.mk (qo (g := gb456) (o := .cells #[.int .i64 a0_0, .int .u32 a0_1, .string a0_2, .string a0_3] 24 (0, 0)) z102_4 hb); have n3_ := Aside0.mk (qe z102_0 hb); clear HO460; clear BK456; clear HB; have HO460 := n0_; have HO473 := n1_; have BK456 := n2_; have HB := n3_; clear n0_ n1_ n2_ n3_; (try clear hb); (try clear hb2); (try clear hk); (try clear hi); (try clear ho0)))
 go_ret
 exact ⟨z102_6, z102_0⟩

end Go.Proofs.YtngmipfobcaojaaGreat.HA
end

-- YtngmipfobcaojaaGreatHA80
section
namespace Go.Proofs.YtngmipfobcaojaaGreat.HA
open Go.RowKit Go.Proofs.YtngmipfobcaojaaGreatW.PrintWords Go.Proofs.YtngmipfobcaojaaGreatW.PrintLast Go.Proofs.YtngmipfobcaojaaGreatW.PrintMore
attribute [local go_sem] q1k q1j q1s q1t q1a q19 q1h q1i
abbrev tT103 := true
abbrev fF103 := false

def q12.l0 : Nat → List (S24) → ByteArray → Int → Option (ByteArray)
 | 0, _, _, _ => none
 | k + 1, x0, x3, x4 => if x4 < (x0.length : Int) then (if 0 ≤ x4 then ((some (([((qu x0 x4).f0) % 256] : List Int) : List Int)).bind fun y479 => (if x3.size + (strOfNums y479).size ≤ 9223372036854775807 then ((polyglotref05_value.f k ((qu x0 x4).f0) ((qu x0 x4).f1) ((qu x0 x4).f2) ((qu x0 x4).f3)).bind fun t483 => (if (x3 ++ (strOfNums y479)).size + t483.size ≤ 9223372036854775807 then (q12.l0 k x0 ((x3 ++ (strOfNums y479)) ++ t483) (wrap64 (x4 + 1))) else (none))) else (none))) else (none)) else (some x3)
def q12.f (k : Nat) (l0 : List (S24)) : Option (ByteArray) := q12.l0 k l0 (⟨#[]⟩ : ByteArray) 0
def q12.T5 : Bool × List (List Nat × List Nat) := (true, [([], []), ([], []), ([], []), ([1, 2], [1, 2]), ([3], [3]), ([4], [4]), ([5], [5]), ([6], [6]), ([7], [7]), ([0, 8], [0, 8]), ([], []), ([], []), ([10, 11], [10, 11]), ([12], [12]), ([13], [13]), ([9, 14], [9, 14]), ([15, 14, 0, 1, 2, 3, 4, 5, 6, 7, 8, 9, 10, 11, 12, 13, 14, 15], [0, 15])])
def q12.B5 : List Nat := [0, 0, 0, 6, 14, 30, 62, 126, 254, 511, 0, 0, 3072, 7168, 15360, 32767, 65535]
theorem q12.tab5 : rtab .any (opsOf Tryz.f51 5) = q12.T5 := by kernel_rfl
theorem q12.bits5 : waitsOk q12.T5.2 q12.B5 = true := by kernel_rfl
theorem z103_0 {p : Prop} (h : p := by kernel_rfl) : p := h
theorem z103_1 {p : Prop} (h : p := by repeat (first | (with_reducible first | exact HB.out | apply qg | apply qa | apply qi) | exact HB.out)) : p := h
theorem z103_2 {p : Prop} (h : p := by (with_reducible repeat (first | apply Kd.R_alloc | apply Kd.R_drewN | apply Kd.R_drew)); exact HO481.out) : p := h
theorem z103_3 {p : Prop} (h : p := by first | rfl | (simp; done) | (simp [*]; done) | (simp; exact qh _) | exact qh _ | (simp; exact (qh _).symm) | (simp; exact q15 _)) : p := h
theorem z103_4 {p : Prop} (h : p := by first | (with_reducible assumption) | assumption) : p := h
theorem z103_5 {p : Prop} (h : p := by (try simp only [List.map_toArray, List.map_cons, List.map_nil]); first | done | rfl | (simp only [List.length_drop, List.length_take]; rfl)) : p := h
theorem z103_6 {p : Prop} (h : p := by simp only [putAll, Act.put, List.setIfInBounds_toArray, List.set_cons_zero, List.set_cons_succ]) : p := h
set_option maxHeartbeats 8000000 in
set_option maxRecDepth 100000 in
theorem q12.calls (k : Nat) (A0 : Option Addr) (c0 : Nat) (l0 : List (S24)) (r : ByteArray) (w : World) (hr0 : Kd.C k24 w A0 l0.length l0) (hc0 : l0.length ≤ c0) (h : q12.f k l0 = some r) :
  Calls Tryz.prog 51 #[.slice A0 l0.length c0] w fun e w' => e = .returned (.string r) ∧ Below w.heap.size w w' := by
 have hu24 := Tryz.underlying24
 have HR0 := Aside0.mk hr0
 have HC0 := Aside0.mk hc0
 clear hr0 hc0
 have HB := Aside0.mk (Below.refl w.heap.size w)
 have H : (q12.l0 k l0 (⟨#[]⟩ : ByteArray) 0) = some r := h
 clear h
 have H' := Aside0.mk H
 clear H
 go_enter Tryz.func51, Tryz.ntmps51
 go_wp2
 go_loopg [3, 4] k (fun kq v3 v4 w' => ∃ (x3_1 : ByteArray) (x4_1 : Int), v3 = .string x3_1 ∧ v4 = .int .i64 x4_1 ∧ Aside0 (q12.l0 kq l0 x3_1 x4_1 = some r) ∧ Aside0 (kq ≤ k) ∧ Aside0 (Below w.heap.size w w'))
 case atStart => exact ⟨((⟨#[]⟩ : ByteArray)), (0), z103_3, z103_3, H', ⟨Nat.le_refl _⟩, ⟨z103_1⟩⟩
 case round =>
  clear H'
  obtain ⟨x3_1, x4_1, rfl, rfl, HA, HK1, HB⟩ := hrel
  cases gk with
  | zero => exact absurd HA.out (by simp [q12.l0])
  | succ k1 =>
   have H := HA.out
   clear HA
   simp only [q12.l0] at H
   by_cases c2 : x4_1 < (l0.length : Int)
   ·rw [if_pos c2] at H
    have c2b0 : decide (x4_1 < (l0.length : Int)) = true := decide_eq_true c2
    clear c2
    by_cases c3 : 0 ≤ x4_1
    ·rw [if_pos c3] at H
     have c3b0 : decide (0 ≤ x4_1) = true := decide_eq_true c3
     clear c3
     obtain ⟨y479, hy479⟩ : ∃ y_ : List Int, y_ = (([((qu l0 x4_1).f0) % 256] : List Int)) := ⟨_, rfl⟩
     replace H : (if x3_1.size + (strOfNums y479).size ≤ 9223372036854775807 then ((polyglotref05_value.f k1 ((qu l0 x4_1).f0) ((qu l0 x4_1).f1) ((qu l0 x4_1).f2) ((qu l0 x4_1).f3)).bind fun t483 => (if (x3_1 ++ (strOfNums y479)).size + t483.size ≤ 9223372036854775807 then (q12.l0 k1 l0 ((x3_1 ++ (strOfNums y479)) ++ t483) (wrap64 (x4_1 + 1))) else (none))) else (none)) = some r := by first | (rw [hy479]; with_reducible exact H) | (have H2_ := (Option.bind_some _ _).symm.trans H; rw [hy479]; with_reducible exact H2_) | (have H2_ := (Option.bind_some _ _).symm.trans H; with_reducible exact H2_) | with_reducible exact H | (rw [hy479]; exact H) | exact H
     have Ny479 := Aside0.mk hy479
     clear hy479
     by_cases c4 : x3_1.size + (strOfNums y479).size ≤ 9223372036854775807
     ·rw [if_pos c4] at H
      have c4b0 := eq_true c4
      have c4b1 : decide (x3_1.size + (strOfNums y479).size ≤ 9223372036854775807) = true := decide_eq_true c4
      try have c4b2 : (9223372036854775807 < x3_1.size + (strOfNums y479).size) = False := eq_false (Nat.not_lt.2 c4)
      replace H := Option.bind_eq_some_iff.mp H
      obtain ⟨t483, A50, H⟩ := H
      replace H : (if (x3_1 ++ (strOfNums y479)).size + t483.size ≤ 9223372036854775807 then (q12.l0 k1 l0 ((x3_1 ++ (strOfNums y479)) ++ t483) (wrap64 (x4_1 + 1))) else (none)) = some r := H
      have A5 := Aside0.mk A50
      clear A50
      by_cases c6 : (x3_1 ++ (strOfNums y479)).size + t483.size ≤ 9223372036854775807
      ·rw [if_pos c6] at H
       have c6b0 := eq_true c6
       have c6b1 : decide ((x3_1 ++ (strOfNums y479)).size + t483.size ≤ 9223372036854775807) = true := decide_eq_true c6
       try have c6b2 : (9223372036854775807 < (x3_1 ++ (strOfNums y479)).size + t483.size) = False := eq_false (Nat.not_lt.2 c6)
       try (have c6b3 := c6b2; rw [ByteArray.size_append] at c6b3)
       have H' := Aside0.mk H
       clear H
       try go_wp2
       have n0_ := Aside0.mk (qi HB.out)
       clear HB
       have HB := n0_
       clear n0_
       have p478 : 0 ≤ (x4_1 : Int) := of_decide_eq_true z103_4
       have q478 : x4_1 < (l0.length : Int) := of_decide_eq_true z103_4
       obtain ⟨ad478, e478, hx478_0, hx478_1, hx478_2, hx478_3⟩ := at_T24 HR0.out x4_1 p478 q478
       have hw478_3 := hx478_3
       have hw478_2 := hx478_2
       have hw478_1 := hx478_1
       have hw478_0 := hx478_0
       cases e478
       replace hx478_0 := (HB.out.cell (World.block_lt_of_cell? w _ hx478_0)).trans hx478_0
       replace hx478_1 := (HB.out.cell (World.block_lt_of_cell? w _ hx478_1)).trans hx478_1
       replace hx478_2 := (HB.out.cell (World.block_lt_of_cell? w _ hx478_2)).trans hx478_2
       replace hx478_3 := (HB.out.cell (World.block_lt_of_cell? w _ hx478_3)).trans hx478_3
       replace p478 := eq_true p478
       replace q478 := eq_true q478
       have p482 : 0 ≤ (x4_1 : Int) := of_decide_eq_true z103_4
       have q482 : x4_1 < (l0.length : Int) := of_decide_eq_true z103_4
       obtain ⟨ad482, e482, hx482_0, hx482_1, hx482_2, hx482_3⟩ := at_T24 HR0.out x4_1 p482 q482
       have hw482_3 := hx482_3
       have hw482_2 := hx482_2
       have hw482_1 := hx482_1
       have hw482_0 := hx482_0
       obtain rfl : ad478 = ad482 := (by injection e482)
       replace hx482_0 := (HB.out.cell (World.block_lt_of_cell? w _ hx482_0)).trans hx482_0
       replace hx482_1 := (HB.out.cell (World.block_lt_of_cell? w _ hx482_1)).trans hx482_1
       replace hx482_2 := (HB.out.cell (World.block_lt_of_cell? w _ hx482_2)).trans hx482_2
       replace hx482_3 := (HB.out.cell (World.block_lt_of_cell? w _ hx482_3)).trans hx482_3
       replace p482 := eq_true p482
       replace q482 := eq_true q482
       refine start_ (n := 17) (S := fun w' => w'.cell? (ad478.add ((x4_1).toNat * 4)) = some (.int .i64 ((qu l0 x4_1).f0)) ∧ w'.cell? ⟨(ad478.add ((x4_1).toNat * 4)).block, (ad478.add ((x4_1).toNat * 4)).off + 1, none⟩ = some (.int .u32 ((qu l0 x4_1).f1)) ∧ w'.cell? ⟨(ad478.add ((x4_1).toNat * 4)).block, (ad478.add ((x4_1).toNat * 4)).off + 2, none⟩ = some (.string ((qu l0 x4_1).f2)) ∧ w'.cell? ⟨(ad478.add ((x4_1).toNat * 4)).block, (ad478.add ((x4_1).toNat * 4)).off + 3, none⟩ = some (.string ((qu l0 x4_1).f3)) ∧ w'.cell? (ad478.add ((x4_1).toNat * 4)) = some (.int .i64 ((qu l0 x4_1).f0)) ∧ w'.cell? ⟨(ad478.add ((x4_1).toNat * 4)).block, (ad478.add ((x4_1).toNat * 4)).off + 1, none⟩ = some (.int .u32 ((qu l0 x4_1).f1)) ∧ w'.cell? ⟨(ad478.add ((x4_1).toNat * 4)).block, (ad478.add ((x4_1).toNat * 4)).off + 2, none⟩ = some (.string ((qu l0 x4_1).f2)) ∧ w'.cell? ⟨(ad478.add ((x4_1).toNat * 4)).block, (ad478.add ((x4_1).toNat * 4)).off + 3, none⟩ = some (.string ((qu l0 x4_1).f3))) (ds := []) #[fF103,fF103,fF103,fF103,fF103,fF103,fF103,fF103,fF103,fF103,fF103,fF103,fF103,fF103,fF103,fF103,fF103] z103_0 rfl rfl ⟨((HB.out.cell (World.block_lt_of_cell? w _ hw478_0)).trans hw478_0), ((HB.out.cell (World.block_lt_of_cell? w _ hw478_1)).trans hw478_1), ((HB.out.cell (World.block_lt_of_cell? w _ hw478_2)).trans hw478_2), ((HB.out.cell (World.block_lt_of_cell? w _ hw478_3)).trans hw478_3), ((HB.out.cell (World.block_lt_of_cell? w _ hw482_0)).trans hw482_0), ((HB.out.cell (World.block_lt_of_cell? w _ hw482_1)).trans hw482_1), ((HB.out.cell (World.block_lt_of_cell? w _ hw482_2)).trans hw482_2), ((HB.out.cell (World.block_lt_of_cell? w _ hw482_3)).trans hw482_3)⟩ (fun hHeld => ?_); refine with_tabW q12.tab5 q12.bits5 (fun HT_ HW_ => ?_)
       generalize wr.drew = w7 at HB hx478_0 hx478_1 hx478_2 hx478_3 hx482_0 hx482_1 hx482_2 hx482_3 hHeld ⊢
       refine pure_ (i := 0) (N := some 11) (v := ?_) (a' := ?_) #[tT103,fF103,fF103,fF103,fF103,fF103,fF103,fF103,fF103,fF103,fF103,fF103,fF103,fF103,fF103,fF103,fF103] rfl rfl (q1q HT_.out z103_0) (fun _ _ _ h => h) (Or.inl ⟨by rfl, ?_⟩) ?_ ?_
       rotate_left
       ·intro w'
        go_simp
        with_reducible rfl
       rotate_left
       ·simp only [Act.put, List.setIfInBounds_toArray, List.set_cons_zero, List.set_cons_succ, i64_w, i32_w]
        rfl
       refine pure_ (i := 1) (N := some 12) (v := ?_) (a' := ?_) #[tT103,tT103,fF103,fF103,fF103,fF103,fF103,fF103,fF103,fF103,fF103,fF103,fF103,fF103,fF103,fF103,fF103] rfl rfl (q1q HT_.out z103_0) (fun _ _ _ h => h) (Or.inl ⟨by rfl, ?_⟩) ?_ ?_
       rotate_left
       ·intro w'
        go_simp
        with_reducible rfl
       rotate_left
       ·simp only [Act.put, List.setIfInBounds_toArray, List.set_cons_zero, List.set_cons_succ, i64_w, i32_w]
        rfl
       refine pure_ (i := 2) (N := some 13) (v := ?_) (a' := ?_) #[tT103,tT103,tT103,fF103,fF103,fF103,fF103,fF103,fF103,fF103,fF103,fF103,fF103,fF103,fF103,fF103,fF103] rfl rfl (q1q HT_.out z103_0) (fun _ _ _ h => h) (Or.inl ⟨by rfl, ?_⟩) ?_ ?_
       rotate_left
       ·intro w'
        go_simp
        with_reducible rfl
       rotate_left
       ·simp only [Act.put, List.setIfInBounds_toArray, List.set_cons_zero, List.set_cons_succ, i64_w, i32_w]
        rfl
       refine pure_ (i := 3) (N := some 14) (v := ?_) (a' := ?_) #[tT103,tT103,tT103,tT103,fF103,fF103,fF103,fF103,fF103,fF103,fF103,fF103,fF103,fF103,fF103,fF103,fF103] rfl rfl (q1q HT_.out z103_0) (fun _ _ _ h => h) (Or.inl ⟨by rfl, ?_⟩) ?_ ?_
       rotate_left
       ·intro w'
        go_simp
        with_reducible rfl
       rotate_left
       ·simp only [Act.put, List.setIfInBounds_toArray, List.set_cons_zero, List.set_cons_succ, i64_w, i32_w]
        rfl
       refine pure_ (i := 4) (N := some 15) (v := ?_) (a' := ?_) #[tT103,tT103,tT103,tT103,tT103,fF103,fF103,fF103,fF103,fF103,fF103,fF103,fF103,fF103,fF103,fF103,fF103] rfl rfl (q1q HT_.out z103_0) (fun _ _ _ h => h) (Or.inl ⟨by rfl, ?_⟩) ?_ ?_
       rotate_left
       ·intro w'
        go_simp
        with_reducible rfl
       rotate_left
       ·simp only [Act.put, List.setIfInBounds_toArray, List.set_cons_zero, List.set_cons_succ, i64_w, i32_w]
        rfl
       refine pure_ (i := 10) (N := some 21) (v := ?_) (a' := ?_) #[tT103,tT103,tT103,tT103,tT103,fF103,fF103,fF103,fF103,fF103,tT103,fF103,fF103,fF103,fF103,fF103,fF103] rfl rfl (q1q HT_.out z103_0) (fun _ _ _ h => h) (Or.inl ⟨by rfl, ?_⟩) ?_ ?_
       rotate_left
       ·intro w'
        go_simp
        with_reducible rfl
       rotate_left
       ·simp only [Act.put, List.setIfInBounds_toArray, List.set_cons_zero, List.set_cons_succ, i64_w, i32_w]
        rfl
       refine pure_ (i := 11) (N := some 22) (v := ?_) (a' := ?_) #[tT103,tT103,tT103,tT103,tT103,fF103,fF103,fF103,fF103,fF103,tT103,tT103,fF103,fF103,fF103,fF103,fF103] rfl rfl (q1q HT_.out z103_0) (fun _ _ _ h => h) (Or.inl ⟨by rfl, ?_⟩) ?_ ?_
       rotate_left
       ·intro w'
        go_simp
        with_reducible rfl
       rotate_left
       ·simp only [Act.put, List.setIfInBounds_toArray, List.set_cons_zero, List.set_cons_succ, i64_w, i32_w]
        rfl
       refine pure_ (i := 12) (N := some 23) (v := ?_) (a' := ?_) #[tT103,tT103,tT103,tT103,tT103,fF103,fF103,fF103,fF103,fF103,tT103,tT103,tT103,fF103,fF103,fF103,fF103] rfl rfl (q1q HT_.out z103_0) (fun _ _ _ h => h) (Or.inl ⟨by rfl, ?_⟩) ?_ ?_
       rotate_left
       ·intro w'
        go_simp
        with_reducible rfl
       rotate_left
       ·simp only [Act.put, List.setIfInBounds_toArray, List.set_cons_zero, List.set_cons_succ, i64_w, i32_w]
        rfl
       refine take_ (i := 5) (N := some 16) (v := ?_) (a' := ?_) #[tT103,tT103,tT103,tT103,tT103,tT103,fF103,fF103,fF103,fF103,tT103,tT103,tT103,fF103,fF103,fF103,fF103] rfl rfl (take_ofW HT_.out HW_.out z103_0) (fun _ _ _ h => h) (Or.inl ⟨by rfl, ?_⟩) hHeld ?_ ?_
       rotate_left
       ·rintro w' ⟨s0, s1, s2, s3, s4, s5, s6, s7⟩
        go_simp
        with_reducible rfl
       rotate_left
       ·simp only [Act.put, List.setIfInBounds_toArray, List.set_cons_zero, List.set_cons_succ, i64_w, i32_w]
        rfl
       refine pure_ (i := 6) (N := some 17) (v := ?_) (a' := ?_) #[tT103,tT103,tT103,tT103,tT103,tT103,tT103,fF103,fF103,fF103,tT103,tT103,tT103,fF103,fF103,fF103,fF103] rfl rfl (q1q HT_.out z103_0) (fun _ _ _ h => h) (Or.inl ⟨by rfl, ?_⟩) ?_ ?_
       rotate_left
       ·intro w'
        go_simp
        with_reducible rfl
       rotate_left
       ·simp only [Act.put, List.setIfInBounds_toArray, List.set_cons_zero, List.set_cons_succ, i64_w, i32_w]
        rfl
       refine take_ (i := 13) (N := some 24) (v := ?_) (a' := ?_) #[tT103,tT103,tT103,tT103,tT103,tT103,tT103,fF103,fF103,fF103,tT103,tT103,tT103,tT103,fF103,fF103,fF103] rfl rfl (take_ofW HT_.out HW_.out z103_0) (fun _ _ _ h => h) (Or.inl ⟨by rfl, ?_⟩) hHeld ?_ ?_
       rotate_left
       ·rintro w' ⟨s0, s1, s2, s3, s4, s5, s6, s7⟩
        go_simp
        with_reducible rfl
       rotate_left
       ·simp only [Act.put, List.setIfInBounds_toArray, List.set_cons_zero, List.set_cons_succ, i64_w, i32_w]
        rfl
       refine join_ (σ := Value) 2 #[tT103,tT103,tT103,tT103,tT103,tT103,tT103,tT103,tT103,tT103,tT103,tT103,tT103,tT103,tT103,fF103,fF103] (fun s_ => [(18, s_), (19, .string (strOfNums y479)), (25, .string t483), (20, .string (x3_1 ++ (strOfNums y479)))]) (fun s_ w' => (w'.cell? (ad478.add ((x4_1).toNat * 4)) = some (.int .i64 ((qu l0 x4_1).f0)) ∧ w'.cell? ⟨(ad478.add ((x4_1).toNat * 4)).block, (ad478.add ((x4_1).toNat * 4)).off + 1, none⟩ = some (.int .u32 ((qu l0 x4_1).f1)) ∧ w'.cell? ⟨(ad478.add ((x4_1).toNat * 4)).block, (ad478.add ((x4_1).toNat * 4)).off + 2, none⟩ = some (.string ((qu l0 x4_1).f2)) ∧ w'.cell? ⟨(ad478.add ((x4_1).toNat * 4)).block, (ad478.add ((x4_1).toNat * 4)).off + 3, none⟩ = some (.string ((qu l0 x4_1).f3)) ∧ w'.cell? (ad478.add ((x4_1).toNat * 4)) = some (.int .i64 ((qu l0 x4_1).f0)) ∧ w'.cell? ⟨(ad478.add ((x4_1).toNat * 4)).block, (ad478.add ((x4_1).toNat * 4)).off + 1, none⟩ = some (.int .u32 ((qu l0 x4_1).f1)) ∧ w'.cell? ⟨(ad478.add ((x4_1).toNat * 4)).block, (ad478.add ((x4_1).toNat * 4)).off + 2, none⟩ = some (.string ((qu l0 x4_1).f2)) ∧ w'.cell? ⟨(ad478.add ((x4_1).toNat * 4)).block, (ad478.add ((x4_1).toNat * 4)).off + 3, none⟩ = some (.string ((qu l0 x4_1).f3))) ∧ (Kd.R (Kd.int .u8) 5 w' w.heap.size (fun _ => True) s_ y479) ∧ (Below w.heap.size w w')) ?_ ?_
       rotate_left
       ·intro hCont
        refine two_ (i := 7) (j := 14) (Ni := some 18) (Nj := some 25) #[tT103,tT103,tT103,tT103,tT103,tT103,tT103,tT103,fF103,fF103,tT103,tT103,tT103,tT103,fF103,fF103,fF103] #[tT103,tT103,tT103,tT103,tT103,tT103,tT103,fF103,fF103,fF103,tT103,tT103,tT103,tT103,tT103,fF103,fF103] rfl rfl rfl rfl (two_of HT_.out z103_0) (by decide) (by decide) (fun K hK => ?_) (fun K hK => ?_)
        ·skip
         refine Kd.R_lit_step (Kd.int .u8) _ 5 ?hg (N := 18) ?hd (xs := ([((qu l0 x4_1).f0) % 256] : List Int)) (inner := [.int .u8 (((qu l0 x4_1).f0) % 256)]) (ok := fun _ => True) (okp := fun _ => True) ?hr ?hp (fun _ hk => hk) trivial (Below.refl _ _) (Nat.le_refl _) (by simp) ?_; (case hd => rfl); (case hg => rfl); (case hr => first | (go_simp; done) | (go_simp; rfl)); (case hp => exact (Reps.one (show Kd.M (Kd.int .u8) _ _ _ (((qu l0 x4_1).f0) % 256) [.int .u8 (((qu l0 x4_1).f0) % 256)] from rfl) (Reps.none _ _)))
         intro v480 w8 ho9 hb hg_ hnew_
         clear hg_ hnew_
         (first | rw [← Ny479.out] at ho9 | (simp only [Int.reduceToNat] at ho9; rw [← Ny479.out] at ho9))
         have n0_ := Aside0.mk (Kd.R_lower ho9 (qm z103_1))
         have n1_ := Aside0.mk (qe z103_1 hb)
         clear HB
         have HO481 := n0_
         have HB := n1_
         clear n0_ n1_
         clear hb ho9
         refine hK.out _ _ ⟨((HB.out.cell (World.block_lt_of_cell? w _ hw478_0)).trans hw478_0), ((HB.out.cell (World.block_lt_of_cell? w _ hw478_1)).trans hw478_1), ((HB.out.cell (World.block_lt_of_cell? w _ hw478_2)).trans hw478_2), ((HB.out.cell (World.block_lt_of_cell? w _ hw478_3)).trans hw478_3), ((HB.out.cell (World.block_lt_of_cell? w _ hw482_0)).trans hw482_0), ((HB.out.cell (World.block_lt_of_cell? w _ hw482_1)).trans hw482_1), ((HB.out.cell (World.block_lt_of_cell? w _ hw482_2)).trans hw482_2), ((HB.out.cell (World.block_lt_of_cell? w _ hw482_3)).trans hw482_3)⟩ (fun hHeld => ?_)
         clear hK K
         refine norm_ (a' := ?_) ?_ ?_
         rotate_left
         ·show Act.put _ (some 18) _ = _
          simp only [Act.put, List.setIfInBounds_toArray, List.set_cons_zero, List.set_cons_succ, i64_w, i32_w]
          rfl
         refine two_ (i := 8) (j := 14) (Ni := some 19) (Nj := some 25) #[tT103,tT103,tT103,tT103,tT103,tT103,tT103,tT103,tT103,fF103,tT103,tT103,tT103,tT103,fF103,fF103,fF103] #[tT103,tT103,tT103,tT103,tT103,tT103,tT103,tT103,fF103,fF103,tT103,tT103,tT103,tT103,tT103,fF103,fF103] rfl rfl rfl rfl (two_of HT_.out z103_0) (by decide) (by decide) (fun K hK => ?_) (fun K hK => ?_)
         ·skip
          have hcv10 := own_string (P := Tryz.prog) Tryz.underlying65 Tryz.underlying5 Tryz.underlying9 (Kd.own_of_R HO481.out)
          refine value_ (w1 := ?_) (v := ?_) (by rfl) rfl ?_ ?_
          rotate_left 2
          ·go_simp
           constructor
           ·rfl
           ·rfl
          clear hcv10
          refine hK.out _ _ ⟨((HB.out.cell (World.block_lt_of_cell? w _ hw478_0)).trans hw478_0), ((HB.out.cell (World.block_lt_of_cell? w _ hw478_1)).trans hw478_1), ((HB.out.cell (World.block_lt_of_cell? w _ hw478_2)).trans hw478_2), ((HB.out.cell (World.block_lt_of_cell? w _ hw478_3)).trans hw478_3), ((HB.out.cell (World.block_lt_of_cell? w _ hw482_0)).trans hw482_0), ((HB.out.cell (World.block_lt_of_cell? w _ hw482_1)).trans hw482_1), ((HB.out.cell (World.block_lt_of_cell? w _ hw482_2)).trans hw482_2), ((HB.out.cell (World.block_lt_of_cell? w _ hw482_3)).trans hw482_3)⟩ (fun hHeld => ?_)
          clear hK K
          refine norm_ (a' := ?_) ?_ ?_
          rotate_left
          ·show Act.put _ (some 19) _ = _
           simp only [Act.put, List.setIfInBounds_toArray, List.set_cons_zero, List.set_cons_succ, i64_w, i32_w]
           rfl
          refine pure_ (i := 9) (N := some 20) (v := ?_) (a' := ?_) #[tT103,tT103,tT103,tT103,tT103,tT103,tT103,tT103,tT103,tT103,tT103,tT103,tT103,tT103,fF103,fF103,fF103] rfl rfl (q1q HT_.out z103_0) (fun _ _ _ h => h) (Or.inl ⟨by rfl, ?_⟩) ?_ ?_
          rotate_left
          ·intro w'
           go_simp
           with_reducible rfl
          rotate_left
          ·simp only [Act.put, List.setIfInBounds_toArray, List.set_cons_zero, List.set_cons_succ, i64_w, i32_w]
           rfl
          refine one_ (i := 14) (N := some 25) #[tT103,tT103,tT103,tT103,tT103,tT103,tT103,tT103,tT103,tT103,tT103,tT103,tT103,tT103,tT103,fF103,fF103] rfl rfl (one_of HT_.out z103_0) (by decide) (fun K hK => ?_)
          refine goes_ Tryz.func104 z103_0 rfl #[.agg #[.int .i64 ((qu l0 x4_1).f0), .int .u32 ((qu l0 x4_1).f1), .string ((qu l0 x4_1).f2), .string ((qu l0 x4_1).f3)]] (by rfl) rfl rfl z103_5 ?_
          with_reducible refine (polyglotref05_value.calls k1 ((qu l0 x4_1).f0) ((qu l0 x4_1).f1) ((qu l0 x4_1).f2) ((qu l0 x4_1).f3) t483 _ A5.out).mono ?_
          rintro e w11 ⟨rfl, hb⟩
          refine ⟨_, rfl, ?_⟩
          have n0_ := Aside0.mk (Kd.R_below z103_2 hb)
          have n1_ := Aside0.mk (qe z103_1 hb)
          clear HO481
          clear HB
          have HO481 := n0_
          have HB := n1_
          clear n0_ n1_
          clear hb
          refine hK.out _ _ ⟨((HB.out.cell (World.block_lt_of_cell? w _ hw478_0)).trans hw478_0), ((HB.out.cell (World.block_lt_of_cell? w _ hw478_1)).trans hw478_1), ((HB.out.cell (World.block_lt_of_cell? w _ hw478_2)).trans hw478_2), ((HB.out.cell (World.block_lt_of_cell? w _ hw478_3)).trans hw478_3), ((HB.out.cell (World.block_lt_of_cell? w _ hw482_0)).trans hw482_0), ((HB.out.cell (World.block_lt_of_cell? w _ hw482_1)).trans hw482_1), ((HB.out.cell (World.block_lt_of_cell? w _ hw482_2)).trans hw482_2), ((HB.out.cell (World.block_lt_of_cell? w _ hw482_3)).trans hw482_3)⟩ (fun hHeld => ?_)
          clear hK K
          refine norm_ (a' := ?_) ?_ ?_
          rotate_left
          ·show Act.put _ (some 25) _ = _
           simp only [Act.put, List.setIfInBounds_toArray, List.set_cons_zero, List.set_cons_succ, i64_w, i32_w]
           rfl
          exact norm_ z103_6 (hCont (v480) _ ⟨hHeld, z103_2, z103_1⟩)
         ·skip
          refine goes_ Tryz.func104 z103_0 rfl #[.agg #[.int .i64 ((qu l0 x4_1).f0), .int .u32 ((qu l0 x4_1).f1), .string ((qu l0 x4_1).f2), .string ((qu l0 x4_1).f3)]] (by rfl) rfl rfl z103_5 ?_
          with_reducible refine (polyglotref05_value.calls k1 ((qu l0 x4_1).f0) ((qu l0 x4_1).f1) ((qu l0 x4_1).f2) ((qu l0 x4_1).f3) t483 _ A5.out).mono ?_
          rintro e w10 ⟨rfl, hb⟩
          refine ⟨_, rfl, ?_⟩
          have n0_ := Aside0.mk (Kd.R_below z103_2 hb)
          have n1_ := Aside0.mk (qe z103_1 hb)
          clear HO481
          clear HB
          have HO481 := n0_
          have HB := n1_
          clear n0_ n1_
          clear hb
          refine hK.out _ _ ⟨((HB.out.cell (World.block_lt_of_cell? w _ hw478_0)).trans hw478_0), ((HB.out.cell (World.block_lt_of_cell? w _ hw478_1)).trans hw478_1), ((HB.out.cell (World.block_lt_of_cell? w _ hw478_2)).trans hw478_2), ((HB.out.cell (World.block_lt_of_cell? w _ hw478_3)).trans hw478_3), ((HB.out.cell (World.block_lt_of_cell? w _ hw482_0)).trans hw482_0), ((HB.out.cell (World.block_lt_of_cell? w _ hw482_1)).trans hw482_1), ((HB.out.cell (World.block_lt_of_cell? w _ hw482_2)).trans hw482_2), ((HB.out.cell (World.block_lt_of_cell? w _ hw482_3)).trans hw482_3)⟩ (fun hHeld => ?_)
          clear hK K
          refine norm_ (a' := ?_) ?_ ?_
          rotate_left
          ·show Act.put _ (some 25) _ = _
           simp only [Act.put, List.setIfInBounds_toArray, List.set_cons_zero, List.set_cons_succ, i64_w, i32_w]
           rfl
          refine one_ (i := 8) (N := some 19) #[tT103,tT103,tT103,tT103,tT103,tT103,tT103,tT103,tT103,fF103,tT103,tT103,tT103,tT103,tT103,fF103,fF103] rfl rfl (one_of HT_.out z103_0) (by decide) (fun K hK => ?_)
          have hcv11 := own_string (P := Tryz.prog) Tryz.underlying65 Tryz.underlying5 Tryz.underlying9 (Kd.own_of_R HO481.out)
          refine value_ (w1 := ?_) (v := ?_) (by rfl) rfl ?_ ?_
          rotate_left 2
          ·go_simp
           constructor
           ·rfl
           ·rfl
          clear hcv11
          refine hK.out _ _ ⟨((HB.out.cell (World.block_lt_of_cell? w _ hw478_0)).trans hw478_0), ((HB.out.cell (World.block_lt_of_cell? w _ hw478_1)).trans hw478_1), ((HB.out.cell (World.block_lt_of_cell? w _ hw478_2)).trans hw478_2), ((HB.out.cell (World.block_lt_of_cell? w _ hw478_3)).trans hw478_3), ((HB.out.cell (World.block_lt_of_cell? w _ hw482_0)).trans hw482_0), ((HB.out.cell (World.block_lt_of_cell? w _ hw482_1)).trans hw482_1), ((HB.out.cell (World.block_lt_of_cell? w _ hw482_2)).trans hw482_2), ((HB.out.cell (World.block_lt_of_cell? w _ hw482_3)).trans hw482_3)⟩ (fun hHeld => ?_)
          clear hK K
          refine norm_ (a' := ?_) ?_ ?_
          rotate_left
          ·show Act.put _ (some 19) _ = _
           simp only [Act.put, List.setIfInBounds_toArray, List.set_cons_zero, List.set_cons_succ, i64_w, i32_w]
           rfl
          refine pure_ (i := 9) (N := some 20) (v := ?_) (a' := ?_) #[tT103,tT103,tT103,tT103,tT103,tT103,tT103,tT103,tT103,tT103,tT103,tT103,tT103,tT103,tT103,fF103,fF103] rfl rfl (q1q HT_.out z103_0) (fun _ _ _ h => h) (Or.inl ⟨by rfl, ?_⟩) ?_ ?_
          rotate_left
          ·intro w'
           go_simp
           with_reducible rfl
          rotate_left
          ·simp only [Act.put, List.setIfInBounds_toArray, List.set_cons_zero, List.set_cons_succ, i64_w, i32_w]
           rfl
          exact norm_ z103_6 (hCont (v480) _ ⟨hHeld, z103_2, z103_1⟩)
        ·skip
         refine goes_ Tryz.func104 z103_0 rfl #[.agg #[.int .i64 ((qu l0 x4_1).f0), .int .u32 ((qu l0 x4_1).f1), .string ((qu l0 x4_1).f2), .string ((qu l0 x4_1).f3)]] (by rfl) rfl rfl z103_5 ?_
         with_reducible refine (polyglotref05_value.calls k1 ((qu l0 x4_1).f0) ((qu l0 x4_1).f1) ((qu l0 x4_1).f2) ((qu l0 x4_1).f3) t483 _ A5.out).mono ?_
         rintro e w8 ⟨rfl, hb⟩
         refine ⟨_, rfl, ?_⟩
         have n0_ := Aside0.mk (qe z103_1 hb)
         clear HB
         have HB := n0_
         clear n0_
         clear hb
         refine hK.out _ _ ⟨((HB.out.cell (World.block_lt_of_cell? w _ hw478_0)).trans hw478_0), ((HB.out.cell (World.block_lt_of_cell? w _ hw478_1)).trans hw478_1), ((HB.out.cell (World.block_lt_of_cell? w _ hw478_2)).trans hw478_2), ((HB.out.cell (World.block_lt_of_cell? w _ hw478_3)).trans hw478_3), ((HB.out.cell (World.block_lt_of_cell? w _ hw482_0)).trans hw482_0), ((HB.out.cell (World.block_lt_of_cell? w _ hw482_1)).trans hw482_1), ((HB.out.cell (World.block_lt_of_cell? w _ hw482_2)).trans hw482_2), ((HB.out.cell (World.block_lt_of_cell? w _ hw482_3)).trans hw482_3)⟩ (fun hHeld => ?_)
         clear hK K
         refine norm_ (a' := ?_) ?_ ?_
         rotate_left
         ·show Act.put _ (some 25) _ = _
          simp only [Act.put, List.setIfInBounds_toArray, List.set_cons_zero, List.set_cons_succ, i64_w, i32_w]
          rfl
         refine one_ (i := 7) (N := some 18) #[tT103,tT103,tT103,tT103,tT103,tT103,tT103,tT103,fF103,fF103,tT103,tT103,tT103,tT103,tT103,fF103,fF103] rfl rfl (one_of HT_.out z103_0) (by decide) (fun K hK => ?_)
         refine Kd.R_lit_step (Kd.int .u8) _ 5 ?hg (N := 18) ?hd (xs := ([((qu l0 x4_1).f0) % 256] : List Int)) (inner := [.int .u8 (((qu l0 x4_1).f0) % 256)]) (ok := fun _ => True) (okp := fun _ => True) ?hr ?hp (fun _ hk => hk) trivial (Below.refl _ _) (Nat.le_refl _) (by simp) ?_; (case hd => rfl); (case hg => rfl); (case hr => first | (go_simp; done) | (go_simp; rfl)); (case hp => exact (Reps.one (show Kd.M (Kd.int .u8) _ _ _ (((qu l0 x4_1).f0) % 256) [.int .u8 (((qu l0 x4_1).f0) % 256)] from rfl) (Reps.none _ _)))
         intro v480 w9 ho10 hb hg_ hnew_
         clear hg_ hnew_
         (first | rw [← Ny479.out] at ho10 | (simp only [Int.reduceToNat] at ho10; rw [← Ny479.out] at ho10))
         have n0_ := Aside0.mk (Kd.R_lower ho10 (qm z103_1))
         have n1_ := Aside0.mk (qe z103_1 hb)
         clear HB
         have HO481 := n0_
         have HB := n1_
         clear n0_ n1_
         clear hb ho10
         refine hK.out _ _ ⟨((HB.out.cell (World.block_lt_of_cell? w _ hw478_0)).trans hw478_0), ((HB.out.cell (World.block_lt_of_cell? w _ hw478_1)).trans hw478_1), ((HB.out.cell (World.block_lt_of_cell? w _ hw478_2)).trans hw478_2), ((HB.out.cell (World.block_lt_of_cell? w _ hw478_3)).trans hw478_3), ((HB.out.cell (World.block_lt_of_cell? w _ hw482_0)).trans hw482_0), ((HB.out.cell (World.block_lt_of_cell? w _ hw482_1)).trans hw482_1), ((HB.out.cell (World.block_lt_of_cell? w _ hw482_2)).trans hw482_2), ((HB.out.cell (World.block_lt_of_cell? w _ hw482_3)).trans hw482_3)⟩ (fun hHeld => ?_)
         clear hK K
         refine norm_ (a' := ?_) ?_ ?_
         rotate_left
         ·show Act.put _ (some 18) _ = _
          simp only [Act.put, List.setIfInBounds_toArray, List.set_cons_zero, List.set_cons_succ, i64_w, i32_w]
          rfl
         refine one_ (i := 8) (N := some 19) #[tT103,tT103,tT103,tT103,tT103,tT103,tT103,tT103,tT103,fF103,tT103,tT103,tT103,tT103,tT103,fF103,fF103] rfl rfl (one_of HT_.out z103_0) (by decide) (fun K hK => ?_)
         have hcv11 := own_string (P := Tryz.prog) Tryz.underlying65 Tryz.underlying5 Tryz.underlying9 (Kd.own_of_R HO481.out)
         refine value_ (w1 := ?_) (v := ?_) (by rfl) rfl ?_ ?_
         rotate_left 2
         ·go_simp
          constructor
          ·rfl
          ·rfl
         clear hcv11
         refine hK.out _ _ ⟨((HB.out.cell (World.block_lt_of_cell? w _ hw478_0)).trans hw478_0), ((HB.out.cell (World.block_lt_of_cell? w _ hw478_1)).trans hw478_1), ((HB.out.cell (World.block_lt_of_cell? w _ hw478_2)).trans hw478_2), ((HB.out.cell (World.block_lt_of_cell? w _ hw478_3)).trans hw478_3), ((HB.out.cell (World.block_lt_of_cell? w _ hw482_0)).trans hw482_0), ((HB.out.cell (World.block_lt_of_cell? w _ hw482_1)).trans hw482_1), ((HB.out.cell (World.block_lt_of_cell? w _ hw482_2)).trans hw482_2), ((HB.out.cell (World.block_lt_of_cell? w _ hw482_3)).trans hw482_3)⟩ (fun hHeld => ?_)
         clear hK K
         refine norm_ (a' := ?_) ?_ ?_
         rotate_left
         ·show Act.put _ (some 19) _ = _
          simp only [Act.put, List.setIfInBounds_toArray, List.set_cons_zero, List.set_cons_succ, i64_w, i32_w]
          rfl
         refine pure_ (i := 9) (N := some 20) (v := ?_) (a' := ?_) #[tT103,tT103,tT103,tT103,tT103,tT103,tT103,tT103,tT103,tT103,tT103,tT103,tT103,tT103,tT103,fF103,fF103] rfl rfl (q1q HT_.out z103_0) (fun _ _ _ h => h) (Or.inl ⟨by rfl, ?_⟩) ?_ ?_
         rotate_left
         ·intro w'
          go_simp
          with_reducible rfl
         rotate_left
         ·simp only [Act.put, List.setIfInBounds_toArray, List.set_cons_zero, List.set_cons_succ, i64_w, i32_w]
          rfl
         exact norm_ z103_6 (hCont (v480) _ ⟨hHeld, z103_2, z103_1⟩)
       rintro v480 w12 ⟨hS_, h0_, h1_⟩
       have n0_ : Aside0 (Kd.R (Kd.int .u8) 5 w12 w.heap.size (fun _ => True) v480 y479) := ⟨h0_⟩
       have n1_ : Aside0 (Below w.heap.size w w12) := ⟨h1_⟩
       clear HB
       clear h0_ h1_
       have HO481 := n0_
       have HB := n1_
       clear n0_ n1_
       have hHeld : w12.cell? (ad478.add ((x4_1).toNat * 4)) = some (.int .i64 ((qu l0 x4_1).f0)) ∧ w12.cell? ⟨(ad478.add ((x4_1).toNat * 4)).block, (ad478.add ((x4_1).toNat * 4)).off + 1, none⟩ = some (.int .u32 ((qu l0 x4_1).f1)) ∧ w12.cell? ⟨(ad478.add ((x4_1).toNat * 4)).block, (ad478.add ((x4_1).toNat * 4)).off + 2, none⟩ = some (.string ((qu l0 x4_1).f2)) ∧ w12.cell? ⟨(ad478.add ((x4_1).toNat * 4)).block, (ad478.add ((x4_1).toNat * 4)).off + 3, none⟩ = some (.string ((qu l0 x4_1).f3)) ∧ w12.cell? (ad478.add ((x4_1).toNat * 4)) = some (.int .i64 ((qu l0 x4_1).f0)) ∧ w12.cell? ⟨(ad478.add ((x4_1).toNat * 4)).block, (ad478.add ((x4_1).toNat * 4)).off + 1, none⟩ = some (.int .u32 ((qu l0 x4_1).f1)) ∧ w12.cell? ⟨(ad478.add ((x4_1).toNat * 4)).block, (ad478.add ((x4_1).toNat * 4)).off + 2, none⟩ = some (.string ((qu l0 x4_1).f2)) ∧ w12.cell? ⟨(ad478.add ((x4_1).toNat * 4)).block, (ad478.add ((x4_1).toNat * 4)).off + 3, none⟩ = some (.string ((qu l0 x4_1).f3)) := hS_
       refine norm_ (a' := ?_) ?_ ?_
       rotate_left
       ·simp only [putAll, Act.put, List.setIfInBounds_toArray, List.set_cons_zero, List.set_cons_succ]
        rfl
       refine pure_ (i := 15) (N := some 26) (v := ?_) (a' := ?_) #[tT103,tT103,tT103,tT103,tT103,tT103,tT103,tT103,tT103,tT103,tT103,tT103,tT103,tT103,tT103,tT103,fF103] rfl rfl (q1q HT_.out z103_0) (fun _ _ _ h => h) (Or.inl ⟨by rfl, ?_⟩) ?_ ?_
       rotate_left
       ·intro w'
        go_simp
        with_reducible rfl
       rotate_left
       ·simp only [Act.put, List.setIfInBounds_toArray, List.set_cons_zero, List.set_cons_succ, i64_w, i32_w]
        rfl
       refine pure_ (i := 16) (N := some 3) (v := ?_) (a' := ?_) #[tT103,tT103,tT103,tT103,tT103,tT103,tT103,tT103,tT103,tT103,tT103,tT103,tT103,tT103,tT103,tT103,tT103] rfl rfl (q1q HT_.out z103_0) (fun _ _ _ h => h) (Or.inl ⟨by rfl, ?_⟩) ?_ ?_
       rotate_left
       ·intro w'
        go_simp
        with_reducible rfl
       rotate_left
       ·simp only [Act.put, List.setIfInBounds_toArray, List.set_cons_zero, List.set_cons_succ, i64_w, i32_w]
        rfl
       refine done_ (done_of HT_.out z103_0) ?_
       try go_wp2
       go_roundg k1
       case measure => have := HK1.out; omega
       case rel => exact ⟨((x3_1 ++ (strOfNums y479)) ++ t483), (wrap64 (x4_1 + 1)), z103_3, z103_3, H', ⟨by have := HK1.out; omega⟩, ⟨by repeat (first | (with_reducible first | exact HB.out | apply qg | apply qa | apply qi) | exact HB.out)⟩⟩
      rw [if_neg c6] at H
      exact absurd H (by simp)
     rw [if_neg c4] at H
     exact absurd H (by simp)
    rw [if_neg c3] at H
    exact absurd H (by simp)
   rw [if_neg c2] at H
   have c2b0 : decide (x4_1 < (l0.length : Int)) = false := decide_eq_false c2
   clear c2
   obtain rfl := Option.some.inj H
   go_wp2
   go_ret
   exact ⟨(by first | rfl | (simp [qq, qp] <;> rfl) | (simp [*, qq, qp] <;> rfl)), z103_1⟩

end Go.Proofs.YtngmipfobcaojaaGreat.HA
end
