/- A part of the proof: texts that were built one by one, laid together. -/
import Derived.Test.YtngmipfobcaojaaGreatCPropCalls1
import Derived.Test.YtngmipfobcaojaaGreatCPropCalls3
import Derived.Test.YtngmipfobcaojaaGreatCPropCalls4
import Derived.Deep.RegionWith
import Derived.Test.YtngmipfobcaojaaGreatCPropCalls2
set_option linter.unusedVariables false
set_option linter.unusedSimpArgs false
-- YtngmipfobcaojaaGreatHA85
section
namespace Go.Proofs.YtngmipfobcaojaaGreat.HA
open Go.RowKit Go.Proofs.YtngmipfobcaojaaGreatW.PrintWords Go.Proofs.YtngmipfobcaojaaGreatW.PrintLast Go.Proofs.YtngmipfobcaojaaGreatW.PrintMore
attribute [local go_sem] q1k q1j q1s q1t q1a q19 q1h q1i
abbrev tT104 := true
abbrev fF104 := false

def qt.l0 : Nat → Int → List (S24) → Int → Option (Int)
 | 0, _, _, _ => none
 | k + 1, x0, x1, x5 => if x5 < (x1.length : Int) then (if 0 ≤ x5 then ((qb.f k x0 ((qu x1 x5).f0) ((qu x1 x5).f1) ((qu x1 x5).f2) ((qu x1 x5).f3)).bind fun t508 => (if t508 = 0 then (if x5 ≤ (x1.length : Int) then ((polyglotref05_twice.f k x0 (x1.take (x5 : Int).toNat) ((qu x1 x5).f0)).bind fun t514 => (if t514 = true then (some 9) else (qt.l0 k x0 x1 (wrap64 (x5 + 1))))) else (none)) else (some t508))) else (none)) else ((polyglotref05_lone.f k x1).bind fun t515 => (if t515 = true then (some 9) else ((q12.f k x1).bind fun t516 => (if (t516.size : Int) > 268435455 then (some 4) else (some 0)))))
def qt.f (k : Nat) (a0 : Int) (l1 : List (S24)) : Option (Int) := if (l1.length : Int) > 1000 then (some 4) else (qt.l0 k a0 l1 0)
def qt.T9 : Bool × List (List Nat × List Nat) := (true, [([], []), ([], []), ([], []), ([1, 2], [1, 2]), ([], []), ([], []), ([4, 5], [4, 5]), ([6], [6]), ([7], [7]), ([0, 3, 8], [0, 3, 8])])
def qt.B9 : List Nat := [0, 0, 0, 6, 0, 0, 48, 112, 240, 511]
theorem qt.tab9 : rtab .any (opsOf Tryz.f25 9) = qt.T9 := by kernel_rfl
theorem qt.bits9 : waitsOk qt.T9.2 qt.B9 = true := by kernel_rfl
theorem z104_0 {p : Prop} (h : p := by kernel_rfl) : p := h
theorem z104_1 {p : Prop} (h : p := by repeat (first | (with_reducible first | exact HB.out | apply qg | apply qa | apply qi) | exact HB.out)) : p := h
theorem z104_2 {p : Prop} (h : p := by first | (with_reducible assumption) | assumption) : p := h
theorem z104_3 {p : Prop} (h : p := by (try simp only [List.map_toArray, List.map_cons, List.map_nil]); first | done | rfl | (simp only [List.length_drop, List.length_take]; rfl)) : p := h
theorem z104_4 {p : Prop} (h : p := by first | rfl | (simp [qq, qp] <;> rfl) | (simp [*, qq, qp] <;> rfl)) : p := h
theorem z104_5 {p : Prop} (h : p := by first | rfl | (simp; done) | (simp [*]; done) | (simp; exact qh _) | exact qh _ | (simp; exact (qh _).symm) | (simp; exact q15 _)) : p := h
set_option maxHeartbeats 8000000 in
set_option maxRecDepth 100000 in
theorem qt.calls (k : Nat) (a0 : Int) (A1 : Option Addr) (c1 : Nat) (l1 : List (S24)) (r : Int) (w : World) (hr1 : Kd.C k24 w A1 l1.length l1) (hc1 : l1.length ≤ c1) (h : qt.f k a0 l1 = some r) :
  Calls Tryz.prog 25 #[.int .i64 a0, .slice A1 l1.length c1] w fun e w' => e = .returned (.int .i64 r) ∧ Below w.heap.size w w' := by
 have hu24 := Tryz.underlying24
 have HR1 := Aside0.mk hr1
 have HC1 := Aside0.mk hc1
 clear hr1 hc1
 have HB := Aside0.mk (Below.refl w.heap.size w)
 have H : (if (l1.length : Int) > 1000 then (some 4) else (qt.l0 k a0 l1 0)) = some r := h
 clear h
 by_cases c3 : (l1.length : Int) > 1000
 ·rw [if_pos c3] at H
  have c3b0 : decide (1000 < (l1.length : Int)) = true := decide_eq_true c3
  have c3b1 : decide (1000 < l1.length) = true := decide_eq_true (by omega)
  clear c3
  obtain rfl := Option.some.inj H
  go_enter Tryz.func25, Tryz.ntmps25
  go_wp2
  go_ret
  exact ⟨z104_4, z104_1⟩
 rw [if_neg c3] at H
 have c3b0 : decide (1000 < (l1.length : Int)) = false := decide_eq_false c3
 have c3b1 : decide (1000 < l1.length) = false := decide_eq_false (by omega)
 clear c3
 have H' := Aside0.mk H
 clear H
 go_enter Tryz.func25, Tryz.ntmps25
 go_wp2
 go_loopg [5] k (fun kq v5 w' => ∃ (x5_1 : Int), v5 = .int .i64 x5_1 ∧ Aside0 (qt.l0 kq a0 l1 x5_1 = some r) ∧ Aside0 (kq ≤ k) ∧ Aside0 (Below w.heap.size w w'))
 case atStart => exact ⟨(0), z104_5, H', ⟨Nat.le_refl _⟩, ⟨z104_1⟩⟩
 case round =>
  clear H'
  clear c3b0 c3b1
  obtain ⟨x5_1, rfl, HA, HK1, HB⟩ := hrel
  cases gk with
  | zero => exact absurd HA.out (by simp [qt.l0])
  | succ k1 =>
   have H := HA.out
   clear HA
   simp only [qt.l0] at H
   by_cases c4 : x5_1 < (l1.length : Int)
   ·rw [if_pos c4] at H
    have c4b0 : decide (x5_1 < (l1.length : Int)) = true := decide_eq_true c4
    clear c4
    by_cases c5 : 0 ≤ x5_1
    ·rw [if_pos c5] at H
     have c5b0 : decide (0 ≤ x5_1) = true := decide_eq_true c5
     clear c5
     replace H := Option.bind_eq_some_iff.mp H
     obtain ⟨t508, A60, H⟩ := H
     replace H : (if t508 = 0 then (if x5_1 ≤ (l1.length : Int) then ((polyglotref05_twice.f k1 a0 (l1.take (x5_1 : Int).toNat) ((qu l1 x5_1).f0)).bind fun t514 => (if t514 = true then (some 9) else (qt.l0 k1 a0 l1 (wrap64 (x5_1 + 1))))) else (none)) else (some t508)) = some r := H
     have A6 := Aside0.mk A60
     clear A60
     by_cases c7 : t508 = 0
     ·rw [if_pos c7] at H
      have c7b0 : (t508 == 0) = true := beq_iff_eq.mpr c7
      have c7b1 : (t508 != 0) = false := bne_eq_false_iff_eq.mpr c7
      clear c7
      have c8b0 := eq_true (of_decide_eq_true z104_2 : 0 ≤ x5_1)
      by_cases c9 : x5_1 ≤ (l1.length : Int)
      ·rw [if_pos c9] at H
       have c9b0 := eq_true c9
       have c9b1 : decide (x5_1 ≤ (l1.length : Int)) = true := decide_eq_true c9
       clear c9
       obtain ⟨y509, hy509⟩ : ∃ y_ : List (S24), y_ = (l1.take (x5_1 : Int).toNat) := ⟨_, rfl⟩
       replace H : ((polyglotref05_twice.f k1 a0 y509 ((qu l1 x5_1).f0)).bind fun t514 => (if t514 = true then (some 9) else (qt.l0 k1 a0 l1 (wrap64 (x5_1 + 1))))) = some r := by first | (rw [hy509]; with_reducible exact H) | (have H2_ := (Option.bind_some _ _).symm.trans H; rw [hy509]; with_reducible exact H2_) | (have H2_ := (Option.bind_some _ _).symm.trans H; with_reducible exact H2_) | with_reducible exact H | (rw [hy509]; exact H) | exact H
       have Ny509 := Aside0.mk hy509
       clear hy509
       replace H := Option.bind_eq_some_iff.mp H
       obtain ⟨t514, A100, H⟩ := H
       replace H : (if t514 = true then (some 9) else (qt.l0 k1 a0 l1 (wrap64 (x5_1 + 1)))) = some r := H
       have A10 := Aside0.mk A100
       clear A100
       by_cases c11 : t514 = true
       ·subst c11
        rw [if_pos rfl] at H
        obtain rfl := Option.some.inj H
        have p507 : 0 ≤ (x5_1 : Int) := of_decide_eq_true z104_2
        have q507 : x5_1 < (l1.length : Int) := of_decide_eq_true z104_2
        obtain ⟨ad507, e507, hx507_0, hx507_1, hx507_2, hx507_3⟩ := at_T24 HR1.out x5_1 p507 q507
        cases e507
        replace hx507_0 := (HB.out.cell (World.block_lt_of_cell? w _ hx507_0)).trans hx507_0
        replace hx507_1 := (HB.out.cell (World.block_lt_of_cell? w _ hx507_1)).trans hx507_1
        replace hx507_2 := (HB.out.cell (World.block_lt_of_cell? w _ hx507_2)).trans hx507_2
        replace hx507_3 := (HB.out.cell (World.block_lt_of_cell? w _ hx507_3)).trans hx507_3
        replace p507 := eq_true p507
        replace q507 := eq_true q507
        try go_wp2_with (first | ((with_reducible refine ql (f := 23) rfl ?_); refine q1b (some 21) rfl rfl Tryz.func23 z104_0 rfl #[.int .i64 a0, .agg #[.int .i64 ((qu l1 x5_1).f0), .int .u32 ((qu l1 x5_1).f1), .string ((qu l1 x5_1).f2), .string ((qu l1 x5_1).f3)]] rfl z104_3 ?_; (with_reducible refine (qb.calls k1 a0 ((qu l1 x5_1).f0) ((qu l1 x5_1).f1) ((qu l1 x5_1).f2) ((qu l1 x5_1).f3) t508 _ A6.out).mono ?_); rintro e w12 ⟨rfl, hb⟩; refine ⟨_, rfl, ?_⟩; have n0_ := Aside0.mk (qe z104_1 hb); clear HB; have HB := n0_; clear n0_; (try clear hb); (try clear hb2); (try clear hk); (try clear hi)))
        have n0_ := Aside0.mk (qi HB.out)
        clear HB
        have HB := n0_
        clear n0_
        have q14 : (x5_1 : Int) ≤ ((l1.length : Int) : Int) := of_decide_eq_true z104_2
        obtain ⟨i014, hi014, _, hsz14, _⟩ := info_parts info24
        have hroom14 : l1.length ≤ c1 := HC1.out
        have hC14 : Kd.C k24 _ (some ad507) l1.length l1 := HR1.out
        have hcut14 := cut_to (P := Tryz.prog) 25 24 .i64 Tryz.underlying25 hi014 (some ad507) l1.length c1 x5_1 (of_decide_eq_true z104_2) q14 hroom14
        have hr14 := Kd.C_take (m := (x5_1 : Int).toNat) hC14 (by omega)
        have hy14 : y509.length = (x5_1 : Int).toNat := (by rw [Ny509.out, List.length_take]; omega)
        rw [← Ny509.out] at hr14
        rw [← hy14] at hcut14
        have HR512 := Aside0.mk hr14
        have HC512 := Aside0.mk (show y509.length ≤ c1 from by omega)
        clear hr14 hC14 hroom14 hi014 hsz14
        have KY14 := Aside0.mk hy14
        clear hy14
        replace q14 := eq_true q14
        have p513 : 0 ≤ (x5_1 : Int) := of_decide_eq_true z104_2
        have q513 : x5_1 < (l1.length : Int) := of_decide_eq_true z104_2
        obtain ⟨ad513, e513, hx513_0, hx513_1, hx513_2, hx513_3⟩ := at_T24 HR1.out x5_1 p513 q513
        have hw513_3 := hx513_3
        have hw513_2 := hx513_2
        have hw513_1 := hx513_1
        have hw513_0 := hx513_0
        obtain rfl : ad507 = ad513 := (by injection e513)
        replace hx513_0 := (HB.out.cell (World.block_lt_of_cell? w _ hx513_0)).trans hx513_0
        replace hx513_1 := (HB.out.cell (World.block_lt_of_cell? w _ hx513_1)).trans hx513_1
        replace hx513_2 := (HB.out.cell (World.block_lt_of_cell? w _ hx513_2)).trans hx513_2
        replace hx513_3 := (HB.out.cell (World.block_lt_of_cell? w _ hx513_3)).trans hx513_3
        replace p513 := eq_true p513
        replace q513 := eq_true q513
        refine start_ (n := 10) (S := fun w' => w'.cell? (ad507.add ((x5_1).toNat * 4)) = some (.int .i64 ((qu l1 x5_1).f0)) ∧ w'.cell? ⟨(ad507.add ((x5_1).toNat * 4)).block, (ad507.add ((x5_1).toNat * 4)).off + 1, none⟩ = some (.int .u32 ((qu l1 x5_1).f1)) ∧ w'.cell? ⟨(ad507.add ((x5_1).toNat * 4)).block, (ad507.add ((x5_1).toNat * 4)).off + 2, none⟩ = some (.string ((qu l1 x5_1).f2)) ∧ w'.cell? ⟨(ad507.add ((x5_1).toNat * 4)).block, (ad507.add ((x5_1).toNat * 4)).off + 3, none⟩ = some (.string ((qu l1 x5_1).f3))) (ds := []) #[fF104,fF104,fF104,fF104,fF104,fF104,fF104,fF104,fF104,fF104] z104_0 rfl rfl ⟨((HB.out.cell (World.block_lt_of_cell? w _ hw513_0)).trans hw513_0), ((HB.out.cell (World.block_lt_of_cell? w _ hw513_1)).trans hw513_1), ((HB.out.cell (World.block_lt_of_cell? w _ hw513_2)).trans hw513_2), ((HB.out.cell (World.block_lt_of_cell? w _ hw513_3)).trans hw513_3)⟩ (fun hHeld => ?_); refine with_tabW qt.tab9 qt.bits9 (fun HT_ HW_ => ?_)
        generalize w12.drew = w13 at HB HR512 hx513_0 hx513_1 hx513_2 hx513_3 hHeld ⊢
        refine pure_ (i := 0) (N := some 25) (v := ?_) (a' := ?_) #[tT104,fF104,fF104,fF104,fF104,fF104,fF104,fF104,fF104,fF104] rfl rfl (q1q HT_.out z104_0) (fun _ _ _ h => h) (Or.inl ⟨by rfl, ?_⟩) ?_ ?_
        rotate_left
        ·intro w'
         go_simp
         with_reducible rfl
        rotate_left
        ·simp only [Act.put, List.setIfInBounds_toArray, List.set_cons_zero, List.set_cons_succ, i64_w, i32_w]
         rfl
        refine pure_ (i := 1) (N := some 26) (v := ?_) (a' := ?_) #[tT104,tT104,fF104,fF104,fF104,fF104,fF104,fF104,fF104,fF104] rfl rfl (q1q HT_.out z104_0) (fun _ _ _ h => h) (Or.inl ⟨by rfl, ?_⟩) ?_ ?_
        rotate_left
        ·intro w'
         go_simp
         with_reducible rfl
        rotate_left
        ·simp only [Act.put, List.setIfInBounds_toArray, List.set_cons_zero, List.set_cons_succ, i64_w, i32_w]
         rfl
        refine pure_ (i := 2) (N := some 27) (v := ?_) (a' := ?_) #[tT104,tT104,tT104,fF104,fF104,fF104,fF104,fF104,fF104,fF104] rfl rfl (q1q HT_.out z104_0) (fun _ _ _ h => h) (Or.inl ⟨by rfl, ?_⟩) ?_ ?_
        rotate_left
        ·intro w'
         go_simp
         with_reducible rfl
        rotate_left
        ·simp only [Act.put, List.setIfInBounds_toArray, List.set_cons_zero, List.set_cons_succ, i64_w, i32_w]
         rfl
        refine pure_ (i := 3) (N := some 28) (v := ?_) (a' := ?_) #[tT104,tT104,tT104,tT104,fF104,fF104,fF104,fF104,fF104,fF104] rfl rfl (q1q HT_.out z104_0) (fun _ _ _ h => h) (Or.inl ⟨by rfl, ?_⟩) ?_ ?_
        rotate_left
        ·intro w'
         go_simp
         with_reducible rfl
        rotate_left
        ·simp only [Act.put, List.setIfInBounds_toArray, List.set_cons_zero, List.set_cons_succ, i64_w, i32_w]
         rfl
        refine pure_ (i := 4) (N := some 29) (v := ?_) (a' := ?_) #[tT104,tT104,tT104,tT104,tT104,fF104,fF104,fF104,fF104,fF104] rfl rfl (q1q HT_.out z104_0) (fun _ _ _ h => h) (Or.inl ⟨by rfl, ?_⟩) ?_ ?_
        rotate_left
        ·intro w'
         go_simp
         with_reducible rfl
        rotate_left
        ·simp only [Act.put, List.setIfInBounds_toArray, List.set_cons_zero, List.set_cons_succ, i64_w, i32_w]
         rfl
        refine pure_ (i := 5) (N := some 30) (v := ?_) (a' := ?_) #[tT104,tT104,tT104,tT104,tT104,tT104,fF104,fF104,fF104,fF104] rfl rfl (q1q HT_.out z104_0) (fun _ _ _ h => h) (Or.inl ⟨by rfl, ?_⟩) ?_ ?_
        rotate_left
        ·intro w'
         go_simp
         with_reducible rfl
        rotate_left
        ·simp only [Act.put, List.setIfInBounds_toArray, List.set_cons_zero, List.set_cons_succ, i64_w, i32_w]
         rfl
        refine pure_ (i := 6) (N := some 31) (v := ?_) (a' := ?_) #[tT104,tT104,tT104,tT104,tT104,tT104,tT104,fF104,fF104,fF104] rfl rfl (q1q HT_.out z104_0) (fun _ _ _ h => h) (Or.inl ⟨by rfl, ?_⟩) ?_ ?_
        rotate_left
        ·intro w'
         go_simp
         with_reducible rfl
        rotate_left
        ·simp only [Act.put, List.setIfInBounds_toArray, List.set_cons_zero, List.set_cons_succ, i64_w, i32_w]
         rfl
        refine pure_ (i := 7) (N := some 32) (v := ?_) (a' := ?_) #[tT104,tT104,tT104,tT104,tT104,tT104,tT104,tT104,fF104,fF104] rfl rfl (q1q HT_.out z104_0) (fun _ _ _ h => h) (Or.inl ⟨by rfl, ?_⟩) ?_ ?_
        rotate_left
        ·intro w'
         go_simp
         with_reducible rfl
        rotate_left
        ·simp only [Act.put, List.setIfInBounds_toArray, List.set_cons_zero, List.set_cons_succ, i64_w, i32_w]
         rfl
        refine take_ (i := 8) (N := some 33) (v := ?_) (a' := ?_) #[tT104,tT104,tT104,tT104,tT104,tT104,tT104,tT104,tT104,fF104] rfl rfl (take_ofW HT_.out HW_.out z104_0) (fun _ _ _ h => h) (Or.inl ⟨by rfl, ?_⟩) hHeld ?_ ?_
        rotate_left
        ·rintro w' ⟨s0, s1, s2, s3⟩
         go_simp
         with_reducible rfl
        rotate_left
        ·simp only [Act.put, List.setIfInBounds_toArray, List.set_cons_zero, List.set_cons_succ, i64_w, i32_w]
         rfl
        refine one_ (i := 9) (N := some 34) #[tT104,tT104,tT104,tT104,tT104,tT104,tT104,tT104,tT104,tT104] rfl rfl (one_of HT_.out z104_0) (by decide) (fun K hK => ?_)
        refine goes_ Tryz.func57 z104_0 rfl #[.int .i64 a0, .slice (some ad507) y509.length c1, .int .i64 ((qu l1 x5_1).f0)] (by rfl) rfl rfl z104_3 ?_
        with_reducible refine (polyglotref05_twice.calls k1 a0 _ _ y509 ((qu l1 x5_1).f0) true _ ?side1 ?side2 A10.out).mono ?_
        (case side1 => repeat (first | exact (Kd.C_below HR512.out HB.out) | (with_reducible refine Kd.C_alloc ?_ _) | (with_reducible refine Kd.C_drewN ?_ _) | (with_reducible refine Kd.C_drew ?_)))
        (case side2 => exact HC512.out)
        rintro e w15 ⟨rfl, hb⟩
        refine ⟨_, rfl, ?_⟩
        have n0_ := Aside0.mk (qe z104_1 hb)
        clear HB
        have HB := n0_
        clear n0_
        clear hb
        refine hK.out _ _ ⟨((HB.out.cell (World.block_lt_of_cell? w _ hw513_0)).trans hw513_0), ((HB.out.cell (World.block_lt_of_cell? w _ hw513_1)).trans hw513_1), ((HB.out.cell (World.block_lt_of_cell? w _ hw513_2)).trans hw513_2), ((HB.out.cell (World.block_lt_of_cell? w _ hw513_3)).trans hw513_3)⟩ (fun hHeld => ?_)
        clear hK K
        refine norm_ (a' := ?_) ?_ ?_
        rotate_left
        ·show Act.put _ (some 34) _ = _
         simp only [Act.put, List.setIfInBounds_toArray, List.set_cons_zero, List.set_cons_succ, i64_w, i32_w]
         rfl
        refine done_ (done_of HT_.out z104_0) ?_
        try go_wp2
        go_ret
        exact ⟨z104_4, z104_1⟩
       replace c11 := Bool.eq_false_iff.mpr c11
       subst c11
       rw [if_neg (show ¬ (false = true) by decide)] at H
       have H' := Aside0.mk H
       clear H
       have p507 : 0 ≤ (x5_1 : Int) := of_decide_eq_true z104_2
       have q507 : x5_1 < (l1.length : Int) := of_decide_eq_true z104_2
       obtain ⟨ad507, e507, hx507_0, hx507_1, hx507_2, hx507_3⟩ := at_T24 HR1.out x5_1 p507 q507
       cases e507
       replace hx507_0 := (HB.out.cell (World.block_lt_of_cell? w _ hx507_0)).trans hx507_0
       replace hx507_1 := (HB.out.cell (World.block_lt_of_cell? w _ hx507_1)).trans hx507_1
       replace hx507_2 := (HB.out.cell (World.block_lt_of_cell? w _ hx507_2)).trans hx507_2
       replace hx507_3 := (HB.out.cell (World.block_lt_of_cell? w _ hx507_3)).trans hx507_3
       replace p507 := eq_true p507
       replace q507 := eq_true q507
       try go_wp2_with (first | ((with_reducible refine ql (f := 23) rfl ?_); refine q1b (some 21) rfl rfl Tryz.func23 z104_0 rfl #[.int .i64 a0, .agg #[.int .i64 ((qu l1 x5_1).f0), .int .u32 ((qu l1 x5_1).f1), .string ((qu l1 x5_1).f2), .string ((qu l1 x5_1).f3)]] rfl z104_3 ?_; (with_reducible refine (qb.calls k1 a0 ((qu l1 x5_1).f0) ((qu l1 x5_1).f1) ((qu l1 x5_1).f2) ((qu l1 x5_1).f3) t508 _ A6.out).mono ?_); rintro e w16 ⟨rfl, hb⟩; refine ⟨_, rfl, ?_⟩; have n0_ := Aside0.mk (qe z104_1 hb); clear HB; have HB := n0_; clear n0_; (try clear hb); (try clear hb2); (try clear hk); (try clear hi)))
       have n0_ := Aside0.mk (qi HB.out)
       clear HB
       have HB := n0_
       clear n0_
       have q18 : (x5_1 : Int) ≤ ((l1.length : Int) : Int) := of_decide_eq_true z104_2
       obtain ⟨i018, hi018, _, hsz18, _⟩ := info_parts info24
       have hroom18 : l1.length ≤ c1 := HC1.out
       have hC18 : Kd.C k24 _ (some ad507) l1.length l1 := HR1.out
       have hcut18 := cut_to (P := Tryz.prog) 25 24 .i64 Tryz.underlying25 hi018 (some ad507) l1.length c1 x5_1 (of_decide_eq_true z104_2) q18 hroom18
       have hr18 := Kd.C_take (m := (x5_1 : Int).toNat) hC18 (by omega)
       have hy18 : y509.length = (x5_1 : Int).toNat := (by rw [Ny509.out, List.length_take]; omega)
       rw [← Ny509.out] at hr18
       rw [← hy18] at hcut18
       have HR512 := Aside0.mk hr18
       have HC512 := Aside0.mk (show y509.length ≤ c1 from by omega)
       clear hr18 hC18 hroom18 hi018 hsz18
       have KY18 := Aside0.mk hy18
       clear hy18
       replace q18 := eq_true q18
       have p513 : 0 ≤ (x5_1 : Int) := of_decide_eq_true z104_2
       have q513 : x5_1 < (l1.length : Int) := of_decide_eq_true z104_2
       obtain ⟨ad513, e513, hx513_0, hx513_1, hx513_2, hx513_3⟩ := at_T24 HR1.out x5_1 p513 q513
       have hw513_3 := hx513_3
       have hw513_2 := hx513_2
       have hw513_1 := hx513_1
       have hw513_0 := hx513_0
       obtain rfl : ad507 = ad513 := (by injection e513)
       replace hx513_0 := (HB.out.cell (World.block_lt_of_cell? w _ hx513_0)).trans hx513_0
       replace hx513_1 := (HB.out.cell (World.block_lt_of_cell? w _ hx513_1)).trans hx513_1
       replace hx513_2 := (HB.out.cell (World.block_lt_of_cell? w _ hx513_2)).trans hx513_2
       replace hx513_3 := (HB.out.cell (World.block_lt_of_cell? w _ hx513_3)).trans hx513_3
       replace p513 := eq_true p513
       replace q513 := eq_true q513
       refine start_ (n := 10) (S := fun w' => w'.cell? (ad507.add ((x5_1).toNat * 4)) = some (.int .i64 ((qu l1 x5_1).f0)) ∧ w'.cell? ⟨(ad507.add ((x5_1).toNat * 4)).block, (ad507.add ((x5_1).toNat * 4)).off + 1, none⟩ = some (.int .u32 ((qu l1 x5_1).f1)) ∧ w'.cell? ⟨(ad507.add ((x5_1).toNat * 4)).block, (ad507.add ((x5_1).toNat * 4)).off + 2, none⟩ = some (.string ((qu l1 x5_1).f2)) ∧ w'.cell? ⟨(ad507.add ((x5_1).toNat * 4)).block, (ad507.add ((x5_1).toNat * 4)).off + 3, none⟩ = some (.string ((qu l1 x5_1).f3))) (ds := []) #[fF104,fF104,fF104,fF104,fF104,fF104,fF104,fF104,fF104,fF104] z104_0 rfl rfl ⟨((HB.out.cell (World.block_lt_of_cell? w _ hw513_0)).trans hw513_0), ((HB.out.cell (World.block_lt_of_cell? w _ hw513_1)).trans hw513_1), ((HB.out.cell (World.block_lt_of_cell? w _ hw513_2)).trans hw513_2), ((HB.out.cell (World.block_lt_of_cell? w _ hw513_3)).trans hw513_3)⟩ (fun hHeld => ?_); refine with_tabW qt.tab9 qt.bits9 (fun HT_ HW_ => ?_)
       generalize w16.drew = w17 at HB HR512 hx513_0 hx513_1 hx513_2 hx513_3 hHeld ⊢
       refine pure_ (i := 0) (N := some 25) (v := ?_) (a' := ?_) #[tT104,fF104,fF104,fF104,fF104,fF104,fF104,fF104,fF104,fF104] rfl rfl (q1q HT_.out z104_0) (fun _ _ _ h => h) (Or.inl ⟨by rfl, ?_⟩) ?_ ?_
       rotate_left
       ·intro w'
        go_simp
        with_reducible rfl
       rotate_left
       ·simp only [Act.put, List.setIfInBounds_toArray, List.set_cons_zero, List.set_cons_succ, i64_w, i32_w]
        rfl
       refine pure_ (i := 1) (N := some 26) (v := ?_) (a' := ?_) #[tT104,tT104,fF104,fF104,fF104,fF104,fF104,fF104,fF104,fF104] rfl rfl (q1q HT_.out z104_0) (fun _ _ _ h => h) (Or.inl ⟨by rfl, ?_⟩) ?_ ?_
       rotate_left
       ·intro w'
        go_simp
        with_reducible rfl
       rotate_left
       ·simp only [Act.put, List.setIfInBounds_toArray, List.set_cons_zero, List.set_cons_succ, i64_w, i32_w]
        rfl
       refine pure_ (i := 2) (N := some 27) (v := ?_) (a' := ?_) #[tT104,tT104,tT104,fF104,fF104,fF104,fF104,fF104,fF104,fF104] rfl rfl (q1q HT_.out z104_0) (fun _ _ _ h => h) (Or.inl ⟨by rfl, ?_⟩) ?_ ?_
       rotate_left
       ·intro w'
        go_simp
        with_reducible rfl
       rotate_left
       ·simp only [Act.put, List.setIfInBounds_toArray, List.set_cons_zero, List.set_cons_succ, i64_w, i32_w]
        rfl
       refine pure_ (i := 3) (N := some 28) (v := ?_) (a' := ?_) #[tT104,tT104,tT104,tT104,fF104,fF104,fF104,fF104,fF104,fF104] rfl rfl (q1q HT_.out z104_0) (fun _ _ _ h => h) (Or.inl ⟨by rfl, ?_⟩) ?_ ?_
       rotate_left
       ·intro w'
        go_simp
        with_reducible rfl
       rotate_left
       ·simp only [Act.put, List.setIfInBounds_toArray, List.set_cons_zero, List.set_cons_succ, i64_w, i32_w]
        rfl
       refine pure_ (i := 4) (N := some 29) (v := ?_) (a' := ?_) #[tT104,tT104,tT104,tT104,tT104,fF104,fF104,fF104,fF104,fF104] rfl rfl (q1q HT_.out z104_0) (fun _ _ _ h => h) (Or.inl ⟨by rfl, ?_⟩) ?_ ?_
       rotate_left
       ·intro w'
        go_simp
        with_reducible rfl
       rotate_left
       ·simp only [Act.put, List.setIfInBounds_toArray, List.set_cons_zero, List.set_cons_succ, i64_w, i32_w]
        rfl
       refine pure_ (i := 5) (N := some 30) (v := ?_) (a' := ?_) #[tT104,tT104,tT104,tT104,tT104,tT104,fF104,fF104,fF104,fF104] rfl rfl (q1q HT_.out z104_0) (fun _ _ _ h => h) (Or.inl ⟨by rfl, ?_⟩) ?_ ?_
       rotate_left
       ·intro w'
        go_simp
        with_reducible rfl
       rotate_left
       ·simp only [Act.put, List.setIfInBounds_toArray, List.set_cons_zero, List.set_cons_succ, i64_w, i32_w]
        rfl
       refine pure_ (i := 6) (N := some 31) (v := ?_) (a' := ?_) #[tT104,tT104,tT104,tT104,tT104,tT104,tT104,fF104,fF104,fF104] rfl rfl (q1q HT_.out z104_0) (fun _ _ _ h => h) (Or.inl ⟨by rfl, ?_⟩) ?_ ?_
       rotate_left
       ·intro w'
        go_simp
        with_reducible rfl
       rotate_left
       ·simp only [Act.put, List.setIfInBounds_toArray, List.set_cons_zero, List.set_cons_succ, i64_w, i32_w]
        rfl
       refine pure_ (i := 7) (N := some 32) (v := ?_) (a' := ?_) #[tT104,tT104,tT104,tT104,tT104,tT104,tT104,tT104,fF104,fF104] rfl rfl (q1q HT_.out z104_0) (fun _ _ _ h => h) (Or.inl ⟨by rfl, ?_⟩) ?_ ?_
       rotate_left
       ·intro w'
        go_simp
        with_reducible rfl
       rotate_left
       ·simp only [Act.put, List.setIfInBounds_toArray, List.set_cons_zero, List.set_cons_succ, i64_w, i32_w]
        rfl
       refine take_ (i := 8) (N := some 33) (v := ?_) (a' := ?_) #[tT104,tT104,tT104,tT104,tT104,tT104,tT104,tT104,tT104,fF104] rfl rfl (take_ofW HT_.out HW_.out z104_0) (fun _ _ _ h => h) (Or.inl ⟨by rfl, ?_⟩) hHeld ?_ ?_
       rotate_left
       ·rintro w' ⟨s0, s1, s2, s3⟩
        go_simp
        with_reducible rfl
       rotate_left
       ·simp only [Act.put, List.setIfInBounds_toArray, List.set_cons_zero, List.set_cons_succ, i64_w, i32_w]
        rfl
       refine one_ (i := 9) (N := some 34) #[tT104,tT104,tT104,tT104,tT104,tT104,tT104,tT104,tT104,tT104] rfl rfl (one_of HT_.out z104_0) (by decide) (fun K hK => ?_)
       refine goes_ Tryz.func57 z104_0 rfl #[.int .i64 a0, .slice (some ad507) y509.length c1, .int .i64 ((qu l1 x5_1).f0)] (by rfl) rfl rfl z104_3 ?_
       with_reducible refine (polyglotref05_twice.calls k1 a0 _ _ y509 ((qu l1 x5_1).f0) false _ ?side1 ?side2 A10.out).mono ?_
       (case side1 => repeat (first | exact (Kd.C_below HR512.out HB.out) | (with_reducible refine Kd.C_alloc ?_ _) | (with_reducible refine Kd.C_drewN ?_ _) | (with_reducible refine Kd.C_drew ?_)))
       (case side2 => exact HC512.out)
       rintro e w19 ⟨rfl, hb⟩
       refine ⟨_, rfl, ?_⟩
       have n0_ := Aside0.mk (qe z104_1 hb)
       clear HB
       have HB := n0_
       clear n0_
       clear hb
       refine hK.out _ _ ⟨((HB.out.cell (World.block_lt_of_cell? w _ hw513_0)).trans hw513_0), ((HB.out.cell (World.block_lt_of_cell? w _ hw513_1)).trans hw513_1), ((HB.out.cell (World.block_lt_of_cell? w _ hw513_2)).trans hw513_2), ((HB.out.cell (World.block_lt_of_cell? w _ hw513_3)).trans hw513_3)⟩ (fun hHeld => ?_)
       clear hK K
       refine norm_ (a' := ?_) ?_ ?_
       rotate_left
       ·show Act.put _ (some 34) _ = _
        simp only [Act.put, List.setIfInBounds_toArray, List.set_cons_zero, List.set_cons_succ, i64_w, i32_w]
        rfl
       refine done_ (done_of HT_.out z104_0) ?_
       try go_wp2
       go_roundg k1
       case measure => have := HK1.out; omega
       case rel => exact ⟨(wrap64 (x5_1 + 1)), z104_5, H', ⟨by have := HK1.out; omega⟩, ⟨by repeat (first | (with_reducible first | exact HB.out | apply qg | apply qa | apply qi) | exact HB.out)⟩⟩
      rw [if_neg c9] at H
      exact absurd H (by simp)
     rw [if_neg c7] at H
     have c7b0 : (t508 == 0) = false := beq_eq_false_iff_ne.mpr c7
     have c7b1 : (t508 != 0) = true := bne_iff_ne.mpr c7
     obtain rfl := Option.some.inj H
     have p507 : 0 ≤ (x5_1 : Int) := of_decide_eq_true z104_2
     have q507 : x5_1 < (l1.length : Int) := of_decide_eq_true z104_2
     obtain ⟨ad507, e507, hx507_0, hx507_1, hx507_2, hx507_3⟩ := at_T24 HR1.out x5_1 p507 q507
     cases e507
     replace hx507_0 := (HB.out.cell (World.block_lt_of_cell? w _ hx507_0)).trans hx507_0
     replace hx507_1 := (HB.out.cell (World.block_lt_of_cell? w _ hx507_1)).trans hx507_1
     replace hx507_2 := (HB.out.cell (World.block_lt_of_cell? w _ hx507_2)).trans hx507_2
     replace hx507_3 := (HB.out.cell (World.block_lt_of_cell? w _ hx507_3)).trans hx507_3
     replace p507 := eq_true p507
     replace q507 := eq_true q507
     go_wp2_with (first | ((with_reducible refine ql (f := 23) rfl ?_); refine q1b (some 21) rfl rfl Tryz.func23 z104_0 rfl #[.int .i64 a0, .agg #[.int .i64 ((qu l1 x5_1).f0), .int .u32 ((qu l1 x5_1).f1), .string ((qu l1 x5_1).f2), .string ((qu l1 x5_1).f3)]] rfl z104_3 ?_; (with_reducible refine (qb.calls k1 a0 ((qu l1 x5_1).f0) ((qu l1 x5_1).f1) ((qu l1 x5_1).f2) ((qu l1 x5_1).f3) t508 _ A6.out).mono ?_); rintro e w20 ⟨rfl, hb⟩; refine ⟨_, rfl, ?_⟩; have n0_ := Aside0.mk (qe z104_1 hb); clear HB; have HB := n0_; clear n0_; (try clear hb); (try clear hb2); (try clear hk); (try clear hi)))
     go_ret
     exact ⟨z104_4, z104_1⟩
    rw [if_neg c5] at H
    exact absurd H (by simp)
   rw [if_neg c4] at H
   have c4b0 : decide (x5_1 < (l1.length : Int)) = false := decide_eq_false c4
   clear c4
   replace H := Option.bind_eq_some_iff.mp H
   obtain ⟨t515, A210, H⟩ := H
   replace H : (if t515 = true then (some 9) else ((q12.f k1 l1).bind fun t516 => (if (t516.size : Int) > 268435455 then (some 4) else (some 0)))) = some r := H
   have A21 := Aside0.mk A210
   clear A210
   by_cases c22 : t515 = true
   ·subst c22
    rw [if_pos rfl] at H
    obtain rfl := Option.some.inj H
    go_wp2_with (first | ((with_reducible refine ql (f := 58) rfl ?_); refine q1b (some 36) rfl rfl Tryz.func58 z104_0 rfl #[.slice A1 l1.length c1] rfl z104_3 ?_; (with_reducible refine (polyglotref05_lone.calls k1 _ _ l1 true _ ?side1 ?side2 A21.out).mono ?_); (case side1 => repeat (first | exact (Kd.C_below HR1.out HB.out) | (with_reducible refine Kd.C_alloc ?_ _) | (with_reducible refine Kd.C_drewN ?_ _) | (with_reducible refine Kd.C_drew ?_))); (case side2 => exact HC1.out); rintro e w23 ⟨rfl, hb⟩; refine ⟨_, rfl, ?_⟩; have n0_ := Aside0.mk (qe z104_1 hb); clear HB; have HB := n0_; clear n0_; (try clear hb); (try clear hb2); (try clear hk); (try clear hi)))
    go_ret
    exact ⟨z104_4, z104_1⟩
   replace c22 := Bool.eq_false_iff.mpr c22
   subst c22
   rw [if_neg (show ¬ (false = true) by decide)] at H
   replace H := Option.bind_eq_some_iff.mp H
   obtain ⟨t516, A240, H⟩ := H
   replace H : (if (t516.size : Int) > 268435455 then (some 4) else (some 0)) = some r := H
   have A24 := Aside0.mk A240
   clear A240
   by_cases c25 : (t516.size : Int) > 268435455
   ·rw [if_pos c25] at H
    have c25b0 : decide (268435455 < (t516.size : Int)) = true := decide_eq_true c25
    have c25b1 : decide (268435455 < t516.size) = true := decide_eq_true (by omega)
    clear c25
    obtain rfl := Option.some.inj H
    go_wp2_with (first | ((with_reducible refine ql (f := 58) rfl ?_); refine q1b (some 36) rfl rfl Tryz.func58 z104_0 rfl #[.slice A1 l1.length c1] rfl z104_3 ?_; (with_reducible refine (polyglotref05_lone.calls k1 _ _ l1 false _ ?side1 ?side2 A21.out).mono ?_); (case side1 => repeat (first | exact (Kd.C_below HR1.out HB.out) | (with_reducible refine Kd.C_alloc ?_ _) | (with_reducible refine Kd.C_drewN ?_ _) | (with_reducible refine Kd.C_drew ?_))); (case side2 => exact HC1.out); rintro e w26 ⟨rfl, hb⟩; refine ⟨_, rfl, ?_⟩; have n0_ := Aside0.mk (qe z104_1 hb); clear HB; have HB := n0_; clear n0_; (try clear hb); (try clear hb2); (try clear hk); (try clear hi)) | ((with_reducible refine ql (f := 51) rfl ?_); refine q1b (some 38) rfl rfl Tryz.func51 z104_0 rfl #[.slice A1 l1.length c1] rfl z104_3 ?_; (with_reducible refine (q12.calls k1 _ _ l1 t516 _ ?side1 ?side2 A24.out).mono ?_); (case side1 => repeat (first | exact (Kd.C_below HR1.out HB.out) | (with_reducible refine Kd.C_alloc ?_ _) | (with_reducible refine Kd.C_drewN ?_ _) | (with_reducible refine Kd.C_drew ?_))); (case side2 => exact HC1.out); rintro e w27 ⟨rfl, hb⟩; refine ⟨_, rfl, ?_⟩; have n0_ := Aside0.mk (qe z104_1 hb); clear HB; have HB := n0_; clear n0_; (try clear hb); (try clear hb2); (try clear hk); (try clear hi)))
    go_ret
    exact ⟨z104_4, z104_1⟩
   rw [if_neg c25] at H
   have c25b0 : decide (268435455 < (t516.size : Int)) = false := decide_eq_false c25
   have c25b1 : decide (268435455 < t516.size) = false := decide_eq_false (by omega)
   clear c25
   obtain rfl := Option.some.inj H
   go_wp2_with (first | ((with_reducible refine ql (f := 58) rfl ?_); refine q1b (some 36) rfl rfl Tryz.func58 z104_0 rfl #[.slice A1 l1.length c1] rfl z104_3 ?_; (with_reducible refine (polyglotref05_lone.calls k1 _ _ l1 false _ ?side1 ?side2 A21.out).mono ?_); (case side1 => repeat (first | exact (Kd.C_below HR1.out HB.out) | (with_reducible refine Kd.C_alloc ?_ _) | (with_reducible refine Kd.C_drewN ?_ _) | (with_reducible refine Kd.C_drew ?_))); (case side2 => exact HC1.out); rintro e w28 ⟨rfl, hb⟩; refine ⟨_, rfl, ?_⟩; have n0_ := Aside0.mk (qe z104_1 hb); clear HB; have HB := n0_; clear n0_; (try clear hb); (try clear hb2); (try clear hk); (try clear hi)) | ((with_reducible refine ql (f := 51) rfl ?_); refine q1b (some 38) rfl rfl Tryz.func51 z104_0 rfl #[.slice A1 l1.length c1] rfl z104_3 ?_; (with_reducible refine (q12.calls k1 _ _ l1 t516 _ ?side1 ?side2 A24.out).mono ?_); (case side1 => repeat (first | exact (Kd.C_below HR1.out HB.out) | (with_reducible refine Kd.C_alloc ?_ _) | (with_reducible refine Kd.C_drewN ?_ _) | (with_reducible refine Kd.C_drew ?_))); (case side2 => exact HC1.out); rintro e w29 ⟨rfl, hb⟩; refine ⟨_, rfl, ?_⟩; have n0_ := Aside0.mk (qe z104_1 hb); clear HB; have HB := n0_; clear n0_; (try clear hb); (try clear hb2); (try clear hk); (try clear hi)))
   go_ret
   exact ⟨z104_4, z104_1⟩

end Go.Proofs.YtngmipfobcaojaaGreat.HA
end

-- YtngmipfobcaojaaGreatHA86
section
namespace Go.Proofs.YtngmipfobcaojaaGreat.HA
open Go.RowKit Go.Proofs.YtngmipfobcaojaaGreatW.PrintWords Go.Proofs.YtngmipfobcaojaaGreatW.PrintLast Go.Proofs.YtngmipfobcaojaaGreatW.PrintMore
attribute [local go_sem] q1k q1j q1s q1t q1a q19 q1h q1i

def polyglotref05_Bytes.f (k : Nat) (a0 : Int) (l1 : List (S24)) : Option (ByteArray × Int) := (qt.f k a0 l1).bind fun t517 => (if t517 = 0 then ((q12.f k l1).bind fun t518 => ((q16.f k (t518.size : Int)).bind fun bt519 => (if bt519.1.size + t518.size ≤ 9223372036854775807 then (some (bt519.1 ++ t518, 0)) else (none)))) else (some ((⟨#[]⟩ : ByteArray), t517)))
theorem z105_0 {p : Prop} (h : p := by repeat (first | (with_reducible first | exact HB.out | apply qg | apply qa | apply qi) | exact HB.out)) : p := h
theorem z105_1 {p : Prop} (h : p := by (try simp only [List.map_toArray, List.map_cons, List.map_nil]); first | done | rfl | (simp only [List.length_drop, List.length_take]; rfl)) : p := h
set_option maxHeartbeats 8000000 in
set_option maxRecDepth 100000 in
theorem polyglotref05_Bytes.calls (k : Nat) (a0 : Int) (A1 : Option Addr) (c1 : Nat) (l1 : List (S24)) (r1 : ByteArray) (r2 : Int) (w : World) (hr1 : Kd.C k24 w A1 l1.length l1) (hc1 : l1.length ≤ c1) (h : polyglotref05_Bytes.f k a0 l1 = some (r1, r2)) :
  Calls Tryz.prog 11 #[.int .i64 a0, .slice A1 l1.length c1] w fun e w' => e = .returned (.tuple #[.string r1, .int .i64 r2]) ∧ Below w.heap.size w w' := by
 have HR1 := Aside0.mk hr1
 have HC1 := Aside0.mk hc1
 clear hr1 hc1
 have HB := Aside0.mk (Below.refl w.heap.size w)
 have H : ((qt.f k a0 l1).bind fun t517 => (if t517 = 0 then ((q12.f k l1).bind fun t518 => ((q16.f k (t518.size : Int)).bind fun bt519 => (if bt519.1.size + t518.size ≤ 9223372036854775807 then (some (bt519.1 ++ t518, 0)) else (none)))) else (some ((⟨#[]⟩ : ByteArray), t517)))) = some (r1, r2) := h
 clear h
 replace H := Option.bind_eq_some_iff.mp H
 obtain ⟨t517, A30, H⟩ := H
 replace H : (if t517 = 0 then ((q12.f k l1).bind fun t518 => ((q16.f k (t518.size : Int)).bind fun bt519 => (if bt519.1.size + t518.size ≤ 9223372036854775807 then (some (bt519.1 ++ t518, 0)) else (none)))) else (some ((⟨#[]⟩ : ByteArray), t517))) = some (r1, r2) := H
 have A3 := Aside0.mk A30
 clear A30
 by_cases c4 : t517 = 0
 ·rw [if_pos c4] at H
  have c4b0 : (t517 == 0) = true := beq_iff_eq.mpr c4
  have c4b1 : (t517 != 0) = false := bne_eq_false_iff_eq.mpr c4
  clear c4
  replace H := Option.bind_eq_some_iff.mp H
  obtain ⟨t518, A50, H⟩ := H
  replace H : ((q16.f k (t518.size : Int)).bind fun bt519 => (if bt519.1.size + t518.size ≤ 9223372036854775807 then (some (bt519.1 ++ t518, 0)) else (none))) = some (r1, r2) := H
  have A5 := Aside0.mk A50
  clear A50
  replace H := Option.bind_eq_some_iff.mp H
  obtain ⟨⟨t519, t520⟩, A60, H⟩ := H
  replace H : (if t519.size + t518.size ≤ 9223372036854775807 then (some (t519 ++ t518, 0)) else (none)) = some (r1, r2) := H
  have A6 := Aside0.mk A60
  clear A60
  by_cases c7 : t519.size + t518.size ≤ 9223372036854775807
  ·rw [if_pos c7] at H
   have c7b0 := eq_true c7
   have c7b1 : decide (t519.size + t518.size ≤ 9223372036854775807) = true := decide_eq_true c7
   try have c7b2 : (9223372036854775807 < t519.size + t518.size) = False := eq_false (Nat.not_lt.2 c7)
   simp only [Option.some.injEq, Prod.mk.injEq] at H
   obtain ⟨rfl, rfl⟩ := H
   go_enter Tryz.func11, Tryz.ntmps11
   go_wp2_with (first | ((with_reducible refine ql (f := 25) rfl ?_); refine q1b (some 12) rfl rfl Tryz.func25 (by kernel_rfl) rfl #[.int .i64 a0, .slice A1 l1.length c1] rfl z105_1 ?_; (with_reducible refine (qt.calls k a0 _ _ l1 t517 _ ?side1 ?side2 A3.out).mono ?_); (case side1 => repeat (first | exact HR1.out | (with_reducible refine Kd.C_alloc ?_ _) | (with_reducible refine Kd.C_drewN ?_ _) | (with_reducible refine Kd.C_drew ?_))); (case side2 => exact HC1.out); rintro e w8 ⟨rfl, hb⟩; refine ⟨_, rfl, ?_⟩; have n0_ := Aside0.mk (qe z105_0 hb); clear HB; have HB := n0_; clear n0_; (try clear hb); (try clear hb2); (try clear hk); (try clear hi)) | ((with_reducible refine ql (f := 51) rfl ?_); refine q1b (some 17) rfl rfl Tryz.func51 (by kernel_rfl) rfl #[.slice A1 l1.length c1] rfl z105_1 ?_; (with_reducible refine (q12.calls k _ _ l1 t518 _ ?side1 ?side2 A5.out).mono ?_); (case side1 => repeat (first | exact (Kd.C_below HR1.out HB.out) | (with_reducible refine Kd.C_alloc ?_ _) | (with_reducible refine Kd.C_drewN ?_ _) | (with_reducible refine Kd.C_drew ?_))); (case side2 => exact HC1.out); rintro e w9 ⟨rfl, hb⟩; refine ⟨_, rfl, ?_⟩; have n0_ := Aside0.mk (qe z105_0 hb); clear HB; have HB := n0_; clear n0_; (try clear hb); (try clear hb2); (try clear hk); (try clear hi)) | ((with_reducible refine ql (f := 52) rfl ?_); refine q1b (some 21) rfl rfl Tryz.func52 (by kernel_rfl) rfl #[.int .i64 (t518.size : Int)] rfl z105_1 ?_; (with_reducible refine (q16.calls k (t518.size : Int) t519 t520 _ A6.out).mono ?_); rintro e w10 ⟨rfl, hb⟩; refine ⟨_, rfl, ?_⟩; have n0_ := Aside0.mk (qe z105_0 hb); clear HB; have HB := n0_; clear n0_; (try clear hb); (try clear hb2); (try clear hk); (try clear hi)))
   go_ret2
   exact ⟨(by first | rfl | (simp [qq, qp] <;> rfl) | (simp [*, qq, qp] <;> rfl)), z105_0⟩
  rw [if_neg c7] at H
  exact absurd H (by simp)
 rw [if_neg c4] at H
 have c4b0 : (t517 == 0) = false := beq_eq_false_iff_ne.mpr c4
 have c4b1 : (t517 != 0) = true := bne_iff_ne.mpr c4
 simp only [Option.some.injEq, Prod.mk.injEq] at H
 obtain ⟨rfl, rfl⟩ := H
 go_enter Tryz.func11, Tryz.ntmps11
 go_wp2_with (first | ((with_reducible refine ql (f := 25) rfl ?_); refine q1b (some 12) rfl rfl Tryz.func25 (by kernel_rfl) rfl #[.int .i64 a0, .slice A1 l1.length c1] rfl z105_1 ?_; (with_reducible refine (qt.calls k a0 _ _ l1 t517 _ ?side1 ?side2 A3.out).mono ?_); (case side1 => repeat (first | exact HR1.out | (with_reducible refine Kd.C_alloc ?_ _) | (with_reducible refine Kd.C_drewN ?_ _) | (with_reducible refine Kd.C_drew ?_))); (case side2 => exact HC1.out); rintro e w11 ⟨rfl, hb⟩; refine ⟨_, rfl, ?_⟩; have n0_ := Aside0.mk (qe z105_0 hb); clear HB; have HB := n0_; clear n0_; (try clear hb); (try clear hb2); (try clear hk); (try clear hi)))
 go_ret2
 exact ⟨(by first | rfl | (simp [qq, qp] <;> rfl) | (simp [*, qq, qp] <;> rfl)), z105_0⟩

end Go.Proofs.YtngmipfobcaojaaGreat.HA
end

-- YtngmipfobcaojaaGreatHAhCheck
section
namespace Go.Proofs.YtngmipfobcaojaaGreat.HA
open Go.RowKit Go.Proofs.YtngmipfobcaojaaGreatW.PrintWords Go.Proofs.YtngmipfobcaojaaGreatW.PrintLast Go.Proofs.YtngmipfobcaojaaGreatW.PrintMore

def prop_Check.f (k : Nat) (a0 : Int) (a1_0 : Int) (a1_1 : Int) (a1_2 : ByteArray) (a1_3 : ByteArray) : Option Int :=
  prop_check.f k (ruleOf a1_0).1 (ruleOf a1_0).2.1 (ruleOf a1_0).2.2.1 (ruleOf a1_0).2.2.2 a0 a1_0 a1_1 a1_2 a1_3
set_option maxHeartbeats 4000000 in
set_option maxRecDepth 100000 in
theorem prop_Check.calls (k : Nat) (a0 : Int) (a1_0 : Int) (a1_1 : Int) (a1_2 : ByteArray) (a1_3 : ByteArray) (r : Int) (w : World) (h : prop_Check.f k a0 a1_0 a1_1 a1_2 a1_3 = some r) :
    Calls Tryz.prog 22 #[.int .i64 a0, .agg #[.int .i64 a1_0, .int .u32 a1_1, .string a1_2, .string a1_3]] w fun e w' => e = .returned (.int .i64 r) ∧ Below w.heap.size w w' := by
  have hl := fun (W : World) (b : Nat) (hb : W.heap[b]? = some ruleObj) => run_rule_lookup W b a1_0 hb
  have hc := fun W => prop_check.calls k (ruleOf a1_0).1 (ruleOf a1_0).2.1 (ruleOf a1_0).2.2.1 (ruleOf a1_0).2.2.2 a0 a1_0 a1_1 a1_2 a1_3 r W h
  unfold ruleVal at hl
  clear h
  generalize ruleOf a1_0 = ru at *
  have HC := Aside0.mk hc
  obtain ⟨O, hO⟩ : ∃ O : Obj, O = .cells #[.int .i64 a1_0, .int .u32 a1_1, .string a1_2, .string a1_3] 24 := ⟨_, rfl⟩
  have hl2 : (Instr.lookup 61 (.map (some (w.heap.size + 1))) (.int .i64 a1_0) false).run Tryz.prog (((w.alloc O).alloc ruleObj).drew) = .ok _ _ := hl (((w.alloc O).alloc ruleObj).drew) (w.heap.size + 1) (by
    show ((w.alloc O).alloc ruleObj).heap[w.heap.size + 1]? = _
    have := heap_alloc_new (w.alloc O) ruleObj
    rw [show (w.alloc O).heap.size = w.heap.size + 1 by simp] at this
    exact this)
  subst hO
  clear hc hl
  go_enter Tryz.func22, Tryz.ntmps22
  go_wp2_with fail
  go_region_with (first | (go_at_call 45; refine (prop_rules.calls0 _).mono ?_; rintro e w' ⟨rfl, rfl⟩) | (go_at_call 46; refine (HC.out _).mono ?_; rintro e w' ⟨rfl, hb⟩))
  all_goals go_wp2
  all_goals go_ret
  all_goals exact ⟨rfl, below_then (below_drew (((Below.refl _ _).alloc (Nat.le_refl _) _).alloc (by simp) _)) (by simp; omega) hb⟩
end Go.Proofs.YtngmipfobcaojaaGreat.HA
end

-- YtngmipfobcaojaaGreatHA116
section
namespace Go.Proofs.YtngmipfobcaojaaGreat.HA
open Go.RowKit Go.Proofs.YtngmipfobcaojaaGreatW.PrintWords Go.Proofs.YtngmipfobcaojaaGreatW.PrintLast Go.Proofs.YtngmipfobcaojaaGreatW.PrintMore
attribute [local go_sem] q1k q1j q1s q1t q1a q19 q1h q1i
abbrev tT107 := true
abbrev fF107 := false

attribute [local go_sem high] eqA24
def qv.j0 : Nat → Int → Int → List (S24) → ByteArray → Bool → Int → Int → ByteArray → ByteArray → Option (Bool)
 | 0, _, _, _, _, _, _, _, _, _ => none
 | k + 1, x0, x1, x3, x4, x40, x620000, x620001, x620002, x620003 => if x40 = true then (some true) else ((api_Prop_10.f x3).bind fun t626 => ((prop_Bytes.f x0 t626).bind fun bt629 => ((polyglotref05_Bytes.f k x0 x3).bind fun bt631 => ((prop_Read.f k x0 x4).bind fun bt633 => ((qj.f k x0 x4).bind fun bt638 => ((prop_Get.f k x3 x1).bind fun bt643 => ((q13.f k x3 x1).bind fun bt649 => ((prop_Shape.f x1).bind fun t655 => ((polyglotref05_Shape.f k x1).bind fun t656 => (if t655 = t656 then ((prop_May.f x0 x1).bind fun t657 => ((qy.f k x0 x1).bind fun t658 => (if (t657 == t658) = true then ((prop_Many.f x0 x1).bind fun t659 => ((q1o.f k x0 x1).bind fun t660 => (if (t659 == t660) = true then ((prop_Check.f k x0 x620000 x620001 x620002 x620003).bind fun t661 => ((qb.f k x0 x620000 x620001 x620002 x620003).bind fun t662 => (if t661 = t662 then ((prop_Valid.f x0 x3).bind fun t663 => ((qt.f k x0 x3).bind fun t664 => (if t663 = t664 then (if bt629.1.toList = bt631.1.toList then (if bt629.2 = bt631.2 then ((q1u.f k bt633.1 bt638.1).bind fun t665 => (if t665 = true then (if bt633.2.1 = bt638.2.1 then (if bt633.2.2 = bt638.2.2 then (if (bt643.1 == bt649.1 && (bt643.2.1 == bt649.2.1 && (bt643.2.2.1.toList == bt649.2.2.1.toList && (bt643.2.2.2.1.toList == bt649.2.2.2.1.toList)))) = true then (if (bt643.2.2.2.2 == bt649.2.2.2.2) = true then ((q1n.f k x3 bt633.1).bind fun t666 => ((q11.f k x3 bt633.1).bind fun t667 => (if (t666 == t667) = true then ((q1n.f k bt633.1 bt638.1).bind fun t668 => (some t668)) else (some false)))) else (some false)) else (some false)) else (some false)) else (some false)) else (some false))) else (some false)) else (some false)) else (some false)))) else (some false)))) else (some false)))) else (some false)))) else (some false)))))))))))
def qv.f (k : Nat) (a0 : Int) (a1 : Int) (a2_0 : Int) (a2_1 : Int) (a2_2 : ByteArray) (a2_3 : ByteArray) (l3 : List (S24)) (a4 : ByteArray) : Option (Bool) := (polyglotlaw05_lives.f).bind fun t620 => (if t620 = true then ((q1e.f k l3).bind fun t621 => (if t621 = true then ((q1e.f k (([(⟨a2_0, a2_1, a2_2, a2_3⟩ : S24)] : List (S24)))).bind fun t625 => (if t625 = true then (qv.j0 k a0 a1 l3 a4 (decide ((a4.size : Int) > 2000)) a2_0 a2_1 a2_2 a2_3) else (qv.j0 k a0 a1 l3 a4 true a2_0 a2_1 a2_2 a2_3))) else (qv.j0 k a0 a1 l3 a4 true a2_0 a2_1 a2_2 a2_3))) else (some false))
def qv.T11 : Bool × List (List Nat × List Nat) := (true, [([], []), ([0], [0]), ([], []), ([2, 1], [2]), ([1, 3], [1, 3]), ([4, 3], [4]), ([5], [5]), ([5], [5]), ([6, 7, 5, 5], [5, 6, 7]), ([5], [5]), ([5], [5]), ([9, 10, 8, 5], [5, 9, 10]), ([8, 11, 5], [5, 8, 11]), ([5, 12], [5, 12]), ([13, 11], [13]), ([14], [14]), ([14], [14]), ([15, 16, 14, 14], [14, 15, 16]), ([14], [14]), ([14], [14]), ([18, 19, 17, 14], [14, 18, 19]), ([17, 20, 14], [14, 17, 20]), ([14, 21], [14, 21]), ([22, 20], [22]), ([23], [23]), ([23], [23]), ([24, 25, 23, 23], [23, 24, 25]), ([23], [23]), ([23], [23]), ([27, 28, 26, 23], [23, 27, 28]), ([26, 29, 23], [23, 26, 29]), ([23, 30], [23, 30]), ([31, 29], [31]), ([32], [32]), ([32], [32]), ([33, 34, 32, 32], [32, 33, 34]), ([32], [32]), ([32], [32]), ([36, 37, 35, 32], [32, 36, 37]), ([35, 38, 32], [32, 35, 38]), ([32, 39], [32, 39]), ([40, 38], [40]), ([41], [41]), ([41], [41]), ([42, 43, 41], [41, 42, 43]), ([41, 44], [41, 44]), ([45, 41], [45]), ([46], [46]), ([46], [46]), ([47, 48, 46], [46, 47, 48]), ([46, 49], [46, 49]), ([50, 46], [50]), ([51], [51]), ([51], [51]), ([52, 53, 51, 51], [51, 52, 53]), ([51, 54], [51, 54]), ([55, 54], [55]), ([56], [56]), ([56], [56]), ([57, 58, 56], [56, 57, 58]), ([56, 59], [56, 59]), ([60, 56], [60]), ([61], [61]), ([61], [61]), ([62, 63, 61], [61, 62, 63]), ([61, 64], [61, 64]), ([65, 61], [65]), ([66], [66]), ([66], [66]), ([67, 68, 66], [66, 67, 68]), ([66, 69], [66, 69]), ([70, 66], [70]), ([71], [71]), ([71], [71]), ([72, 73, 71], [71, 72, 73]), ([71, 74], [71, 74]), ([75, 71], [75]), ([76], [76]), ([76], [76]), ([77, 78, 76, 76], [76, 77, 78]), ([76], [76]), ([76], [76]), ([80, 81, 79, 76], [76, 80, 81]), ([79, 82, 76], [76, 79, 82]), ([76, 83], [76, 83]), ([84, 82], [84]), ([85], [85]), ([85], [85]), ([86, 87, 85, 85], [85, 86, 87]), ([85, 88], [85, 88]), ([89, 88, 0, 1, 2, 3, 4, 5, 6, 7, 8, 9, 10, 11, 12, 13, 14, 15, 16, 17, 18, 19, 20, 21, 22, 23, 24, 25, 26, 27, 28, 29, 30, 31, 32, 33, 34, 35, 36, 37, 38, 39, 40, 41, 42, 43, 44, 45, 46, 47, 48, 49, 50, 51, 52, 53, 54, 55, 56, 57, 58, 59, 60, 61, 62, 63, 64, 65, 66, 67, 68, 69, 70, 71, 72, 73, 74, 75, 76, 77, 78, 79, 80, 81, 82, 83, 84, 85, 86, 87, 88, 89], [89])])
def qv.B11 : List Nat := [0, 1, 0, 7, 15, 31, 63, 63, 255, 63, 63, 2047, 4095, 8191, 16383, 32767, 32767, 131071, 32767, 32767, 1048575, 2097151, 4194303, 8388607, 16777215, 16777215, 67108863, 16777215, 16777215, 536870911, 1073741823, 2147483647, 4294967295, 8589934591, 8589934591, 34359738367, 8589934591, 8589934591, 274877906943, 549755813887, 1099511627775, 2199023255551, 4398046511103, 4398046511103, 17592186044415, 35184372088831, 70368744177663, 140737488355327, 140737488355327, 562949953421311, 1125899906842623, 2251799813685247, 4503599627370495, 4503599627370495, 18014398509481983, 36028797018963967, 72057594037927935, 144115188075855871, 144115188075855871, 576460752303423487, 1152921504606846975, 2305843009213693951, 4611686018427387903, 4611686018427387903, 18446744073709551615, 36893488147419103231, 73786976294838206463, 147573952589676412927, 147573952589676412927, 590295810358705651711, 1180591620717411303423, 2361183241434822606847, 4722366482869645213695, 4722366482869645213695, 18889465931478580854783, 37778931862957161709567, 75557863725914323419135, 151115727451828646838271, 151115727451828646838271, 604462909807314587353087, 151115727451828646838271, 151115727451828646838271, 4835703278458516698824703, 9671406556917033397649407, 19342813113834066795298815, 38685626227668133590597631, 77371252455336267181195263, 77371252455336267181195263, 309485009821345068724781055, 618970019642690137449562111, 1237940039285380274899124223]
theorem qv.tab11 : rtab .any (opsOf Tryz.f3 11) = qv.T11 := by kernel_rfl
theorem qv.bits11 : waitsOk qv.T11.2 qv.B11 = true := by kernel_rfl
theorem z107_0 {p : Prop} (h : p := by kernel_rfl) : p := h
theorem z107_1 {p : Prop} (h : p := by (with_reducible repeat (first | refine qd ?_ _ | refine qf ?_ | refine qc ?_ _)); exact BK619.out) : p := h
theorem z107_2 {p : Prop} (h : p := by decide) : p := h
theorem z107_3 {p : Prop} (h : p := by (try simp only [List.map_toArray, List.map_cons, List.map_nil]); first | done | rfl | (simp only [List.length_drop, List.length_take]; rfl)) : p := h
theorem z107_4 {p : Prop} (h : p := by repeat (first | (with_reducible first | exact HB.out | apply qg | apply qa | apply qi | refine qw ?_ GE619.out) | exact HB.out)) : p := h
theorem z107_5 {p : Prop} (h : p := by (with_reducible repeat (first | apply Kd.R_alloc | apply Kd.R_drewN | apply Kd.R_drew)); exact HO628.out) : p := h
theorem z107_6 {p : Prop} (h : p := by (with_reducible repeat (first | apply Kd.R_alloc | apply Kd.R_drewN | apply Kd.R_drew)); exact HO637.out) : p := h
theorem z107_7 {p : Prop} (h : p := by (with_reducible repeat (first | apply Kd.R_alloc | apply Kd.R_drewN | apply Kd.R_drew)); exact HO642.out) : p := h
theorem z107_8 {p : Prop} (h : p := by (with_reducible repeat (first | refine qd ?_ _ | refine qf ?_ | refine qc ?_ _)); exact BK648.out) : p := h
theorem z107_9 {p : Prop} (h : p := by repeat (first | (with_reducible first | exact HB.out | apply qg | apply qa | apply qi | refine qw ?_ GE619.out | refine qw ?_ GE648.out | refine qw ?_ GE654.out) | exact HB.out)) : p := h
theorem z107_10 {p : Prop} (h : p := by (with_reducible repeat (first | refine qd ?_ _ | refine qf ?_ | refine qc ?_ _)); exact BK654.out) : p := h
theorem z107_11 {p : Prop} (h : p := by repeat (first | (with_reducible first | exact HB.out | apply qg | apply qa | apply qi | refine qw ?_ GE619.out | refine qw ?_ GE648.out) | exact HB.out)) : p := h
theorem z107_12 {p : Prop} (h : p := by repeat (first | (with_reducible first | exact HB.out | apply qg | apply qa | apply qi) | exact HB.out)) : p := h
theorem z107_13 {p : Prop} (h : p := by first | rfl | (simp; done) | (simp [*]; done) | (simp; exact qh _) | exact qh _ | (simp; exact (qh _).symm) | (simp; exact q15 _)) : p := h
set_option maxHeartbeats 8000000 in
set_option maxRecDepth 100000 in
theorem qv.calls (k : Nat) (a0 : Int) (a1 : Int) (a2_0 : Int) (a2_1 : Int) (a2_2 : ByteArray) (a2_3 : ByteArray) (A3 : Option Addr) (c3 : Nat) (l3 : List (S24)) (a4 : ByteArray) (r : Bool) (w : World) (hr3 : Kd.C k24 w A3 l3.length l3) (hc3 : l3.length ≤ c3) (h : qv.f k a0 a1 a2_0 a2_1 a2_2 a2_3 l3 a4 = some r) (ht_ : r = true := by rfl) :
  Calls Tryz.prog 3 #[.int .i64 a0, .int .i64 a1, .agg #[.int .i64 a2_0, .int .u32 a2_1, .string a2_2, .string a2_3], .slice A3 l3.length c3, .string a4] w fun e w' => e = .returned (.bool r) ∧ Below w.heap.size w w' := by
 have HT_ := Aside0.mk ht_
 clear ht_
 have hu24 := Tryz.underlying24
 have HR3 := Aside0.mk hr3
 have HC3 := Aside0.mk hc3
 clear hr3 hc3
 have HB := Aside0.mk (Below.refl w.heap.size w)
 have H : ((polyglotlaw05_lives.f).bind fun t620 => (if t620 = true then ((q1e.f k l3).bind fun t621 => (if t621 = true then ((q1e.f k (([(⟨a2_0, a2_1, a2_2, a2_3⟩ : S24)] : List (S24)))).bind fun t625 => (if t625 = true then (qv.j0 k a0 a1 l3 a4 (decide ((a4.size : Int) > 2000)) a2_0 a2_1 a2_2 a2_3) else (qv.j0 k a0 a1 l3 a4 true a2_0 a2_1 a2_2 a2_3))) else (qv.j0 k a0 a1 l3 a4 true a2_0 a2_1 a2_2 a2_3))) else (some false))) = some r := h
 clear h
 replace H := Option.bind_eq_some_iff.mp H
 obtain ⟨t620, A60, H⟩ := H
 replace H : (if t620 = true then ((q1e.f k l3).bind fun t621 => (if t621 = true then ((q1e.f k (([(⟨a2_0, a2_1, a2_2, a2_3⟩ : S24)] : List (S24)))).bind fun t625 => (if t625 = true then (qv.j0 k a0 a1 l3 a4 (decide ((a4.size : Int) > 2000)) a2_0 a2_1 a2_2 a2_3) else (qv.j0 k a0 a1 l3 a4 true a2_0 a2_1 a2_2 a2_3))) else (qv.j0 k a0 a1 l3 a4 true a2_0 a2_1 a2_2 a2_3))) else (some false)) = some r := H
 have A6 := Aside0.mk A60
 clear A60
 by_cases c7 : t620 = true
 ·subst c7
  rw [if_pos rfl] at H
  have HC8 := Aside0.mk H
  clear H
  go_enter Tryz.func3, Tryz.ntmps3
  go_upto_region 3 with (first | ((with_reducible refine q1c (N := 7) rfl ?_); (try (refine gate_guard (by rfl) ?_; dsimp only)); refine q1r ?hg (N := 7) ?hd (cs := #[.int .i64 a2_0, .int .u32 a2_1, .string a2_2, .string a2_3]) (t := 24) ?hr ?_; (case hd => rfl); (case hg => rfl); (case hr => first | (go_simp; done) | (go_simp; rfl)); intro gb619 hg w9 hbox hb; have n0_ := Aside0.mk (qe z107_12 hb); have n1_ := Aside0.mk (hbox); have n2_ := Aside0.mk ((by rw [hg]; exact (qm z107_12) : w.heap.size ≤ gb619)); have n3_ := Aside0.mk ((by rw [hg]; exact (qm z107_12) : w.heap.size ≤ gb619)); clear HB; have HB := n0_; have BK619 := n1_; have GW619 := n2_; have GE619 := n3_; clear n0_ n1_ n2_ n3_; clear hb hbox hg) | ((with_reducible refine ql (f := 7) rfl ?_); refine q1b (some 25) rfl rfl Tryz.func7 z107_0 rfl #[] rfl z107_3 ?_; (with_reducible refine (polyglotlaw05_lives.calls  true _ A6.out).mono ?_); rintro e w10 ⟨rfl, hb⟩; refine ⟨_, rfl, ?_⟩; have n0_ := Aside0.mk (qo (g := gb619) (o := .cells #[.int .i64 a2_0, .int .u32 a2_1, .string a2_2, .string a2_3] 24 (0, 0)) z107_1 hb); have n1_ := Aside0.mk (qe z107_4 hb); clear BK619; clear HB; have BK619 := n0_; have HB := n1_; clear n0_ n1_; (try clear hb); (try clear hb2); (try clear hk); (try clear hi)))
  (try simp only [Act.put, List.setIfInBounds_toArray, List.set_cons_zero, List.set_cons_succ])
  go_cut [40] (fun v40 wc => ∃ (kq : Nat) (x40_7 : Bool), v40 = .bool x40_7 ∧ Aside0 (qv.j0 kq a0 a1 l3 a4 x40_7 a2_0 a2_1 a2_2 a2_3 = some r) ∧ Aside0 (kq ≤ k) ∧ Aside0 (wc.heap[gb619]? = some (.cells #[.int .i64 a2_0, .int .u32 a2_1, .string a2_2, .string a2_3] 24 (0, 0))) ∧ Aside0 (Below w.heap.size w wc))
  case first =>
   have H := HC8.out
   clear HC8
   replace H := Option.bind_eq_some_iff.mp H
   obtain ⟨t621, A110, H⟩ := H
   replace H : (if t621 = true then ((q1e.f k (([(⟨a2_0, a2_1, a2_2, a2_3⟩ : S24)] : List (S24)))).bind fun t625 => (if t625 = true then (qv.j0 k a0 a1 l3 a4 (decide ((a4.size : Int) > 2000)) a2_0 a2_1 a2_2 a2_3) else (qv.j0 k a0 a1 l3 a4 true a2_0 a2_1 a2_2 a2_3))) else (qv.j0 k a0 a1 l3 a4 true a2_0 a2_1 a2_2 a2_3)) = some r := H
   have A11 := Aside0.mk A110
   clear A110
   by_cases c12 : t621 = true
   ·subst c12
    rw [if_pos rfl] at H
    obtain ⟨y622, hy622⟩ : ∃ y_ : List (S24), y_ = (([(⟨a2_0, a2_1, a2_2, a2_3⟩ : S24)] : List (S24))) := ⟨_, rfl⟩
    replace H : ((q1e.f k y622).bind fun t625 => (if t625 = true then (qv.j0 k a0 a1 l3 a4 (decide ((a4.size : Int) > 2000)) a2_0 a2_1 a2_2 a2_3) else (qv.j0 k a0 a1 l3 a4 true a2_0 a2_1 a2_2 a2_3))) = some r := by first | (rw [hy622]; with_reducible exact H) | (have H2_ := (Option.bind_some _ _).symm.trans H; rw [hy622]; with_reducible exact H2_) | (have H2_ := (Option.bind_some _ _).symm.trans H; with_reducible exact H2_) | with_reducible exact H | (rw [hy622]; exact H) | exact H
    have Ny622 := Aside0.mk hy622
    clear hy622
    replace H := Option.bind_eq_some_iff.mp H
    obtain ⟨t625, A130, H⟩ := H
    replace H : (if t625 = true then (qv.j0 k a0 a1 l3 a4 (decide ((a4.size : Int) > 2000)) a2_0 a2_1 a2_2 a2_3) else (qv.j0 k a0 a1 l3 a4 true a2_0 a2_1 a2_2 a2_3)) = some r := H
    have A13 := Aside0.mk A130
    clear A130
    by_cases c14 : t625 = true
    ·subst c14
     rw [if_pos rfl] at H
     have H' := Aside0.mk H
     clear H
     go_wp2_with (first | ((with_reducible refine ql (f := 8) rfl ?_); refine q1b (some 28) rfl rfl Tryz.func8 z107_0 rfl #[.slice A3 l3.length c3] rfl z107_3 ?_; (with_reducible refine (q1e.calls k _ _ l3 true _ ?side1 ?side2 A11.out).mono ?_); (case side1 => repeat (first | exact (Kd.C_below HR3.out HB.out) | (with_reducible refine Kd.C_alloc ?_ _) | (with_reducible refine Kd.C_drewN ?_ _) | (with_reducible refine Kd.C_drew ?_))); (case side2 => exact HC3.out); rintro e w' ⟨rfl, ⟨nd, rfl⟩⟩; refine ⟨_, rfl, ?_⟩; have hcz15_0 := zbc BK619 0 (.int .i64 a2_0); have hcz15_1 := zbc BK619 1 (.int .u32 a2_1); have hcz15_2 := zbc BK619 2 (.string a2_2); have hcz15_3 := zbc BK619 3 (.string a2_3); have hfz15_0 := q9 BK619.out 0; have hfz15_1 := q9 BK619.out 1; have hfz15_2 := q9 BK619.out 2; have hfz15_3 := q9 BK619.out 3) | ((with_reducible refine q1c (N := 32) rfl ?_); (try (refine gate_guard (by rfl) ?_; dsimp only)); refine Kd.R_lit k24 _ 24 ?hg (N := 32) ?hd (xs := ([(⟨a2_0, a2_1, a2_2, a2_3⟩ : S24)] : List (S24))) (inner := [.int .i64 a2_0, .int .u32 a2_1, .string a2_2, .string a2_3]) (ok := fun _ => True) (okp := fun _ => True) ?hr ?hp (fun _ hk => hk) trivial (Below.refl _ _) (Nat.le_refl _) (by simp) ?_; (case hd => rfl); (case hg => rfl); (case hr => first | (go_simp; done) | (go_simp; rfl)); (case hp => exact (Reps.c4 (show Kd.M k24 _ _ _ (⟨a2_0, a2_1, a2_2, a2_3⟩ : S24) [.int .i64 a2_0, .int .u32 a2_1, .string a2_2, .string a2_3] from (k24_mkM _ _ _ (⟨a2_0, a2_1, a2_2, a2_3⟩ : S24) )) (Reps.none _ _))); intro v623 w16 ho17 hb hg_ hnew_; clear hg_ hnew_; (first | rw [← Ny622.out] at ho17 | (simp only [Int.reduceToNat] at ho17; rw [← Ny622.out] at ho17)); have n0_ := Aside0.mk (Kd.R_lower (Kd.R_newB ho17 (g := gb619) (o := .cells #[.int .i64 a2_0, .int .u32 a2_1, .string a2_2, .string a2_3] 24 (0, 0)) z107_1) (qm z107_4)); have n1_ := Aside0.mk (qo (g := gb619) (o := .cells #[.int .i64 a2_0, .int .u32 a2_1, .string a2_2, .string a2_3] 24 (0, 0)) z107_1 hb); have n2_ := Aside0.mk (qe z107_4 hb); clear BK619; clear HB; have HO624 := n0_; have BK619 := n1_; have HB := n2_; clear n0_ n1_ n2_; clear hb ho17; obtain ⟨Ao18, co18, eo18⟩ := Kd.R_slice HO624.out; subst eo18) | (go_at_call 8; (with_reducible refine (q1e.calls k _ _ y622 true _ ?side1 ?side2 A13.out).mono ?_); (case side1 => repeat (first | exact (Kd.R_reads' HO624.out).2.2 | (with_reducible refine Kd.C_alloc ?_ _) | (with_reducible refine Kd.C_drewN ?_ _) | (with_reducible refine Kd.C_drew ?_))); (case side2 => exact (Kd.R_reads' HO624.out).2.1); rintro e w' ⟨rfl, ⟨nd, rfl⟩⟩))
     go_meet
     case rel => exact ⟨_, (decide ((a4.size : Int) > 2000)), z107_13, H', ⟨(by first | omega | exact Nat.le_refl _)⟩, ⟨z107_1⟩, ⟨z107_4⟩⟩
    replace c14 := Bool.eq_false_iff.mpr c14
    subst c14
    rw [if_neg (show ¬ (false = true) by decide)] at H
    have H' := Aside0.mk H
    clear H
    go_wp2_with (first | ((with_reducible refine ql (f := 8) rfl ?_); refine q1b (some 28) rfl rfl Tryz.func8 z107_0 rfl #[.slice A3 l3.length c3] rfl z107_3 ?_; (with_reducible refine (q1e.calls k _ _ l3 true _ ?side1 ?side2 A11.out).mono ?_); (case side1 => repeat (first | exact (Kd.C_below HR3.out HB.out) | (with_reducible refine Kd.C_alloc ?_ _) | (with_reducible refine Kd.C_drewN ?_ _) | (with_reducible refine Kd.C_drew ?_))); (case side2 => exact HC3.out); rintro e w' ⟨rfl, ⟨nd, rfl⟩⟩; refine ⟨_, rfl, ?_⟩; have hcz19_0 := zbc BK619 0 (.int .i64 a2_0); have hcz19_1 := zbc BK619 1 (.int .u32 a2_1); have hcz19_2 := zbc BK619 2 (.string a2_2); have hcz19_3 := zbc BK619 3 (.string a2_3); have hfz19_0 := q9 BK619.out 0; have hfz19_1 := q9 BK619.out 1; have hfz19_2 := q9 BK619.out 2; have hfz19_3 := q9 BK619.out 3) | ((with_reducible refine q1c (N := 32) rfl ?_); (try (refine gate_guard (by rfl) ?_; dsimp only)); refine Kd.R_lit k24 _ 24 ?hg (N := 32) ?hd (xs := ([(⟨a2_0, a2_1, a2_2, a2_3⟩ : S24)] : List (S24))) (inner := [.int .i64 a2_0, .int .u32 a2_1, .string a2_2, .string a2_3]) (ok := fun _ => True) (okp := fun _ => True) ?hr ?hp (fun _ hk => hk) trivial (Below.refl _ _) (Nat.le_refl _) (by simp) ?_; (case hd => rfl); (case hg => rfl); (case hr => first | (go_simp; done) | (go_simp; rfl)); (case hp => exact (Reps.c4 (show Kd.M k24 _ _ _ (⟨a2_0, a2_1, a2_2, a2_3⟩ : S24) [.int .i64 a2_0, .int .u32 a2_1, .string a2_2, .string a2_3] from (k24_mkM _ _ _ (⟨a2_0, a2_1, a2_2, a2_3⟩ : S24) )) (Reps.none _ _))); intro v623 w20 ho21 hb hg_ hnew_; clear hg_ hnew_; (first | rw [← Ny622.out] at ho21 | (simp only [Int.reduceToNat] at ho21; rw [← Ny622.out] at ho21)); have n0_ := Aside0.mk (Kd.R_lower (Kd.R_newB ho21 (g := gb619) (o := .cells #[.int .i64 a2_0, .int .u32 a2_1, .string a2_2, .string a2_3] 24 (0, 0)) z107_1) (qm z107_4)); have n1_ := Aside0.mk (qo (g := gb619) (o := .cells #[.int .i64 a2_0, .int .u32 a2_1, .string a2_2, .string a2_3] 24 (0, 0)) z107_1 hb); have n2_ := Aside0.mk (qe z107_4 hb); clear BK619; clear HB; have HO624 := n0_; have BK619 := n1_; have HB := n2_; clear n0_ n1_ n2_; clear hb ho21; obtain ⟨Ao22, co22, eo22⟩ := Kd.R_slice HO624.out; subst eo22) | (go_at_call 8; (with_reducible refine (q1e.calls k _ _ y622 false _ ?side1 ?side2 A13.out).mono ?_); (case side1 => repeat (first | exact (Kd.R_reads' HO624.out).2.2 | (with_reducible refine Kd.C_alloc ?_ _) | (with_reducible refine Kd.C_drewN ?_ _) | (with_reducible refine Kd.C_drew ?_))); (case side2 => exact (Kd.R_reads' HO624.out).2.1); rintro e w' ⟨rfl, ⟨nd, rfl⟩⟩))
    go_meet
    case rel => exact ⟨_, (true), z107_13, H', ⟨(by first | omega | exact Nat.le_refl _)⟩, ⟨z107_1⟩, ⟨z107_4⟩⟩
   replace c12 := Bool.eq_false_iff.mpr c12
   subst c12
   rw [if_neg (show ¬ (false = true) by decide)] at H
   have H' := Aside0.mk H
   clear H
   go_wp2_with (first | ((with_reducible refine ql (f := 8) rfl ?_); refine q1b (some 28) rfl rfl Tryz.func8 z107_0 rfl #[.slice A3 l3.length c3] rfl z107_3 ?_; (with_reducible refine (q1e.calls k _ _ l3 false _ ?side1 ?side2 A11.out).mono ?_); (case side1 => repeat (first | exact (Kd.C_below HR3.out HB.out) | (with_reducible refine Kd.C_alloc ?_ _) | (with_reducible refine Kd.C_drewN ?_ _) | (with_reducible refine Kd.C_drew ?_))); (case side2 => exact HC3.out); rintro e w' ⟨rfl, ⟨nd, rfl⟩⟩; refine ⟨_, rfl, ?_⟩))
   go_meet
   case rel => exact ⟨_, (true), z107_13, H', ⟨(by first | omega | exact Nat.le_refl _)⟩, ⟨z107_1⟩, ⟨z107_4⟩⟩
  case rest =>
   clear HC8
   obtain ⟨kq, x40_7, rfl, HA, HJ7, BK619, HB⟩ := hcut
   cases kq with
   | zero => exact absurd HA.out (by simp [qv.j0])
   | succ kj7 =>
    have H := HA.out
    clear HA
    simp only [qv.j0] at H
    by_cases c23 : x40_7 = true
    ·subst c23
     rw [if_pos rfl] at H
     obtain rfl := Option.some.inj H
     go_wp2
     go_ret
     exact ⟨(by first | rfl | (simp [qq, qp] <;> rfl) | (simp [*, qq, qp] <;> rfl)), z107_4⟩
    replace c23 := Bool.eq_false_iff.mpr c23
    subst c23
    rw [if_neg (show ¬ (false = true) by decide)] at H
    replace H := Option.bind_eq_some_iff.mp H
    obtain ⟨t626, A240, H⟩ := H
    replace H : ((prop_Bytes.f a0 t626).bind fun bt629 => ((polyglotref05_Bytes.f kj7 a0 l3).bind fun bt631 => ((prop_Read.f kj7 a0 a4).bind fun bt633 => ((qj.f kj7 a0 a4).bind fun bt638 => ((prop_Get.f kj7 l3 a1).bind fun bt643 => ((q13.f kj7 l3 a1).bind fun bt649 => ((prop_Shape.f a1).bind fun t655 => ((polyglotref05_Shape.f kj7 a1).bind fun t656 => (if t655 = t656 then ((prop_May.f a0 a1).bind fun t657 => ((qy.f kj7 a0 a1).bind fun t658 => (if (t657 == t658) = true then ((prop_Many.f a0 a1).bind fun t659 => ((q1o.f kj7 a0 a1).bind fun t660 => (if (t659 == t660) = true then ((prop_Check.f kj7 a0 a2_0 a2_1 a2_2 a2_3).bind fun t661 => ((qb.f kj7 a0 a2_0 a2_1 a2_2 a2_3).bind fun t662 => (if t661 = t662 then ((prop_Valid.f a0 l3).bind fun t663 => ((qt.f kj7 a0 l3).bind fun t664 => (if t663 = t664 then (if bt629.1.toList = bt631.1.toList then (if bt629.2 = bt631.2 then ((q1u.f kj7 bt633.1 bt638.1).bind fun t665 => (if t665 = true then (if bt633.2.1 = bt638.2.1 then (if bt633.2.2 = bt638.2.2 then (if (bt643.1 == bt649.1 && (bt643.2.1 == bt649.2.1 && (bt643.2.2.1.toList == bt649.2.2.1.toList && (bt643.2.2.2.1.toList == bt649.2.2.2.1.toList)))) = true then (if (bt643.2.2.2.2 == bt649.2.2.2.2) = true then ((q1n.f kj7 l3 bt633.1).bind fun t666 => ((q11.f kj7 l3 bt633.1).bind fun t667 => (if (t666 == t667) = true then ((q1n.f kj7 bt633.1 bt638.1).bind fun t668 => (some t668)) else (some false)))) else (some false)) else (some false)) else (some false)) else (some false)) else (some false))) else (some false)) else (some false)) else (some false)))) else (some false)))) else (some false)))) else (some false)))) else (some false)))))))))) = some r := H
    have A24 := Aside0.mk A240
    clear A240
    replace H := Option.bind_eq_some_iff.mp H
    obtain ⟨⟨t629, t630⟩, A250, H⟩ := H
    replace H : ((polyglotref05_Bytes.f kj7 a0 l3).bind fun bt631 => ((prop_Read.f kj7 a0 a4).bind fun bt633 => ((qj.f kj7 a0 a4).bind fun bt638 => ((prop_Get.f kj7 l3 a1).bind fun bt643 => ((q13.f kj7 l3 a1).bind fun bt649 => ((prop_Shape.f a1).bind fun t655 => ((polyglotref05_Shape.f kj7 a1).bind fun t656 => (if t655 = t656 then ((prop_May.f a0 a1).bind fun t657 => ((qy.f kj7 a0 a1).bind fun t658 => (if (t657 == t658) = true then ((prop_Many.f a0 a1).bind fun t659 => ((q1o.f kj7 a0 a1).bind fun t660 => (if (t659 == t660) = true then ((prop_Check.f kj7 a0 a2_0 a2_1 a2_2 a2_3).bind fun t661 => ((qb.f kj7 a0 a2_0 a2_1 a2_2 a2_3).bind fun t662 => (if t661 = t662 then ((prop_Valid.f a0 l3).bind fun t663 => ((qt.f kj7 a0 l3).bind fun t664 => (if t663 = t664 then (if t629.toList = bt631.1.toList then (if t630 = bt631.2 then ((q1u.f kj7 bt633.1 bt638.1).bind fun t665 => (if t665 = true then (if bt633.2.1 = bt638.2.1 then (if bt633.2.2 = bt638.2.2 then (if (bt643.1 == bt649.1 && (bt643.2.1 == bt649.2.1 && (bt643.2.2.1.toList == bt649.2.2.1.toList && (bt643.2.2.2.1.toList == bt649.2.2.2.1.toList)))) = true then (if (bt643.2.2.2.2 == bt649.2.2.2.2) = true then ((q1n.f kj7 l3 bt633.1).bind fun t666 => ((q11.f kj7 l3 bt633.1).bind fun t667 => (if (t666 == t667) = true then ((q1n.f kj7 bt633.1 bt638.1).bind fun t668 => (some t668)) else (some false)))) else (some false)) else (some false)) else (some false)) else (some false)) else (some false))) else (some false)) else (some false)) else (some false)))) else (some false)))) else (some false)))) else (some false)))) else (some false))))))))) = some r := H
    have A25 := Aside0.mk A250
    clear A250
    replace H := Option.bind_eq_some_iff.mp H
    obtain ⟨⟨t631, t632⟩, A260, H⟩ := H
    replace H : ((prop_Read.f kj7 a0 a4).bind fun bt633 => ((qj.f kj7 a0 a4).bind fun bt638 => ((prop_Get.f kj7 l3 a1).bind fun bt643 => ((q13.f kj7 l3 a1).bind fun bt649 => ((prop_Shape.f a1).bind fun t655 => ((polyglotref05_Shape.f kj7 a1).bind fun t656 => (if t655 = t656 then ((prop_May.f a0 a1).bind fun t657 => ((qy.f kj7 a0 a1).bind fun t658 => (if (t657 == t658) = true then ((prop_Many.f a0 a1).bind fun t659 => ((q1o.f kj7 a0 a1).bind fun t660 => (if (t659 == t660) = true then ((prop_Check.f kj7 a0 a2_0 a2_1 a2_2 a2_3).bind fun t661 => ((qb.f kj7 a0 a2_0 a2_1 a2_2 a2_3).bind fun t662 => (if t661 = t662 then ((prop_Valid.f a0 l3).bind fun t663 => ((qt.f kj7 a0 l3).bind fun t664 => (if t663 = t664 then (if t629.toList = t631.toList then (if t630 = t632 then ((q1u.f kj7 bt633.1 bt638.1).bind fun t665 => (if t665 = true then (if bt633.2.1 = bt638.2.1 then (if bt633.2.2 = bt638.2.2 then (if (bt643.1 == bt649.1 && (bt643.2.1 == bt649.2.1 && (bt643.2.2.1.toList == bt649.2.2.1.toList && (bt643.2.2.2.1.toList == bt649.2.2.2.1.toList)))) = true then (if (bt643.2.2.2.2 == bt649.2.2.2.2) = true then ((q1n.f kj7 l3 bt633.1).bind fun t666 => ((q11.f kj7 l3 bt633.1).bind fun t667 => (if (t666 == t667) = true then ((q1n.f kj7 bt633.1 bt638.1).bind fun t668 => (some t668)) else (some false)))) else (some false)) else (some false)) else (some false)) else (some false)) else (some false))) else (some false)) else (some false)) else (some false)))) else (some false)))) else (some false)))) else (some false)))) else (some false)))))))) = some r := H
    have A26 := Aside0.mk A260
    clear A260
    replace H := Option.bind_eq_some_iff.mp H
    obtain ⟨⟨t633, t634, t635⟩, A270, H⟩ := H
    replace H : ((qj.f kj7 a0 a4).bind fun bt638 => ((prop_Get.f kj7 l3 a1).bind fun bt643 => ((q13.f kj7 l3 a1).bind fun bt649 => ((prop_Shape.f a1).bind fun t655 => ((polyglotref05_Shape.f kj7 a1).bind fun t656 => (if t655 = t656 then ((prop_May.f a0 a1).bind fun t657 => ((qy.f kj7 a0 a1).bind fun t658 => (if (t657 == t658) = true then ((prop_Many.f a0 a1).bind fun t659 => ((q1o.f kj7 a0 a1).bind fun t660 => (if (t659 == t660) = true then ((prop_Check.f kj7 a0 a2_0 a2_1 a2_2 a2_3).bind fun t661 => ((qb.f kj7 a0 a2_0 a2_1 a2_2 a2_3).bind fun t662 => (if t661 = t662 then ((prop_Valid.f a0 l3).bind fun t663 => ((qt.f kj7 a0 l3).bind fun t664 => (if t663 = t664 then (if t629.toList = t631.toList then (if t630 = t632 then ((q1u.f kj7 t633 bt638.1).bind fun t665 => (if t665 = true then (if t634 = bt638.2.1 then (if t635 = bt638.2.2 then (if (bt643.1 == bt649.1 && (bt643.2.1 == bt649.2.1 && (bt643.2.2.1.toList == bt649.2.2.1.toList && (bt643.2.2.2.1.toList == bt649.2.2.2.1.toList)))) = true then (if (bt643.2.2.2.2 == bt649.2.2.2.2) = true then ((q1n.f kj7 l3 t633).bind fun t666 => ((q11.f kj7 l3 t633).bind fun t667 => (if (t666 == t667) = true then ((q1n.f kj7 t633 bt638.1).bind fun t668 => (some t668)) else (some false)))) else (some false)) else (some false)) else (some false)) else (some false)) else (some false))) else (some false)) else (some false)) else (some false)))) else (some false)))) else (some false)))) else (some false)))) else (some false))))))) = some r := H
    have A27 := Aside0.mk A270
    clear A270
    replace H := Option.bind_eq_some_iff.mp H
    obtain ⟨⟨t638, t639, t640⟩, A280, H⟩ := H
    replace H : ((prop_Get.f kj7 l3 a1).bind fun bt643 => ((q13.f kj7 l3 a1).bind fun bt649 => ((prop_Shape.f a1).bind fun t655 => ((polyglotref05_Shape.f kj7 a1).bind fun t656 => (if t655 = t656 then ((prop_May.f a0 a1).bind fun t657 => ((qy.f kj7 a0 a1).bind fun t658 => (if (t657 == t658) = true then ((prop_Many.f a0 a1).bind fun t659 => ((q1o.f kj7 a0 a1).bind fun t660 => (if (t659 == t660) = true then ((prop_Check.f kj7 a0 a2_0 a2_1 a2_2 a2_3).bind fun t661 => ((qb.f kj7 a0 a2_0 a2_1 a2_2 a2_3).bind fun t662 => (if t661 = t662 then ((prop_Valid.f a0 l3).bind fun t663 => ((qt.f kj7 a0 l3).bind fun t664 => (if t663 = t664 then (if t629.toList = t631.toList then (if t630 = t632 then ((q1u.f kj7 t633 t638).bind fun t665 => (if t665 = true then (if t634 = t639 then (if t635 = t640 then (if (bt643.1 == bt649.1 && (bt643.2.1 == bt649.2.1 && (bt643.2.2.1.toList == bt649.2.2.1.toList && (bt643.2.2.2.1.toList == bt649.2.2.2.1.toList)))) = true then (if (bt643.2.2.2.2 == bt649.2.2.2.2) = true then ((q1n.f kj7 l3 t633).bind fun t666 => ((q11.f kj7 l3 t633).bind fun t667 => (if (t666 == t667) = true then ((q1n.f kj7 t633 t638).bind fun t668 => (some t668)) else (some false)))) else (some false)) else (some false)) else (some false)) else (some false)) else (some false))) else (some false)) else (some false)) else (some false)))) else (some false)))) else (some false)))) else (some false)))) else (some false)))))) = some r := H
    have A28 := Aside0.mk A280
    clear A280
    replace H := Option.bind_eq_some_iff.mp H
    obtain ⟨⟨t643, t644, t645, t646, t647⟩, A290, H⟩ := H
    replace H : ((q13.f kj7 l3 a1).bind fun bt649 => ((prop_Shape.f a1).bind fun t655 => ((polyglotref05_Shape.f kj7 a1).bind fun t656 => (if t655 = t656 then ((prop_May.f a0 a1).bind fun t657 => ((qy.f kj7 a0 a1).bind fun t658 => (if (t657 == t658) = true then ((prop_Many.f a0 a1).bind fun t659 => ((q1o.f kj7 a0 a1).bind fun t660 => (if (t659 == t660) = true then ((prop_Check.f kj7 a0 a2_0 a2_1 a2_2 a2_3).bind fun t661 => ((qb.f kj7 a0 a2_0 a2_1 a2_2 a2_3).bind fun t662 => (if t661 = t662 then ((prop_Valid.f a0 l3).bind fun t663 => ((qt.f kj7 a0 l3).bind fun t664 => (if t663 = t664 then (if t629.toList = t631.toList then (if t630 = t632 then ((q1u.f kj7 t633 t638).bind fun t665 => (if t665 = true then (if t634 = t639 then (if t635 = t640 then (if (t643 == bt649.1 && (t644 == bt649.2.1 && (t645.toList == bt649.2.2.1.toList && (t646.toList == bt649.2.2.2.1.toList)))) = true then (if (t647 == bt649.2.2.2.2) = true then ((q1n.f kj7 l3 t633).bind fun t666 => ((q11.f kj7 l3 t633).bind fun t667 => (if (t666 == t667) = true then ((q1n.f kj7 t633 t638).bind fun t668 => (some t668)) else (some false)))) else (some false)) else (some false)) else (some false)) else (some false)) else (some false))) else (some false)) else (some false)) else (some false)))) else (some false)))) else (some false)))) else (some false)))) else (some false))))) = some r := H
    have A29 := Aside0.mk A290
    clear A290
    replace H := Option.bind_eq_some_iff.mp H
    obtain ⟨⟨t649, t650, t651, t652, t653⟩, A300, H⟩ := H
    replace H : ((prop_Shape.f a1).bind fun t655 => ((polyglotref05_Shape.f kj7 a1).bind fun t656 => (if t655 = t656 then ((prop_May.f a0 a1).bind fun t657 => ((qy.f kj7 a0 a1).bind fun t658 => (if (t657 == t658) = true then ((prop_Many.f a0 a1).bind fun t659 => ((q1o.f kj7 a0 a1).bind fun t660 => (if (t659 == t660) = true then ((prop_Check.f kj7 a0 a2_0 a2_1 a2_2 a2_3).bind fun t661 => ((qb.f kj7 a0 a2_0 a2_1 a2_2 a2_3).bind fun t662 => (if t661 = t662 then ((prop_Valid.f a0 l3).bind fun t663 => ((qt.f kj7 a0 l3).bind fun t664 => (if t663 = t664 then (if t629.toList = t631.toList then (if t630 = t632 then ((q1u.f kj7 t633 t638).bind fun t665 => (if t665 = true then (if t634 = t639 then (if t635 = t640 then (if (t643 == t649 && (t644 == t650 && (t645.toList == t651.toList && (t646.toList == t652.toList)))) = true then (if (t647 == t653) = true then ((q1n.f kj7 l3 t633).bind fun t666 => ((q11.f kj7 l3 t633).bind fun t667 => (if (t666 == t667) = true then ((q1n.f kj7 t633 t638).bind fun t668 => (some t668)) else (some false)))) else (some false)) else (some false)) else (some false)) else (some false)) else (some false))) else (some false)) else (some false)) else (some false)))) else (some false)))) else (some false)))) else (some false)))) else (some false)))) = some r := H
    have A30 := Aside0.mk A300
    clear A300
    replace H := Option.bind_eq_some_iff.mp H
    obtain ⟨t655, A310, H⟩ := H
    replace H : ((polyglotref05_Shape.f kj7 a1).bind fun t656 => (if t655 = t656 then ((prop_May.f a0 a1).bind fun t657 => ((qy.f kj7 a0 a1).bind fun t658 => (if (t657 == t658) = true then ((prop_Many.f a0 a1).bind fun t659 => ((q1o.f kj7 a0 a1).bind fun t660 => (if (t659 == t660) = true then ((prop_Check.f kj7 a0 a2_0 a2_1 a2_2 a2_3).bind fun t661 => ((qb.f kj7 a0 a2_0 a2_1 a2_2 a2_3).bind fun t662 => (if t661 = t662 then ((prop_Valid.f a0 l3).bind fun t663 => ((qt.f kj7 a0 l3).bind fun t664 => (if t663 = t664 then (if t629.toList = t631.toList then (if t630 = t632 then ((q1u.f kj7 t633 t638).bind fun t665 => (if t665 = true then (if t634 = t639 then (if t635 = t640 then (if (t643 == t649 && (t644 == t650 && (t645.toList == t651.toList && (t646.toList == t652.toList)))) = true then (if (t647 == t653) = true then ((q1n.f kj7 l3 t633).bind fun t666 => ((q11.f kj7 l3 t633).bind fun t667 => (if (t666 == t667) = true then ((q1n.f kj7 t633 t638).bind fun t668 => (some t668)) else (some false)))) else (some false)) else (some false)) else (some false)) else (some false)) else (some false))) else (some false)) else (some false)) else (some false)))) else (some false)))) else (some false)))) else (some false)))) else (some false))) = some r := H
    have A31 := Aside0.mk A310
    clear A310
    replace H := Option.bind_eq_some_iff.mp H
    obtain ⟨t656, A320, H⟩ := H
    replace H : (if t655 = t656 then ((prop_May.f a0 a1).bind fun t657 => ((qy.f kj7 a0 a1).bind fun t658 => (if (t657 == t658) = true then ((prop_Many.f a0 a1).bind fun t659 => ((q1o.f kj7 a0 a1).bind fun t660 => (if (t659 == t660) = true then ((prop_Check.f kj7 a0 a2_0 a2_1 a2_2 a2_3).bind fun t661 => ((qb.f kj7 a0 a2_0 a2_1 a2_2 a2_3).bind fun t662 => (if t661 = t662 then ((prop_Valid.f a0 l3).bind fun t663 => ((qt.f kj7 a0 l3).bind fun t664 => (if t663 = t664 then (if t629.toList = t631.toList then (if t630 = t632 then ((q1u.f kj7 t633 t638).bind fun t665 => (if t665 = true then (if t634 = t639 then (if t635 = t640 then (if (t643 == t649 && (t644 == t650 && (t645.toList == t651.toList && (t646.toList == t652.toList)))) = true then (if (t647 == t653) = true then ((q1n.f kj7 l3 t633).bind fun t666 => ((q11.f kj7 l3 t633).bind fun t667 => (if (t666 == t667) = true then ((q1n.f kj7 t633 t638).bind fun t668 => (some t668)) else (some false)))) else (some false)) else (some false)) else (some false)) else (some false)) else (some false))) else (some false)) else (some false)) else (some false)))) else (some false)))) else (some false)))) else (some false)))) else (some false)) = some r := H
    have A32 := Aside0.mk A320
    clear A320
    by_cases c33 : t655 = t656
    ·rw [if_pos c33] at H
     have c33b0 : (t655 == t656) = true := beq_iff_eq.mpr c33
     have c33b1 : (t655 != t656) = false := bne_eq_false_iff_eq.mpr c33
     clear c33
     replace H := Option.bind_eq_some_iff.mp H
     obtain ⟨t657, A340, H⟩ := H
     replace H : ((qy.f kj7 a0 a1).bind fun t658 => (if (t657 == t658) = true then ((prop_Many.f a0 a1).bind fun t659 => ((q1o.f kj7 a0 a1).bind fun t660 => (if (t659 == t660) = true then ((prop_Check.f kj7 a0 a2_0 a2_1 a2_2 a2_3).bind fun t661 => ((qb.f kj7 a0 a2_0 a2_1 a2_2 a2_3).bind fun t662 => (if t661 = t662 then ((prop_Valid.f a0 l3).bind fun t663 => ((qt.f kj7 a0 l3).bind fun t664 => (if t663 = t664 then (if t629.toList = t631.toList then (if t630 = t632 then ((q1u.f kj7 t633 t638).bind fun t665 => (if t665 = true then (if t634 = t639 then (if t635 = t640 then (if (t643 == t649 && (t644 == t650 && (t645.toList == t651.toList && (t646.toList == t652.toList)))) = true then (if (t647 == t653) = true then ((q1n.f kj7 l3 t633).bind fun t666 => ((q11.f kj7 l3 t633).bind fun t667 => (if (t666 == t667) = true then ((q1n.f kj7 t633 t638).bind fun t668 => (some t668)) else (some false)))) else (some false)) else (some false)) else (some false)) else (some false)) else (some false))) else (some false)) else (some false)) else (some false)))) else (some false)))) else (some false)))) else (some false))) = some r := H
     have A34 := Aside0.mk A340
     clear A340
     replace H := Option.bind_eq_some_iff.mp H
     obtain ⟨t658, A350, H⟩ := H
     replace H : (if (t657 == t658) = true then ((prop_Many.f a0 a1).bind fun t659 => ((q1o.f kj7 a0 a1).bind fun t660 => (if (t659 == t660) = true then ((prop_Check.f kj7 a0 a2_0 a2_1 a2_2 a2_3).bind fun t661 => ((qb.f kj7 a0 a2_0 a2_1 a2_2 a2_3).bind fun t662 => (if t661 = t662 then ((prop_Valid.f a0 l3).bind fun t663 => ((qt.f kj7 a0 l3).bind fun t664 => (if t663 = t664 then (if t629.toList = t631.toList then (if t630 = t632 then ((q1u.f kj7 t633 t638).bind fun t665 => (if t665 = true then (if t634 = t639 then (if t635 = t640 then (if (t643 == t649 && (t644 == t650 && (t645.toList == t651.toList && (t646.toList == t652.toList)))) = true then (if (t647 == t653) = true then ((q1n.f kj7 l3 t633).bind fun t666 => ((q11.f kj7 l3 t633).bind fun t667 => (if (t666 == t667) = true then ((q1n.f kj7 t633 t638).bind fun t668 => (some t668)) else (some false)))) else (some false)) else (some false)) else (some false)) else (some false)) else (some false))) else (some false)) else (some false)) else (some false)))) else (some false)))) else (some false)))) else (some false)) = some r := H
     have A35 := Aside0.mk A350
     clear A350
     by_cases c36 : (t657 == t658) = true
     ·rw [if_pos c36] at H
      have c36b0 : (t657 == t658) = true := c36
      (try (have c36b1 : decide (t657 = t658) = true := by simpa using c36))
      (try (have c36b2 : (t657 == t658) = true := by simpa using c36))
      clear c36
      replace H := Option.bind_eq_some_iff.mp H
      obtain ⟨t659, A370, H⟩ := H
      replace H : ((q1o.f kj7 a0 a1).bind fun t660 => (if (t659 == t660) = true then ((prop_Check.f kj7 a0 a2_0 a2_1 a2_2 a2_3).bind fun t661 => ((qb.f kj7 a0 a2_0 a2_1 a2_2 a2_3).bind fun t662 => (if t661 = t662 then ((prop_Valid.f a0 l3).bind fun t663 => ((qt.f kj7 a0 l3).bind fun t664 => (if t663 = t664 then (if t629.toList = t631.toList then (if t630 = t632 then ((q1u.f kj7 t633 t638).bind fun t665 => (if t665 = true then (if t634 = t639 then (if t635 = t640 then (if (t643 == t649 && (t644 == t650 && (t645.toList == t651.toList && (t646.toList == t652.toList)))) = true then (if (t647 == t653) = true then ((q1n.f kj7 l3 t633).bind fun t666 => ((q11.f kj7 l3 t633).bind fun t667 => (if (t666 == t667) = true then ((q1n.f kj7 t633 t638).bind fun t668 => (some t668)) else (some false)))) else (some false)) else (some false)) else (some false)) else (some false)) else (some false))) else (some false)) else (some false)) else (some false)))) else (some false)))) else (some false))) = some r := H
      have A37 := Aside0.mk A370
      clear A370
      replace H := Option.bind_eq_some_iff.mp H
      obtain ⟨t660, A380, H⟩ := H
      replace H : (if (t659 == t660) = true then ((prop_Check.f kj7 a0 a2_0 a2_1 a2_2 a2_3).bind fun t661 => ((qb.f kj7 a0 a2_0 a2_1 a2_2 a2_3).bind fun t662 => (if t661 = t662 then ((prop_Valid.f a0 l3).bind fun t663 => ((qt.f kj7 a0 l3).bind fun t664 => (if t663 = t664 then (if t629.toList = t631.toList then (if t630 = t632 then ((q1u.f kj7 t633 t638).bind fun t665 => (if t665 = true then (if t634 = t639 then (if t635 = t640 then (if (t643 == t649 && (t644 == t650 && (t645.toList == t651.toList && (t646.toList == t652.toList)))) = true then (if (t647 == t653) = true then ((q1n.f kj7 l3 t633).bind fun t666 => ((q11.f kj7 l3 t633).bind fun t667 => (if (t666 == t667) = true then ((q1n.f kj7 t633 t638).bind fun t668 => (some t668)) else (some false)))) else (some false)) else (some false)) else (some false)) else (some false)) else (some false))) else (some false)) else (some false)) else (some false)))) else (some false)))) else (some false)) = some r := H
      have A38 := Aside0.mk A380
      clear A380
      by_cases c39 : (t659 == t660) = true
      ·rw [if_pos c39] at H
       have c39b0 : (t659 == t660) = true := c39
       (try (have c39b1 : decide (t659 = t660) = true := by simpa using c39))
       (try (have c39b2 : (t659 == t660) = true := by simpa using c39))
       clear c39
       replace H := Option.bind_eq_some_iff.mp H
       obtain ⟨t661, A400, H⟩ := H
       replace H : ((qb.f kj7 a0 a2_0 a2_1 a2_2 a2_3).bind fun t662 => (if t661 = t662 then ((prop_Valid.f a0 l3).bind fun t663 => ((qt.f kj7 a0 l3).bind fun t664 => (if t663 = t664 then (if t629.toList = t631.toList then (if t630 = t632 then ((q1u.f kj7 t633 t638).bind fun t665 => (if t665 = true then (if t634 = t639 then (if t635 = t640 then (if (t643 == t649 && (t644 == t650 && (t645.toList == t651.toList && (t646.toList == t652.toList)))) = true then (if (t647 == t653) = true then ((q1n.f kj7 l3 t633).bind fun t666 => ((q11.f kj7 l3 t633).bind fun t667 => (if (t666 == t667) = true then ((q1n.f kj7 t633 t638).bind fun t668 => (some t668)) else (some false)))) else (some false)) else (some false)) else (some false)) else (some false)) else (some false))) else (some false)) else (some false)) else (some false)))) else (some false))) = some r := H
       have A40 := Aside0.mk A400
       clear A400
       replace H := Option.bind_eq_some_iff.mp H
       obtain ⟨t662, A410, H⟩ := H
       replace H : (if t661 = t662 then ((prop_Valid.f a0 l3).bind fun t663 => ((qt.f kj7 a0 l3).bind fun t664 => (if t663 = t664 then (if t629.toList = t631.toList then (if t630 = t632 then ((q1u.f kj7 t633 t638).bind fun t665 => (if t665 = true then (if t634 = t639 then (if t635 = t640 then (if (t643 == t649 && (t644 == t650 && (t645.toList == t651.toList && (t646.toList == t652.toList)))) = true then (if (t647 == t653) = true then ((q1n.f kj7 l3 t633).bind fun t666 => ((q11.f kj7 l3 t633).bind fun t667 => (if (t666 == t667) = true then ((q1n.f kj7 t633 t638).bind fun t668 => (some t668)) else (some false)))) else (some false)) else (some false)) else (some false)) else (some false)) else (some false))) else (some false)) else (some false)) else (some false)))) else (some false)) = some r := H
       have A41 := Aside0.mk A410
       clear A410
       by_cases c42 : t661 = t662
       ·rw [if_pos c42] at H
        have c42b0 : (t661 == t662) = true := beq_iff_eq.mpr c42
        have c42b1 : (t661 != t662) = false := bne_eq_false_iff_eq.mpr c42
        clear c42
        replace H := Option.bind_eq_some_iff.mp H
        obtain ⟨t663, A430, H⟩ := H
        replace H : ((qt.f kj7 a0 l3).bind fun t664 => (if t663 = t664 then (if t629.toList = t631.toList then (if t630 = t632 then ((q1u.f kj7 t633 t638).bind fun t665 => (if t665 = true then (if t634 = t639 then (if t635 = t640 then (if (t643 == t649 && (t644 == t650 && (t645.toList == t651.toList && (t646.toList == t652.toList)))) = true then (if (t647 == t653) = true then ((q1n.f kj7 l3 t633).bind fun t666 => ((q11.f kj7 l3 t633).bind fun t667 => (if (t666 == t667) = true then ((q1n.f kj7 t633 t638).bind fun t668 => (some t668)) else (some false)))) else (some false)) else (some false)) else (some false)) else (some false)) else (some false))) else (some false)) else (some false)) else (some false))) = some r := H
        have A43 := Aside0.mk A430
        clear A430
        replace H := Option.bind_eq_some_iff.mp H
        obtain ⟨t664, A440, H⟩ := H
        replace H : (if t663 = t664 then (if t629.toList = t631.toList then (if t630 = t632 then ((q1u.f kj7 t633 t638).bind fun t665 => (if t665 = true then (if t634 = t639 then (if t635 = t640 then (if (t643 == t649 && (t644 == t650 && (t645.toList == t651.toList && (t646.toList == t652.toList)))) = true then (if (t647 == t653) = true then ((q1n.f kj7 l3 t633).bind fun t666 => ((q11.f kj7 l3 t633).bind fun t667 => (if (t666 == t667) = true then ((q1n.f kj7 t633 t638).bind fun t668 => (some t668)) else (some false)))) else (some false)) else (some false)) else (some false)) else (some false)) else (some false))) else (some false)) else (some false)) else (some false)) = some r := H
        have A44 := Aside0.mk A440
        clear A440
        by_cases c45 : t663 = t664
        ·rw [if_pos c45] at H
         have c45b0 : (t663 == t664) = true := beq_iff_eq.mpr c45
         have c45b1 : (t663 != t664) = false := bne_eq_false_iff_eq.mpr c45
         clear c45
         by_cases c46 : t629.toList = t631.toList
         ·rw [if_pos c46] at H
          have c46b0 : (t629.toList == t631.toList) = true := beq_iff_eq.mpr c46
          have c46b1 : (t629.toList != t631.toList) = false := bne_eq_false_iff_eq.mpr c46
          clear c46
          by_cases c47 : t630 = t632
          ·rw [if_pos c47] at H
           have c47b0 : (t630 == t632) = true := beq_iff_eq.mpr c47
           have c47b1 : (t630 != t632) = false := bne_eq_false_iff_eq.mpr c47
           clear c47
           replace H := Option.bind_eq_some_iff.mp H
           obtain ⟨t665, A480, H⟩ := H
           replace H : (if t665 = true then (if t634 = t639 then (if t635 = t640 then (if (t643 == t649 && (t644 == t650 && (t645.toList == t651.toList && (t646.toList == t652.toList)))) = true then (if (t647 == t653) = true then ((q1n.f kj7 l3 t633).bind fun t666 => ((q11.f kj7 l3 t633).bind fun t667 => (if (t666 == t667) = true then ((q1n.f kj7 t633 t638).bind fun t668 => (some t668)) else (some false)))) else (some false)) else (some false)) else (some false)) else (some false)) else (some false)) = some r := H
           have A48 := Aside0.mk A480
           clear A480
           by_cases c49 : t665 = true
           ·subst c49
            rw [if_pos rfl] at H
            by_cases c50 : t634 = t639
            ·rw [if_pos c50] at H
             have c50b0 : (t634 == t639) = true := beq_iff_eq.mpr c50
             have c50b1 : (t634 != t639) = false := bne_eq_false_iff_eq.mpr c50
             clear c50
             by_cases c51 : t635 = t640
             ·rw [if_pos c51] at H
              have c51b0 : (t635 == t640) = true := beq_iff_eq.mpr c51
              have c51b1 : (t635 != t640) = false := bne_eq_false_iff_eq.mpr c51
              clear c51
              by_cases c52 : (t643 == t649 && (t644 == t650 && (t645.toList == t651.toList && (t646.toList == t652.toList)))) = true
              ·rw [if_pos c52] at H
               have c52b0 : (t643 == t649 && (t644 == t650 && (t645.toList == t651.toList && (t646.toList == t652.toList)))) = true := c52
               (try (have c52b1 : decide (t643 = t649 && (t644 == t650 && (t645.toList == t651.toList && (t646.toList == t652.toList)))) = true := by simpa using c52))
               (try (have c52b2 : (t643 == t649 && (t644 == t650 && (t645.toList == t651.toList && (t646.toList == t652.toList)))) = true := by simpa using c52))
               clear c52
               by_cases c53 : (t647 == t653) = true
               ·rw [if_pos c53] at H
                have c53b0 : (t647 == t653) = true := c53
                (try (have c53b1 : decide (t647 = t653) = true := by simpa using c53))
                (try (have c53b2 : (t647 == t653) = true := by simpa using c53))
                clear c53
                replace H := Option.bind_eq_some_iff.mp H
                obtain ⟨t666, A540, H⟩ := H
                replace H : ((q11.f kj7 l3 t633).bind fun t667 => (if (t666 == t667) = true then ((q1n.f kj7 t633 t638).bind fun t668 => (some t668)) else (some false))) = some r := H
                have A54 := Aside0.mk A540
                clear A540
                replace H := Option.bind_eq_some_iff.mp H
                obtain ⟨t667, A550, H⟩ := H
                replace H : (if (t666 == t667) = true then ((q1n.f kj7 t633 t638).bind fun t668 => (some t668)) else (some false)) = some r := H
                have A55 := Aside0.mk A550
                clear A550
                by_cases c56 : (t666 == t667) = true
                ·rw [if_pos c56] at H
                 have c56b0 : (t666 == t667) = true := c56
                 (try (have c56b1 : decide (t666 = t667) = true := by simpa using c56))
                 (try (have c56b2 : (t666 == t667) = true := by simpa using c56))
                 clear c56
                 replace H := Option.bind_eq_some_iff.mp H
                 obtain ⟨t668, A570, H⟩ := H
                 replace H : (some t668) = some r := H
                 have A57 := Aside0.mk A570
                 clear A570
                 obtain rfl := Option.some.inj H
                 try go_wp2_with (first | ((with_reducible refine ql (f := 10) rfl ?_); refine q1b (some 44) rfl rfl Tryz.func10 z107_0 rfl #[.slice A3 l3.length c3] rfl z107_3 ?_; (with_reducible refine (api_Prop_10.calls _ _ l3 t626 _ ?side1 ?side2 A24.out).mono ?_); (case side1 => repeat (first | exact (Kd.C_below HR3.out HB.out) | (with_reducible refine Kd.C_alloc ?_ _) | (with_reducible refine Kd.C_drewN ?_ _) | (with_reducible refine Kd.C_drew ?_))); (case side2 => exact HC3.out); rintro e w58 ⟨v627, rfl, ho0, hb⟩; refine ⟨_, rfl, ?_⟩; have n0_ := Aside0.mk (Kd.R_lower (Kd.R_newB ho0 (g := gb619) (o := .cells #[.int .i64 a2_0, .int .u32 a2_1, .string a2_2, .string a2_3] 24 (0, 0)) z107_1) (qm z107_4)); have n1_ := Aside0.mk (qo (g := gb619) (o := .cells #[.int .i64 a2_0, .int .u32 a2_1, .string a2_2, .string a2_3] 24 (0, 0)) z107_1 hb); have n2_ := Aside0.mk (qe z107_4 hb); clear BK619; clear HB; have HO628 := n0_; have BK619 := n1_; have HB := n2_; clear n0_ n1_ n2_; (try clear hb); (try clear hb2); (try clear hk); (try clear hi); (try clear ho0); obtain ⟨Ao59, co59, eo59⟩ := Kd.R_slice HO628.out; subst eo59) | ((with_reducible refine ql (f := 9) rfl ?_); refine q1b (some 45) rfl rfl Tryz.func9 z107_0 rfl #[.int .i64 a0, .slice Ao59 t626.length co59] rfl z107_3 ?_; (with_reducible refine (prop_Bytes.calls a0 _ _ t626 t629 t630 _ ?side1 ?side2 A25.out).mono ?_); (case side1 => repeat (first | exact (Kd.R_reads' HO628.out).2.2 | (with_reducible refine Kd.C_alloc ?_ _) | (with_reducible refine Kd.C_drewN ?_ _) | (with_reducible refine Kd.C_drew ?_))); (case side2 => exact (Kd.R_reads' HO628.out).2.1); rintro e w60 ⟨rfl, hb⟩; refine ⟨_, rfl, ?_⟩; have n0_ := Aside0.mk (Kd.R_below z107_5 hb); have n1_ := Aside0.mk (qo (g := gb619) (o := .cells #[.int .i64 a2_0, .int .u32 a2_1, .string a2_2, .string a2_3] 24 (0, 0)) z107_1 hb); have n2_ := Aside0.mk (qe z107_4 hb); clear HO628; clear BK619; clear HB; have HO628 := n0_; have BK619 := n1_; have HB := n2_; clear n0_ n1_ n2_; (try clear hb); (try clear hb2); (try clear hk); (try clear hi)) | ((with_reducible refine ql (f := 11) rfl ?_); refine q1b (some 51) rfl rfl Tryz.func11 z107_0 rfl #[.int .i64 a0, .slice A3 l3.length c3] rfl z107_3 ?_; (with_reducible refine (polyglotref05_Bytes.calls kj7 a0 _ _ l3 t631 t632 _ ?side1 ?side2 A26.out).mono ?_); (case side1 => repeat (first | exact (Kd.C_below HR3.out HB.out) | (with_reducible refine Kd.C_alloc ?_ _) | (with_reducible refine Kd.C_drewN ?_ _) | (with_reducible refine Kd.C_drew ?_))); (case side2 => exact HC3.out); rintro e w61 ⟨rfl, hb⟩; refine ⟨_, rfl, ?_⟩; have n0_ := Aside0.mk (Kd.R_below z107_5 hb); have n1_ := Aside0.mk (qo (g := gb619) (o := .cells #[.int .i64 a2_0, .int .u32 a2_1, .string a2_2, .string a2_3] 24 (0, 0)) z107_1 hb); have n2_ := Aside0.mk (qe z107_4 hb); clear HO628; clear BK619; clear HB; have HO628 := n0_; have BK619 := n1_; have HB := n2_; clear n0_ n1_ n2_; (try clear hb); (try clear hb2); (try clear hk); (try clear hi)) | ((with_reducible refine ql (f := 12) rfl ?_); refine q1b (some 57) rfl rfl Tryz.func12 z107_0 rfl #[.int .i64 a0, .string a4] rfl z107_3 ?_; (with_reducible refine (prop_Read.calls kj7 a0 a4 t633 t634 t635 _ A27.out).mono ?_); rintro e w62 ⟨v636, rfl, ho0, hb⟩; refine ⟨_, rfl, ?_⟩; have n0_ := Aside0.mk (Kd.R_elder' z107_5 (Kd.R_base ho0) hb); have n1_ := Aside0.mk (Kd.R_lower (Kd.R_newB (Kd.R_new' ho0 (Kd.R_lt z107_5)) (g := gb619) (o := .cells #[.int .i64 a2_0, .int .u32 a2_1, .string a2_2, .string a2_3] 24 (0, 0)) z107_1) (qm z107_4)); have n2_ := Aside0.mk (qo (g := gb619) (o := .cells #[.int .i64 a2_0, .int .u32 a2_1, .string a2_2, .string a2_3] 24 (0, 0)) z107_1 hb); have n3_ := Aside0.mk (qe z107_4 hb); clear HO628; clear BK619; clear HB; have HO628 := n0_; have HO637 := n1_; have BK619 := n2_; have HB := n3_; clear n0_ n1_ n2_ n3_; (try clear hb); (try clear hb2); (try clear hk); (try clear hi); (try clear ho0)) | ((with_reducible refine ql (f := 13) rfl ?_); refine q1b (some 64) rfl rfl Tryz.func13 z107_0 rfl #[.int .i64 a0, .string a4] rfl z107_3 ?_; (with_reducible refine (qj.calls kj7 a0 a4 t638 t639 t640 _ A28.out).mono ?_); rintro e w63 ⟨v641, rfl, ho0, hb⟩; refine ⟨_, rfl, ?_⟩; have n0_ := Aside0.mk (Kd.R_elder' z107_5 (Kd.R_base ho0) hb); have n1_ := Aside0.mk (Kd.R_elder' z107_6 (Kd.R_base ho0) hb); have n2_ := Aside0.mk (Kd.R_lower (Kd.R_newB (Kd.R_new' (Kd.R_new' ho0 (Kd.R_lt z107_5)) (Kd.R_lt z107_6)) (g := gb619) (o := .cells #[.int .i64 a2_0, .int .u32 a2_1, .string a2_2, .string a2_3] 24 (0, 0)) z107_1) (qm z107_4)); have n3_ := Aside0.mk (qo (g := gb619) (o := .cells #[.int .i64 a2_0, .int .u32 a2_1, .string a2_2, .string a2_3] 24 (0, 0)) z107_1 hb); have n4_ := Aside0.mk (qe z107_4 hb); clear HO628; clear HO637; clear BK619; clear HB; have HO628 := n0_; have HO637 := n1_; have HO642 := n2_; have BK619 := n3_; have HB := n4_; clear n0_ n1_ n2_ n3_ n4_; (try clear hb); (try clear hb2); (try clear hk); (try clear hi); (try clear ho0)) | ((with_reducible refine ql (f := 14) rfl ?_); refine q1b (some 71) rfl rfl Tryz.func14 z107_0 rfl #[.slice A3 l3.length c3, .int .i64 a1] rfl z107_3 ?_; (with_reducible refine (prop_Get.calls kj7 _ _ l3 a1 t643 t644 t645 t646 t647 _ ?side1 ?side2 A29.out).mono ?_); (case side1 => repeat (first | exact (Kd.C_below HR3.out HB.out) | (with_reducible refine Kd.C_alloc ?_ _) | (with_reducible refine Kd.C_drewN ?_ _) | (with_reducible refine Kd.C_drew ?_))); (case side2 => exact HC3.out); rintro e w64 ⟨rfl, hb⟩; refine ⟨_, rfl, ?_⟩; have n0_ := Aside0.mk (Kd.R_below z107_5 hb); have n1_ := Aside0.mk (Kd.R_below z107_6 hb); have n2_ := Aside0.mk (Kd.R_below z107_7 hb); have n3_ := Aside0.mk (qo (g := gb619) (o := .cells #[.int .i64 a2_0, .int .u32 a2_1, .string a2_2, .string a2_3] 24 (0, 0)) z107_1 hb); have n4_ := Aside0.mk (qe z107_4 hb); clear HO628; clear HO637; clear HO642; clear BK619; clear HB; have HO628 := n0_; have HO637 := n1_; have HO642 := n2_; have BK619 := n3_; have HB := n4_; clear n0_ n1_ n2_ n3_ n4_; (try clear hb); (try clear hb2); (try clear hk); (try clear hi)) | ((with_reducible refine q1c (N := 21) rfl ?_); (try (refine gate_guard (by rfl) ?_; dsimp only)); refine q1r ?hg (N := 21) ?hd (cs := #[.int .i64 0, .int .u32 0, .string (⟨#[]⟩ : ByteArray), .string (⟨#[]⟩ : ByteArray)]) (t := 24) ?hr ?_; (case hd => rfl); (case hg => rfl); (case hr => first | (go_simp; done) | (go_simp; rfl)); intro gb648 hg w65 hbox hb; have n0_ := Aside0.mk (Kd.R_below (Kd.R_elderB z107_5 gb648 (Nat.le_of_eq hg.symm)) hb); have n1_ := Aside0.mk (Kd.R_below (Kd.R_elderB z107_6 gb648 (Nat.le_of_eq hg.symm)) hb); have n2_ := Aside0.mk (Kd.R_below (Kd.R_elderB z107_7 gb648 (Nat.le_of_eq hg.symm)) hb); have n3_ := Aside0.mk (qo (g := gb619) (o := .cells #[.int .i64 a2_0, .int .u32 a2_1, .string a2_2, .string a2_3] 24 (0, 0)) z107_1 hb); have n4_ := Aside0.mk (qe z107_4 hb); have n5_ := Aside0.mk (hbox); have n6_ := Aside0.mk ((by rw [hg]; exact (qm z107_4) : w.heap.size ≤ gb648)); have n7_ := Aside0.mk ((by rw [hg]; exact (qm z107_4) : w.heap.size ≤ gb648)); have n8_ := Aside0.mk ((by rw [hg]; exact Nat.ne_of_lt (blk_lt (g := gb619) (o := .cells #[.int .i64 a2_0, .int .u32 a2_1, .string a2_2, .string a2_3] 24 (0, 0)) z107_1) : gb619 ≠ gb648)); have n9_ := Aside0.mk ((by rw [hg]; exact Nat.ne_of_gt (blk_lt (g := gb619) (o := .cells #[.int .i64 a2_0, .int .u32 a2_1, .string a2_2, .string a2_3] 24 (0, 0)) z107_1) : gb648 ≠ gb619)); clear HO628; clear HO637; clear HO642; clear BK619; clear HB; have HO628 := n0_; have HO637 := n1_; have HO642 := n2_; have BK619 := n3_; have HB := n4_; have BK648 := n5_; have GW648 := n6_; have GE648 := n7_; have NB619_648 := n8_; have NB648_619 := n9_; clear n0_ n1_ n2_ n3_ n4_ n5_ n6_ n7_ n8_ n9_; clear hb hbox hg; have hnb66 := NB648_619.out; have hnc66 := NB619_648.out; have hcz67_0 := zbc BK648 0 (.int .i64 0); have hcz67_1 := zbc BK648 1 (.int .u32 0); have hcz67_2 := zbc BK648 2 (.string (⟨#[]⟩ : ByteArray)); have hcz67_3 := zbc BK648 3 (.string (⟨#[]⟩ : ByteArray)); have hfz67_0 := q9 BK648.out 0; have hfz67_1 := q9 BK648.out 1; have hfz67_2 := q9 BK648.out 2; have hfz67_3 := q9 BK648.out 3) | ((with_reducible refine ql (f := 15) rfl ?_); refine q1b (some 77) rfl rfl Tryz.func15 z107_0 rfl #[.slice A3 l3.length c3, .int .i64 a1] rfl z107_3 ?_; (with_reducible refine (q13.calls kj7 _ _ l3 a1 t649 t650 t651 t652 t653 _ ?side1 ?side2 A30.out).mono ?_); (case side1 => exact Kd.C_below HR3.out z107_11); (case side2 => exact HC3.out); rintro e w68 ⟨rfl, hb⟩; refine ⟨_, rfl, ?_⟩; have n0_ := Aside0.mk (Kd.R_below (by (with_reducible repeat (first | apply Kd.R_alloc | apply Kd.R_drewN | apply Kd.R_drew)); exact (Kd.R_mono (Kd.R_far (p := ⟨gb648, 3, none⟩) (Kd.R_far (p := ⟨gb648, 2, none⟩) (Kd.R_far (p := ⟨gb648, 1, none⟩) (Kd.R_far (p := ⟨gb648, 0, none⟩) (Kd.R_mono HO628.out (fun k_ hk => (⟨hk, hk.2⟩ : _ ∧ k_ ≠ gb648))) (fun _ hk => hk.2) (.int .i64 t643)) (fun _ hk => hk.2) (.int .u32 t644)) (fun _ hk => hk.2) (.string t645)) (fun _ hk => hk.2) (.string t646)) (fun _ h_ => h_.1))) hb); have n1_ := Aside0.mk (Kd.R_below (by (with_reducible repeat (first | apply Kd.R_alloc | apply Kd.R_drewN | apply Kd.R_drew)); exact (Kd.R_mono (Kd.R_far (p := ⟨gb648, 3, none⟩) (Kd.R_far (p := ⟨gb648, 2, none⟩) (Kd.R_far (p := ⟨gb648, 1, none⟩) (Kd.R_far (p := ⟨gb648, 0, none⟩) (Kd.R_mono HO637.out (fun k_ hk => (⟨hk, hk.2⟩ : _ ∧ k_ ≠ gb648))) (fun _ hk => hk.2) (.int .i64 t643)) (fun _ hk => hk.2) (.int .u32 t644)) (fun _ hk => hk.2) (.string t645)) (fun _ hk => hk.2) (.string t646)) (fun _ h_ => h_.1))) hb); have n2_ := Aside0.mk (Kd.R_below (by (with_reducible repeat (first | apply Kd.R_alloc | apply Kd.R_drewN | apply Kd.R_drew)); exact (Kd.R_mono (Kd.R_far (p := ⟨gb648, 3, none⟩) (Kd.R_far (p := ⟨gb648, 2, none⟩) (Kd.R_far (p := ⟨gb648, 1, none⟩) (Kd.R_far (p := ⟨gb648, 0, none⟩) (Kd.R_mono HO642.out (fun k_ hk => (⟨hk, hk.2⟩ : _ ∧ k_ ≠ gb648))) (fun _ hk => hk.2) (.int .i64 t643)) (fun _ hk => hk.2) (.int .u32 t644)) (fun _ hk => hk.2) (.string t645)) (fun _ hk => hk.2) (.string t646)) (fun _ h_ => h_.1))) hb); have n3_ := Aside0.mk (qo (g := gb619) (o := .cells #[.int .i64 a2_0, .int .u32 a2_1, .string a2_2, .string a2_3] 24 (0, 0)) (by (with_reducible repeat (first | refine qd ?_ _ | refine qf ?_ | refine qc ?_ _)); refine blk_far ?_ NB619_648.out _; (with_reducible repeat (first | refine qd ?_ _ | refine qf ?_ | refine qc ?_ _)); refine blk_far ?_ NB619_648.out _; (with_reducible repeat (first | refine qd ?_ _ | refine qf ?_ | refine qc ?_ _)); refine blk_far ?_ NB619_648.out _; (with_reducible repeat (first | refine qd ?_ _ | refine qf ?_ | refine qc ?_ _)); refine blk_far ?_ NB619_648.out _; (with_reducible repeat (first | refine qd ?_ _ | refine qf ?_ | refine qc ?_ _)); exact BK619.out) hb); have n4_ := Aside0.mk (qo (g := gb648) (o := .cells #[.int .i64 t643, .int .u32 t644, .string t645, .string t646] 24 (0, 0)) (by (with_reducible repeat (first | refine qd ?_ _ | refine qf ?_ | refine qc ?_ _)); refine qx (cs := #[.int .i64 t643, .int .u32 t644, .string t645, .string (⟨#[]⟩ : ByteArray)]) ?_ 3 _ rfl; (with_reducible repeat (first | refine qd ?_ _ | refine qf ?_ | refine qc ?_ _)); refine qx (cs := #[.int .i64 t643, .int .u32 t644, .string (⟨#[]⟩ : ByteArray), .string (⟨#[]⟩ : ByteArray)]) ?_ 2 _ rfl; (with_reducible repeat (first | refine qd ?_ _ | refine qf ?_ | refine qc ?_ _)); refine qx (cs := #[.int .i64 t643, .int .u32 0, .string (⟨#[]⟩ : ByteArray), .string (⟨#[]⟩ : ByteArray)]) ?_ 1 _ rfl; (with_reducible repeat (first | refine qd ?_ _ | refine qf ?_ | refine qc ?_ _)); refine qx (cs := #[.int .i64 0, .int .u32 0, .string (⟨#[]⟩ : ByteArray), .string (⟨#[]⟩ : ByteArray)]) ?_ 0 _ rfl; (with_reducible repeat (first | refine qd ?_ _ | refine qf ?_ | refine qc ?_ _)); exact BK648.out) hb); have n5_ := Aside0.mk (qe z107_11 hb); clear HO628; clear HO637; clear HO642; clear BK619; clear BK648; clear HB; have HO628 := n0_; have HO637 := n1_; have HO642 := n2_; have BK619 := n3_; have BK648 := n4_; have HB := n5_; clear n0_ n1_ n2_ n3_ n4_ n5_; (try clear hb); (try clear hb2); (try clear hk); (try clear hi)) | ((with_reducible refine q1c (N := 23) rfl ?_); (try (refine gate_guard (by rfl) ?_; dsimp only)); refine q1r ?hg (N := 23) ?hd (cs := #[.int .i64 0, .int .u32 0, .string (⟨#[]⟩ : ByteArray), .string (⟨#[]⟩ : ByteArray)]) (t := 24) ?hr ?_; (case hd => rfl); (case hg => rfl); (case hr => first | (go_simp; done) | (go_simp; rfl)); intro gb654 hg w69 hbox hb; have n0_ := Aside0.mk (Kd.R_below (Kd.R_elderB z107_5 gb654 (Nat.le_of_eq hg.symm)) hb); have n1_ := Aside0.mk (Kd.R_below (Kd.R_elderB z107_6 gb654 (Nat.le_of_eq hg.symm)) hb); have n2_ := Aside0.mk (Kd.R_below (Kd.R_elderB z107_7 gb654 (Nat.le_of_eq hg.symm)) hb); have n3_ := Aside0.mk (qo (g := gb619) (o := .cells #[.int .i64 a2_0, .int .u32 a2_1, .string a2_2, .string a2_3] 24 (0, 0)) z107_1 hb); have n4_ := Aside0.mk (qo (g := gb648) (o := .cells #[.int .i64 t643, .int .u32 t644, .string t645, .string t646] 24 (0, 0)) z107_8 hb); have n5_ := Aside0.mk (qe z107_11 hb); have n6_ := Aside0.mk (hbox); have n7_ := Aside0.mk ((by rw [hg]; exact (qm z107_11) : w.heap.size ≤ gb654)); have n8_ := Aside0.mk ((by rw [hg]; exact (qm z107_11) : w.heap.size ≤ gb654)); have n9_ := Aside0.mk ((by rw [hg]; exact Nat.ne_of_lt (blk_lt (g := gb619) (o := .cells #[.int .i64 a2_0, .int .u32 a2_1, .string a2_2, .string a2_3] 24 (0, 0)) z107_1) : gb619 ≠ gb654)); have n10_ := Aside0.mk ((by rw [hg]; exact Nat.ne_of_gt (blk_lt (g := gb619) (o := .cells #[.int .i64 a2_0, .int .u32 a2_1, .string a2_2, .string a2_3] 24 (0, 0)) z107_1) : gb654 ≠ gb619)); have n11_ := Aside0.mk ((by rw [hg]; exact Nat.ne_of_lt (blk_lt (g := gb648) (o := .cells #[.int .i64 t643, .int .u32 t644, .string t645, .string t646] 24 (0, 0)) z107_8) : gb648 ≠ gb654)); have n12_ := Aside0.mk ((by rw [hg]; exact Nat.ne_of_gt (blk_lt (g := gb648) (o := .cells #[.int .i64 t643, .int .u32 t644, .string t645, .string t646] 24 (0, 0)) z107_8) : gb654 ≠ gb648)); clear HO628; clear HO637; clear HO642; clear BK619; clear BK648; clear HB; have HO628 := n0_; have HO637 := n1_; have HO642 := n2_; have BK619 := n3_; have BK648 := n4_; have HB := n5_; have BK654 := n6_; have GW654 := n7_; have GE654 := n8_; have NB619_654 := n9_; have NB654_619 := n10_; have NB648_654 := n11_; have NB654_648 := n12_; clear n0_ n1_ n2_ n3_ n4_ n5_ n6_ n7_ n8_ n9_ n10_ n11_ n12_; clear hb hbox hg; have hnb70 := NB654_619.out; have hnc70 := NB619_654.out; have hnb71 := NB654_648.out; have hnc71 := NB648_654.out; have hcz72_0 := zbc BK654 0 (.int .i64 0); have hcz72_1 := zbc BK654 1 (.int .u32 0); have hcz72_2 := zbc BK654 2 (.string (⟨#[]⟩ : ByteArray)); have hcz72_3 := zbc BK654 3 (.string (⟨#[]⟩ : ByteArray)); have hfz72_0 := q9 BK654.out 0; have hfz72_1 := q9 BK654.out 1; have hfz72_2 := q9 BK654.out 2; have hfz72_3 := q9 BK654.out 3))
                 have n0_ : Aside0 (Kd.R k24 24 ((((w69.setCell ⟨gb654, 0, none⟩ (.int .i64 t649)).setCell ⟨gb654, 1, none⟩ (.int .u32 t650)).setCell ⟨gb654, 2, none⟩ (.string t651)).setCell ⟨gb654, 3, none⟩ (.string t652)) w.heap.size (fun k_ => some k_ ≠ (v636 : Value).ownBlock ∧ some k_ ≠ (v641 : Value).ownBlock ∧ k_ ≠ gb619 ∧ k_ ≠ gb648 ∧ k_ ≠ gb654) (.slice Ao59 t626.length co59) t626) := ⟨by (with_reducible repeat (first | apply Kd.R_alloc | apply Kd.R_drewN | apply Kd.R_drew)); exact Kd.R_mono (Kd.R_far (p := ⟨gb654, 3, none⟩) (Kd.R_far (p := ⟨gb654, 2, none⟩) (Kd.R_far (p := ⟨gb654, 1, none⟩) (Kd.R_far (p := ⟨gb654, 0, none⟩) (Kd.R_mono HO628.out (fun k_ hk => (⟨hk, hk.2⟩ : _ ∧ k_ ≠ gb654))) (fun _ hk => hk.2) (.int .i64 t649)) (fun _ hk => hk.2) (.int .u32 t650)) (fun _ hk => hk.2) (.string t651)) (fun _ hk => hk.2) (.string t652)) (fun _ hk => ⟨hk.1.1.1.1.2, ⟨hk.1.1.1.2, ⟨hk.1.1.1.1.1.2, ⟨hk.1.1.2, hk.1.2⟩⟩⟩⟩)⟩
                 have n1_ : Aside0 (Kd.R k24 24 ((((w69.setCell ⟨gb654, 0, none⟩ (.int .i64 t649)).setCell ⟨gb654, 1, none⟩ (.int .u32 t650)).setCell ⟨gb654, 2, none⟩ (.string t651)).setCell ⟨gb654, 3, none⟩ (.string t652)) w.heap.size (fun k_ => some k_ ≠ (.slice Ao59 t626.length co59 : Value).ownBlock ∧ some k_ ≠ (v641 : Value).ownBlock ∧ k_ ≠ gb619 ∧ k_ ≠ gb648 ∧ k_ ≠ gb654) v636 t633) := ⟨by (with_reducible repeat (first | apply Kd.R_alloc | apply Kd.R_drewN | apply Kd.R_drew)); exact Kd.R_mono (Kd.R_far (p := ⟨gb654, 3, none⟩) (Kd.R_far (p := ⟨gb654, 2, none⟩) (Kd.R_far (p := ⟨gb654, 1, none⟩) (Kd.R_far (p := ⟨gb654, 0, none⟩) (Kd.R_mono HO637.out (fun k_ hk => (⟨hk, hk.2⟩ : _ ∧ k_ ≠ gb654))) (fun _ hk => hk.2) (.int .i64 t649)) (fun _ hk => hk.2) (.int .u32 t650)) (fun _ hk => hk.2) (.string t651)) (fun _ hk => hk.2) (.string t652)) (fun _ hk => ⟨hk.1.1.1.1.1.2, ⟨hk.1.1.1.2, ⟨hk.1.1.1.1.2, ⟨hk.1.1.2, hk.1.2⟩⟩⟩⟩)⟩
                 have n2_ : Aside0 (Kd.R k24 24 ((((w69.setCell ⟨gb654, 0, none⟩ (.int .i64 t649)).setCell ⟨gb654, 1, none⟩ (.int .u32 t650)).setCell ⟨gb654, 2, none⟩ (.string t651)).setCell ⟨gb654, 3, none⟩ (.string t652)) w.heap.size (fun k_ => some k_ ≠ (.slice Ao59 t626.length co59 : Value).ownBlock ∧ some k_ ≠ (v636 : Value).ownBlock ∧ k_ ≠ gb619 ∧ k_ ≠ gb648 ∧ k_ ≠ gb654) v641 t638) := ⟨by (with_reducible repeat (first | apply Kd.R_alloc | apply Kd.R_drewN | apply Kd.R_drew)); exact Kd.R_mono (Kd.R_far (p := ⟨gb654, 3, none⟩) (Kd.R_far (p := ⟨gb654, 2, none⟩) (Kd.R_far (p := ⟨gb654, 1, none⟩) (Kd.R_far (p := ⟨gb654, 0, none⟩) (Kd.R_mono HO642.out (fun k_ hk => (⟨hk, hk.2⟩ : _ ∧ k_ ≠ gb654))) (fun _ hk => hk.2) (.int .i64 t649)) (fun _ hk => hk.2) (.int .u32 t650)) (fun _ hk => hk.2) (.string t651)) (fun _ hk => hk.2) (.string t652)) (fun _ hk => ⟨hk.1.1.1.1.1.2, ⟨hk.1.1.1.1.2, ⟨hk.1.1.1.2, ⟨hk.1.1.2, hk.1.2⟩⟩⟩⟩)⟩
                 have n3_ : Aside0 (((((w69.setCell ⟨gb654, 0, none⟩ (.int .i64 t649)).setCell ⟨gb654, 1, none⟩ (.int .u32 t650)).setCell ⟨gb654, 2, none⟩ (.string t651)).setCell ⟨gb654, 3, none⟩ (.string t652)).heap[gb619]? = some (.cells #[.int .i64 a2_0, .int .u32 a2_1, .string a2_2, .string a2_3] 24 (0, 0))) := ⟨by (with_reducible repeat (first | refine qd ?_ _ | refine qf ?_ | refine qc ?_ _)); refine blk_far ?_ NB619_654.out _; (with_reducible repeat (first | refine qd ?_ _ | refine qf ?_ | refine qc ?_ _)); refine blk_far ?_ NB619_654.out _; (with_reducible repeat (first | refine qd ?_ _ | refine qf ?_ | refine qc ?_ _)); refine blk_far ?_ NB619_654.out _; (with_reducible repeat (first | refine qd ?_ _ | refine qf ?_ | refine qc ?_ _)); refine blk_far ?_ NB619_654.out _; (with_reducible repeat (first | refine qd ?_ _ | refine qf ?_ | refine qc ?_ _)); exact BK619.out⟩
                 have n4_ : Aside0 (((((w69.setCell ⟨gb654, 0, none⟩ (.int .i64 t649)).setCell ⟨gb654, 1, none⟩ (.int .u32 t650)).setCell ⟨gb654, 2, none⟩ (.string t651)).setCell ⟨gb654, 3, none⟩ (.string t652)).heap[gb648]? = some (.cells #[.int .i64 t643, .int .u32 t644, .string t645, .string t646] 24 (0, 0))) := ⟨by (with_reducible repeat (first | refine qd ?_ _ | refine qf ?_ | refine qc ?_ _)); refine blk_far ?_ NB648_654.out _; (with_reducible repeat (first | refine qd ?_ _ | refine qf ?_ | refine qc ?_ _)); refine blk_far ?_ NB648_654.out _; (with_reducible repeat (first | refine qd ?_ _ | refine qf ?_ | refine qc ?_ _)); refine blk_far ?_ NB648_654.out _; (with_reducible repeat (first | refine qd ?_ _ | refine qf ?_ | refine qc ?_ _)); refine blk_far ?_ NB648_654.out _; (with_reducible repeat (first | refine qd ?_ _ | refine qf ?_ | refine qc ?_ _)); exact BK648.out⟩
                 have n5_ : Aside0 (((((w69.setCell ⟨gb654, 0, none⟩ (.int .i64 t649)).setCell ⟨gb654, 1, none⟩ (.int .u32 t650)).setCell ⟨gb654, 2, none⟩ (.string t651)).setCell ⟨gb654, 3, none⟩ (.string t652)).heap[gb654]? = some (.cells #[.int .i64 t649, .int .u32 t650, .string t651, .string t652] 24 (0, 0))) := ⟨by (with_reducible repeat (first | refine qd ?_ _ | refine qf ?_ | refine qc ?_ _)); refine qx (cs := #[.int .i64 t649, .int .u32 t650, .string t651, .string (⟨#[]⟩ : ByteArray)]) ?_ 3 _ rfl; (with_reducible repeat (first | refine qd ?_ _ | refine qf ?_ | refine qc ?_ _)); refine qx (cs := #[.int .i64 t649, .int .u32 t650, .string (⟨#[]⟩ : ByteArray), .string (⟨#[]⟩ : ByteArray)]) ?_ 2 _ rfl; (with_reducible repeat (first | refine qd ?_ _ | refine qf ?_ | refine qc ?_ _)); refine qx (cs := #[.int .i64 t649, .int .u32 0, .string (⟨#[]⟩ : ByteArray), .string (⟨#[]⟩ : ByteArray)]) ?_ 1 _ rfl; (with_reducible repeat (first | refine qd ?_ _ | refine qf ?_ | refine qc ?_ _)); refine qx (cs := #[.int .i64 0, .int .u32 0, .string (⟨#[]⟩ : ByteArray), .string (⟨#[]⟩ : ByteArray)]) ?_ 0 _ rfl; (with_reducible repeat (first | refine qd ?_ _ | refine qf ?_ | refine qc ?_ _)); exact BK654.out⟩
                 have n6_ : Aside0 (Below w.heap.size w ((((w69.setCell ⟨gb654, 0, none⟩ (.int .i64 t649)).setCell ⟨gb654, 1, none⟩ (.int .u32 t650)).setCell ⟨gb654, 2, none⟩ (.string t651)).setCell ⟨gb654, 3, none⟩ (.string t652))) := ⟨by repeat (first | (with_reducible first | exact HB.out | apply qg | apply qa | apply qi | refine qw ?_ GE619.out | refine qw ?_ GE648.out | refine qw ?_ GE654.out) | exact HB.out)⟩
                 clear HO628
                 clear HO637
                 clear HO642
                 clear BK619
                 clear BK648
                 clear BK654
                 clear HB
                 generalize ((((w69.setCell ⟨gb654, 0, none⟩ (.int .i64 t649)).setCell ⟨gb654, 1, none⟩ (.int .u32 t650)).setCell ⟨gb654, 2, none⟩ (.string t651)).setCell ⟨gb654, 3, none⟩ (.string t652)) = w73 at n0_ n1_ n2_ n3_ n4_ n5_ n6_ ⊢
                 have HO628 := n0_
                 have HO637 := n1_
                 have HO642 := n2_
                 have BK619 := n3_
                 have BK648 := n4_
                 have BK654 := n5_
                 have HB := n6_
                 clear n0_ n1_ n2_ n3_ n4_ n5_ n6_
                 have n0_ := Aside0.mk (Kd.R_drew HO628.out)
                 have n1_ := Aside0.mk (Kd.R_drew HO637.out)
                 have n2_ := Aside0.mk (Kd.R_drew HO642.out)
                 have n3_ := Aside0.mk (qf BK619.out)
                 have n4_ := Aside0.mk (qf BK648.out)
                 have n5_ := Aside0.mk (qf BK654.out)
                 have n6_ := Aside0.mk (qi HB.out)
                 clear HO628
                 clear HO637
                 clear HO642
                 clear BK619
                 clear BK648
                 clear BK654
                 clear HB
                 have HO628 := n0_
                 have HO637 := n1_
                 have HO642 := n2_
                 have BK619 := n3_
                 have BK648 := n4_
                 have BK654 := n5_
                 have HB := n6_
                 clear n0_ n1_ n2_ n3_ n4_ n5_ n6_
                 refine start_ (n := 91) (S := fun w' => w'.cell? ⟨gb619, 0, none⟩ = some (.int .i64 a2_0) ∧ w'.cell? ⟨gb619, 1, none⟩ = some (.int .u32 a2_1) ∧ w'.cell? ⟨gb619, 2, none⟩ = some (.string a2_2) ∧ w'.cell? ⟨gb619, 3, none⟩ = some (.string a2_3) ∧ w'.cell? ⟨gb648, 0, none⟩ = some (.int .i64 t643) ∧ w'.cell? ⟨gb648, 1, none⟩ = some (.int .u32 t644) ∧ w'.cell? ⟨gb648, 2, none⟩ = some (.string t645) ∧ w'.cell? ⟨gb648, 3, none⟩ = some (.string t646) ∧ w'.cell? ⟨gb654, 0, none⟩ = some (.int .i64 t649) ∧ w'.cell? ⟨gb654, 1, none⟩ = some (.int .u32 t650) ∧ w'.cell? ⟨gb654, 2, none⟩ = some (.string t651) ∧ w'.cell? ⟨gb654, 3, none⟩ = some (.string t652)) (ds := []) #[fF107,fF107,fF107,fF107,fF107,fF107,fF107,fF107,fF107,fF107,fF107,fF107,fF107,fF107,fF107,fF107,fF107,fF107,fF107,fF107,fF107,fF107,fF107,fF107,fF107,fF107,fF107,fF107,fF107,fF107,fF107,fF107,fF107,fF107,fF107,fF107,fF107,fF107,fF107,fF107,fF107,fF107,fF107,fF107,fF107,fF107,fF107,fF107,fF107,fF107,fF107,fF107,fF107,fF107,fF107,fF107,fF107,fF107,fF107,fF107,fF107,fF107,fF107,fF107,fF107,fF107,fF107,fF107,fF107,fF107,fF107,fF107,fF107,fF107,fF107,fF107,fF107,fF107,fF107,fF107,fF107,fF107,fF107,fF107,fF107,fF107,fF107,fF107,fF107,fF107,fF107] z107_0 rfl rfl ⟨(qk BK619.out 0).trans rfl, (qk BK619.out 1).trans rfl, (qk BK619.out 2).trans rfl, (qk BK619.out 3).trans rfl, (qk BK648.out 0).trans rfl, (qk BK648.out 1).trans rfl, (qk BK648.out 2).trans rfl, (qk BK648.out 3).trans rfl, (qk BK654.out 0).trans rfl, (qk BK654.out 1).trans rfl, (qk BK654.out 2).trans rfl, (qk BK654.out 3).trans rfl⟩ (fun hHeld => ?_); refine with_tabW qv.tab11 qv.bits11 (fun HT_ HW_ => ?_)
                 generalize w73.drew = w74 at HO628 HO637 HO642 BK619 BK648 BK654 HB hHeld ⊢
                 refine pure_ (i := 0) (N := some 80) (v := ?_) (a' := ?_) #[tT107,fF107,fF107,fF107,fF107,fF107,fF107,fF107,fF107,fF107,fF107,fF107,fF107,fF107,fF107,fF107,fF107,fF107,fF107,fF107,fF107,fF107,fF107,fF107,fF107,fF107,fF107,fF107,fF107,fF107,fF107,fF107,fF107,fF107,fF107,fF107,fF107,fF107,fF107,fF107,fF107,fF107,fF107,fF107,fF107,fF107,fF107,fF107,fF107,fF107,fF107,fF107,fF107,fF107,fF107,fF107,fF107,fF107,fF107,fF107,fF107,fF107,fF107,fF107,fF107,fF107,fF107,fF107,fF107,fF107,fF107,fF107,fF107,fF107,fF107,fF107,fF107,fF107,fF107,fF107,fF107,fF107,fF107,fF107,fF107,fF107,fF107,fF107,fF107,fF107,fF107] rfl rfl (q1q HT_.out z107_0) (fun _ _ _ h => h) (Or.inl ⟨by rfl, ?_⟩) ?_ ?_
                 rotate_left
                 ·intro w'
                  go_simp
                  with_reducible rfl
                 rotate_left
                 ·simp only [Act.put, List.setIfInBounds_toArray, List.set_cons_zero, List.set_cons_succ, i64_w, i32_w]
                  rfl
                 refine pure_ (i := 2) (N := some 82) (v := ?_) (a' := ?_) #[tT107,fF107,tT107,fF107,fF107,fF107,fF107,fF107,fF107,fF107,fF107,fF107,fF107,fF107,fF107,fF107,fF107,fF107,fF107,fF107,fF107,fF107,fF107,fF107,fF107,fF107,fF107,fF107,fF107,fF107,fF107,fF107,fF107,fF107,fF107,fF107,fF107,fF107,fF107,fF107,fF107,fF107,fF107,fF107,fF107,fF107,fF107,fF107,fF107,fF107,fF107,fF107,fF107,fF107,fF107,fF107,fF107,fF107,fF107,fF107,fF107,fF107,fF107,fF107,fF107,fF107,fF107,fF107,fF107,fF107,fF107,fF107,fF107,fF107,fF107,fF107,fF107,fF107,fF107,fF107,fF107,fF107,fF107,fF107,fF107,fF107,fF107,fF107,fF107,fF107,fF107] rfl rfl (q1q HT_.out z107_0) (fun _ _ _ h => h) (Or.inl ⟨by rfl, ?_⟩) ?_ ?_
                 rotate_left
                 ·intro w'
                  go_simp
                  with_reducible rfl
                 rotate_left
                 ·simp only [Act.put, List.setIfInBounds_toArray, List.set_cons_zero, List.set_cons_succ, i64_w, i32_w]
                  rfl
                 refine one_ (i := 1) (N := some 81) #[tT107,tT107,tT107,fF107,fF107,fF107,fF107,fF107,fF107,fF107,fF107,fF107,fF107,fF107,fF107,fF107,fF107,fF107,fF107,fF107,fF107,fF107,fF107,fF107,fF107,fF107,fF107,fF107,fF107,fF107,fF107,fF107,fF107,fF107,fF107,fF107,fF107,fF107,fF107,fF107,fF107,fF107,fF107,fF107,fF107,fF107,fF107,fF107,fF107,fF107,fF107,fF107,fF107,fF107,fF107,fF107,fF107,fF107,fF107,fF107,fF107,fF107,fF107,fF107,fF107,fF107,fF107,fF107,fF107,fF107,fF107,fF107,fF107,fF107,fF107,fF107,fF107,fF107,fF107,fF107,fF107,fF107,fF107,fF107,fF107,fF107,fF107,fF107,fF107,fF107,fF107] rfl rfl (one_of HT_.out z107_0) z107_2 (fun K hK => ?_)
                 refine goes_ Tryz.func16 z107_0 rfl #[.int .i64 a1] (by rfl) rfl rfl z107_3 ?_
                 with_reducible refine (prop_Shape.calls a1 t655 _ A31.out).mono ?_
                 rintro e w75 ⟨rfl, hb⟩
                 refine ⟨_, rfl, ?_⟩
                 have n0_ := Aside0.mk (Kd.R_below z107_5 hb)
                 have n1_ := Aside0.mk (Kd.R_below z107_6 hb)
                 have n2_ := Aside0.mk (Kd.R_below z107_7 hb)
                 have n3_ := Aside0.mk (qo (g := gb619) (o := .cells #[.int .i64 a2_0, .int .u32 a2_1, .string a2_2, .string a2_3] 24 (0, 0)) z107_1 hb)
                 have n4_ := Aside0.mk (qo (g := gb648) (o := .cells #[.int .i64 t643, .int .u32 t644, .string t645, .string t646] 24 (0, 0)) z107_8 hb)
                 have n5_ := Aside0.mk (qo (g := gb654) (o := .cells #[.int .i64 t649, .int .u32 t650, .string t651, .string t652] 24 (0, 0)) z107_10 hb)
                 have n6_ := Aside0.mk (qe z107_9 hb)
                 clear HO628
                 clear HO637
                 clear HO642
                 clear BK619
                 clear BK648
                 clear BK654
                 clear HB
                 have HO628 := n0_
                 have HO637 := n1_
                 have HO642 := n2_
                 have BK619 := n3_
                 have BK648 := n4_
                 have BK654 := n5_
                 have HB := n6_
                 clear n0_ n1_ n2_ n3_ n4_ n5_ n6_
                 clear hb
                 refine hK.out _ _ ⟨(qk BK619.out 0).trans rfl, (qk BK619.out 1).trans rfl, (qk BK619.out 2).trans rfl, (qk BK619.out 3).trans rfl, (qk BK648.out 0).trans rfl, (qk BK648.out 1).trans rfl, (qk BK648.out 2).trans rfl, (qk BK648.out 3).trans rfl, (qk BK654.out 0).trans rfl, (qk BK654.out 1).trans rfl, (qk BK654.out 2).trans rfl, (qk BK654.out 3).trans rfl⟩ (fun hHeld => ?_)
                 clear hK K
                 refine norm_ (a' := ?_) ?_ ?_
                 rotate_left
                 ·show Act.put _ (some 81) _ = _
                  simp only [Act.put, List.setIfInBounds_toArray, List.set_cons_zero, List.set_cons_succ, i64_w, i32_w]
                  rfl
                 refine one_ (i := 3) (N := some 83) #[tT107,tT107,tT107,tT107,fF107,fF107,fF107,fF107,fF107,fF107,fF107,fF107,fF107,fF107,fF107,fF107,fF107,fF107,fF107,fF107,fF107,fF107,fF107,fF107,fF107,fF107,fF107,fF107,fF107,fF107,fF107,fF107,fF107,fF107,fF107,fF107,fF107,fF107,fF107,fF107,fF107,fF107,fF107,fF107,fF107,fF107,fF107,fF107,fF107,fF107,fF107,fF107,fF107,fF107,fF107,fF107,fF107,fF107,fF107,fF107,fF107,fF107,fF107,fF107,fF107,fF107,fF107,fF107,fF107,fF107,fF107,fF107,fF107,fF107,fF107,fF107,fF107,fF107,fF107,fF107,fF107,fF107,fF107,fF107,fF107,fF107,fF107,fF107,fF107,fF107,fF107] rfl rfl (one_of HT_.out z107_0) z107_2 (fun K hK => ?_)
                 refine goes_ Tryz.func17 z107_0 rfl #[.int .i64 a1] (by rfl) rfl rfl z107_3 ?_
                 with_reducible refine (polyglotref05_Shape.calls kj7 a1 t656 _ A32.out).mono ?_
                 rintro e w76 ⟨rfl, hb⟩
                 refine ⟨_, rfl, ?_⟩
                 have n0_ := Aside0.mk (Kd.R_below z107_5 hb)
                 have n1_ := Aside0.mk (Kd.R_below z107_6 hb)
                 have n2_ := Aside0.mk (Kd.R_below z107_7 hb)
                 have n3_ := Aside0.mk (qo (g := gb619) (o := .cells #[.int .i64 a2_0, .int .u32 a2_1, .string a2_2, .string a2_3] 24 (0, 0)) z107_1 hb)
                 have n4_ := Aside0.mk (qo (g := gb648) (o := .cells #[.int .i64 t643, .int .u32 t644, .string t645, .string t646] 24 (0, 0)) z107_8 hb)
                 have n5_ := Aside0.mk (qo (g := gb654) (o := .cells #[.int .i64 t649, .int .u32 t650, .string t651, .string t652] 24 (0, 0)) z107_10 hb)
                 have n6_ := Aside0.mk (qe z107_9 hb)
                 clear HO628
                 clear HO637
                 clear HO642
                 clear BK619
                 clear BK648
                 clear BK654
                 clear HB
                 have HO628 := n0_
                 have HO637 := n1_
                 have HO642 := n2_
                 have BK619 := n3_
                 have BK648 := n4_
                 have BK654 := n5_
                 have HB := n6_
                 clear n0_ n1_ n2_ n3_ n4_ n5_ n6_
                 clear hb
                 refine hK.out _ _ ⟨(qk BK619.out 0).trans rfl, (qk BK619.out 1).trans rfl, (qk BK619.out 2).trans rfl, (qk BK619.out 3).trans rfl, (qk BK648.out 0).trans rfl, (qk BK648.out 1).trans rfl, (qk BK648.out 2).trans rfl, (qk BK648.out 3).trans rfl, (qk BK654.out 0).trans rfl, (qk BK654.out 1).trans rfl, (qk BK654.out 2).trans rfl, (qk BK654.out 3).trans rfl⟩ (fun hHeld => ?_)
                 clear hK K
                 refine norm_ (a' := ?_) ?_ ?_
                 rotate_left
                 ·show Act.put _ (some 83) _ = _
                  simp only [Act.put, List.setIfInBounds_toArray, List.set_cons_zero, List.set_cons_succ, i64_w, i32_w]
                  rfl
                 refine pure_ (i := 4) (N := some 84) (v := ?_) (a' := ?_) #[tT107,tT107,tT107,tT107,tT107,fF107,fF107,fF107,fF107,fF107,fF107,fF107,fF107,fF107,fF107,fF107,fF107,fF107,fF107,fF107,fF107,fF107,fF107,fF107,fF107,fF107,fF107,fF107,fF107,fF107,fF107,fF107,fF107,fF107,fF107,fF107,fF107,fF107,fF107,fF107,fF107,fF107,fF107,fF107,fF107,fF107,fF107,fF107,fF107,fF107,fF107,fF107,fF107,fF107,fF107,fF107,fF107,fF107,fF107,fF107,fF107,fF107,fF107,fF107,fF107,fF107,fF107,fF107,fF107,fF107,fF107,fF107,fF107,fF107,fF107,fF107,fF107,fF107,fF107,fF107,fF107,fF107,fF107,fF107,fF107,fF107,fF107,fF107,fF107,fF107,fF107] rfl rfl (q1q HT_.out z107_0) (fun _ _ _ h => h) (Or.inl ⟨by rfl, ?_⟩) ?_ ?_
                 rotate_left
                 ·intro w'
                  go_simp
                  with_reducible rfl
                 rotate_left
                 ·simp only [Act.put, List.setIfInBounds_toArray, List.set_cons_zero, List.set_cons_succ, i64_w, i32_w]
                  rfl
                 refine pure_ (i := 5) (N := some 85) (v := ?_) (a' := ?_) #[tT107,tT107,tT107,tT107,tT107,tT107,fF107,fF107,fF107,fF107,fF107,fF107,fF107,fF107,fF107,fF107,fF107,fF107,fF107,fF107,fF107,fF107,fF107,fF107,fF107,fF107,fF107,fF107,fF107,fF107,fF107,fF107,fF107,fF107,fF107,fF107,fF107,fF107,fF107,fF107,fF107,fF107,fF107,fF107,fF107,fF107,fF107,fF107,fF107,fF107,fF107,fF107,fF107,fF107,fF107,fF107,fF107,fF107,fF107,fF107,fF107,fF107,fF107,fF107,fF107,fF107,fF107,fF107,fF107,fF107,fF107,fF107,fF107,fF107,fF107,fF107,fF107,fF107,fF107,fF107,fF107,fF107,fF107,fF107,fF107,fF107,fF107,fF107,fF107,fF107,fF107] rfl rfl (q1q HT_.out z107_0) (fun _ _ _ h => h) (Or.inl ⟨by rfl, ?_⟩) ?_ ?_
                 rotate_left
                 ·intro w'
                  go_simp
                  with_reducible rfl
                 rotate_left
                 ·simp only [Act.put, List.setIfInBounds_toArray, List.set_cons_zero, List.set_cons_succ, i64_w, i32_w]
                  rfl
                 refine pure_ (i := 6) (N := some 86) (v := ?_) (a' := ?_) #[tT107,tT107,tT107,tT107,tT107,tT107,tT107,fF107,fF107,fF107,fF107,fF107,fF107,fF107,fF107,fF107,fF107,fF107,fF107,fF107,fF107,fF107,fF107,fF107,fF107,fF107,fF107,fF107,fF107,fF107,fF107,fF107,fF107,fF107,fF107,fF107,fF107,fF107,fF107,fF107,fF107,fF107,fF107,fF107,fF107,fF107,fF107,fF107,fF107,fF107,fF107,fF107,fF107,fF107,fF107,fF107,fF107,fF107,fF107,fF107,fF107,fF107,fF107,fF107,fF107,fF107,fF107,fF107,fF107,fF107,fF107,fF107,fF107,fF107,fF107,fF107,fF107,fF107,fF107,fF107,fF107,fF107,fF107,fF107,fF107,fF107,fF107,fF107,fF107,fF107,fF107] rfl rfl (q1q HT_.out z107_0) (fun _ _ _ h => h) (Or.inl ⟨by rfl, ?_⟩) ?_ ?_
                 rotate_left
                 ·intro w'
                  go_simp
                  with_reducible rfl
                 rotate_left
                 ·simp only [Act.put, List.setIfInBounds_toArray, List.set_cons_zero, List.set_cons_succ, i64_w, i32_w]
                  rfl
                 refine pure_ (i := 7) (N := some 87) (v := ?_) (a' := ?_) #[tT107,tT107,tT107,tT107,tT107,tT107,tT107,tT107,fF107,fF107,fF107,fF107,fF107,fF107,fF107,fF107,fF107,fF107,fF107,fF107,fF107,fF107,fF107,fF107,fF107,fF107,fF107,fF107,fF107,fF107,fF107,fF107,fF107,fF107,fF107,fF107,fF107,fF107,fF107,fF107,fF107,fF107,fF107,fF107,fF107,fF107,fF107,fF107,fF107,fF107,fF107,fF107,fF107,fF107,fF107,fF107,fF107,fF107,fF107,fF107,fF107,fF107,fF107,fF107,fF107,fF107,fF107,fF107,fF107,fF107,fF107,fF107,fF107,fF107,fF107,fF107,fF107,fF107,fF107,fF107,fF107,fF107,fF107,fF107,fF107,fF107,fF107,fF107,fF107,fF107,fF107] rfl rfl (q1q HT_.out z107_0) (fun _ _ _ h => h) (Or.inl ⟨by rfl, ?_⟩) ?_ ?_
                 rotate_left
                 ·intro w'
                  go_simp
                  with_reducible rfl
                 rotate_left
                 ·simp only [Act.put, List.setIfInBounds_toArray, List.set_cons_zero, List.set_cons_succ, i64_w, i32_w]
                  rfl
                 refine pure_ (i := 9) (N := some 89) (v := ?_) (a' := ?_) #[tT107,tT107,tT107,tT107,tT107,tT107,tT107,tT107,fF107,tT107,fF107,fF107,fF107,fF107,fF107,fF107,fF107,fF107,fF107,fF107,fF107,fF107,fF107,fF107,fF107,fF107,fF107,fF107,fF107,fF107,fF107,fF107,fF107,fF107,fF107,fF107,fF107,fF107,fF107,fF107,fF107,fF107,fF107,fF107,fF107,fF107,fF107,fF107,fF107,fF107,fF107,fF107,fF107,fF107,fF107,fF107,fF107,fF107,fF107,fF107,fF107,fF107,fF107,fF107,fF107,fF107,fF107,fF107,fF107,fF107,fF107,fF107,fF107,fF107,fF107,fF107,fF107,fF107,fF107,fF107,fF107,fF107,fF107,fF107,fF107,fF107,fF107,fF107,fF107,fF107,fF107] rfl rfl (q1q HT_.out z107_0) (fun _ _ _ h => h) (Or.inl ⟨by rfl, ?_⟩) ?_ ?_
                 rotate_left
                 ·intro w'
                  go_simp
                  with_reducible rfl
                 rotate_left
                 ·simp only [Act.put, List.setIfInBounds_toArray, List.set_cons_zero, List.set_cons_succ, i64_w, i32_w]
                  rfl
                 refine pure_ (i := 10) (N := some 90) (v := ?_) (a' := ?_) #[tT107,tT107,tT107,tT107,tT107,tT107,tT107,tT107,fF107,tT107,tT107,fF107,fF107,fF107,fF107,fF107,fF107,fF107,fF107,fF107,fF107,fF107,fF107,fF107,fF107,fF107,fF107,fF107,fF107,fF107,fF107,fF107,fF107,fF107,fF107,fF107,fF107,fF107,fF107,fF107,fF107,fF107,fF107,fF107,fF107,fF107,fF107,fF107,fF107,fF107,fF107,fF107,fF107,fF107,fF107,fF107,fF107,fF107,fF107,fF107,fF107,fF107,fF107,fF107,fF107,fF107,fF107,fF107,fF107,fF107,fF107,fF107,fF107,fF107,fF107,fF107,fF107,fF107,fF107,fF107,fF107,fF107,fF107,fF107,fF107,fF107,fF107,fF107,fF107,fF107,fF107] rfl rfl (q1q HT_.out z107_0) (fun _ _ _ h => h) (Or.inl ⟨by rfl, ?_⟩) ?_ ?_
                 rotate_left
                 ·intro w'
                  go_simp
                  with_reducible rfl
                 rotate_left
                 ·simp only [Act.put, List.setIfInBounds_toArray, List.set_cons_zero, List.set_cons_succ, i64_w, i32_w]
                  rfl
                 refine one_ (i := 8) (N := some 88) #[tT107,tT107,tT107,tT107,tT107,tT107,tT107,tT107,tT107,tT107,tT107,fF107,fF107,fF107,fF107,fF107,fF107,fF107,fF107,fF107,fF107,fF107,fF107,fF107,fF107,fF107,fF107,fF107,fF107,fF107,fF107,fF107,fF107,fF107,fF107,fF107,fF107,fF107,fF107,fF107,fF107,fF107,fF107,fF107,fF107,fF107,fF107,fF107,fF107,fF107,fF107,fF107,fF107,fF107,fF107,fF107,fF107,fF107,fF107,fF107,fF107,fF107,fF107,fF107,fF107,fF107,fF107,fF107,fF107,fF107,fF107,fF107,fF107,fF107,fF107,fF107,fF107,fF107,fF107,fF107,fF107,fF107,fF107,fF107,fF107,fF107,fF107,fF107,fF107,fF107,fF107] rfl rfl (one_of HT_.out z107_0) z107_2 (fun K hK => ?_)
                 refine goes_ Tryz.func18 z107_0 rfl #[.int .i64 a0, .int .i64 a1] (by rfl) rfl rfl z107_3 ?_
                 with_reducible refine (prop_May.calls a0 a1 t657 _ A34.out).mono ?_
                 rintro e w77 ⟨rfl, hb⟩
                 refine ⟨_, rfl, ?_⟩
                 have n0_ := Aside0.mk (Kd.R_below z107_5 hb)
                 have n1_ := Aside0.mk (Kd.R_below z107_6 hb)
                 have n2_ := Aside0.mk (Kd.R_below z107_7 hb)
                 have n3_ := Aside0.mk (qo (g := gb619) (o := .cells #[.int .i64 a2_0, .int .u32 a2_1, .string a2_2, .string a2_3] 24 (0, 0)) z107_1 hb)
                 have n4_ := Aside0.mk (qo (g := gb648) (o := .cells #[.int .i64 t643, .int .u32 t644, .string t645, .string t646] 24 (0, 0)) z107_8 hb)
                 have n5_ := Aside0.mk (qo (g := gb654) (o := .cells #[.int .i64 t649, .int .u32 t650, .string t651, .string t652] 24 (0, 0)) z107_10 hb)
                 have n6_ := Aside0.mk (qe z107_9 hb)
                 clear HO628
                 clear HO637
                 clear HO642
                 clear BK619
                 clear BK648
                 clear BK654
                 clear HB
                 have HO628 := n0_
                 have HO637 := n1_
                 have HO642 := n2_
                 have BK619 := n3_
                 have BK648 := n4_
                 have BK654 := n5_
                 have HB := n6_
                 clear n0_ n1_ n2_ n3_ n4_ n5_ n6_
                 clear hb
                 refine hK.out _ _ ⟨(qk BK619.out 0).trans rfl, (qk BK619.out 1).trans rfl, (qk BK619.out 2).trans rfl, (qk BK619.out 3).trans rfl, (qk BK648.out 0).trans rfl, (qk BK648.out 1).trans rfl, (qk BK648.out 2).trans rfl, (qk BK648.out 3).trans rfl, (qk BK654.out 0).trans rfl, (qk BK654.out 1).trans rfl, (qk BK654.out 2).trans rfl, (qk BK654.out 3).trans rfl⟩ (fun hHeld => ?_)
                 clear hK K
                 refine norm_ (a' := ?_) ?_ ?_
                 rotate_left
                 ·show Act.put _ (some 88) _ = _
                  simp only [Act.put, List.setIfInBounds_toArray, List.set_cons_zero, List.set_cons_succ, i64_w, i32_w]
                  rfl
                 refine one_ (i := 11) (N := some 91) #[tT107,tT107,tT107,tT107,tT107,tT107,tT107,tT107,tT107,tT107,tT107,tT107,fF107,fF107,fF107,fF107,fF107,fF107,fF107,fF107,fF107,fF107,fF107,fF107,fF107,fF107,fF107,fF107,fF107,fF107,fF107,fF107,fF107,fF107,fF107,fF107,fF107,fF107,fF107,fF107,fF107,fF107,fF107,fF107,fF107,fF107,fF107,fF107,fF107,fF107,fF107,fF107,fF107,fF107,fF107,fF107,fF107,fF107,fF107,fF107,fF107,fF107,fF107,fF107,fF107,fF107,fF107,fF107,fF107,fF107,fF107,fF107,fF107,fF107,fF107,fF107,fF107,fF107,fF107,fF107,fF107,fF107,fF107,fF107,fF107,fF107,fF107,fF107,fF107,fF107,fF107] rfl rfl (one_of HT_.out z107_0) z107_2 (fun K hK => ?_)
                 refine goes_ Tryz.func19 z107_0 rfl #[.int .i64 a0, .int .i64 a1] (by rfl) rfl rfl z107_3 ?_
                 with_reducible refine (qy.calls kj7 a0 a1 t658 _ A35.out).mono ?_
                 rintro e w78 ⟨rfl, hb⟩
                 refine ⟨_, rfl, ?_⟩
                 have n0_ := Aside0.mk (Kd.R_below z107_5 hb)
                 have n1_ := Aside0.mk (Kd.R_below z107_6 hb)
                 have n2_ := Aside0.mk (Kd.R_below z107_7 hb)
                 have n3_ := Aside0.mk (qo (g := gb619) (o := .cells #[.int .i64 a2_0, .int .u32 a2_1, .string a2_2, .string a2_3] 24 (0, 0)) z107_1 hb)
                 have n4_ := Aside0.mk (qo (g := gb648) (o := .cells #[.int .i64 t643, .int .u32 t644, .string t645, .string t646] 24 (0, 0)) z107_8 hb)
                 have n5_ := Aside0.mk (qo (g := gb654) (o := .cells #[.int .i64 t649, .int .u32 t650, .string t651, .string t652] 24 (0, 0)) z107_10 hb)
                 have n6_ := Aside0.mk (qe z107_9 hb)
                 clear HO628
                 clear HO637
                 clear HO642
                 clear BK619
                 clear BK648
                 clear BK654
                 clear HB
                 have HO628 := n0_
                 have HO637 := n1_
                 have HO642 := n2_
                 have BK619 := n3_
                 have BK648 := n4_
                 have BK654 := n5_
                 have HB := n6_
                 clear n0_ n1_ n2_ n3_ n4_ n5_ n6_
                 clear hb
                 refine hK.out _ _ ⟨(qk BK619.out 0).trans rfl, (qk BK619.out 1).trans rfl, (qk BK619.out 2).trans rfl, (qk BK619.out 3).trans rfl, (qk BK648.out 0).trans rfl, (qk BK648.out 1).trans rfl, (qk BK648.out 2).trans rfl, (qk BK648.out 3).trans rfl, (qk BK654.out 0).trans rfl, (qk BK654.out 1).trans rfl, (qk BK654.out 2).trans rfl, (qk BK654.out 3).trans rfl⟩ (fun hHeld => ?_)
                 clear hK K
                 refine norm_ (a' := ?_) ?_ ?_
                 rotate_left
                 ·show Act.put _ (some 91) _ = _
                  simp only [Act.put, List.setIfInBounds_toArray, List.set_cons_zero, List.set_cons_succ, i64_w, i32_w]
                  rfl
                 refine pure_ (i := 12) (N := some 92) (v := ?_) (a' := ?_) #[tT107,tT107,tT107,tT107,tT107,tT107,tT107,tT107,tT107,tT107,tT107,tT107,tT107,fF107,fF107,fF107,fF107,fF107,fF107,fF107,fF107,fF107,fF107,fF107,fF107,fF107,fF107,fF107,fF107,fF107,fF107,fF107,fF107,fF107,fF107,fF107,fF107,fF107,fF107,fF107,fF107,fF107,fF107,fF107,fF107,fF107,fF107,fF107,fF107,fF107,fF107,fF107,fF107,fF107,fF107,fF107,fF107,fF107,fF107,fF107,fF107,fF107,fF107,fF107,fF107,fF107,fF107,fF107,fF107,fF107,fF107,fF107,fF107,fF107,fF107,fF107,fF107,fF107,fF107,fF107,fF107,fF107,fF107,fF107,fF107,fF107,fF107,fF107,fF107,fF107,fF107] rfl rfl (q1q HT_.out z107_0) (fun _ _ _ h => h) (Or.inl ⟨by rfl, ?_⟩) ?_ ?_
                 rotate_left
                 ·intro w'
                  go_simp
                  with_reducible rfl
                 rotate_left
                 ·simp only [Act.put, List.setIfInBounds_toArray, List.set_cons_zero, List.set_cons_succ, i64_w, i32_w]
                  rfl
                 refine pure_ (i := 13) (N := some 93) (v := ?_) (a' := ?_) #[tT107,tT107,tT107,tT107,tT107,tT107,tT107,tT107,tT107,tT107,tT107,tT107,tT107,tT107,fF107,fF107,fF107,fF107,fF107,fF107,fF107,fF107,fF107,fF107,fF107,fF107,fF107,fF107,fF107,fF107,fF107,fF107,fF107,fF107,fF107,fF107,fF107,fF107,fF107,fF107,fF107,fF107,fF107,fF107,fF107,fF107,fF107,fF107,fF107,fF107,fF107,fF107,fF107,fF107,fF107,fF107,fF107,fF107,fF107,fF107,fF107,fF107,fF107,fF107,fF107,fF107,fF107,fF107,fF107,fF107,fF107,fF107,fF107,fF107,fF107,fF107,fF107,fF107,fF107,fF107,fF107,fF107,fF107,fF107,fF107,fF107,fF107,fF107,fF107,fF107,fF107] rfl rfl (q1q HT_.out z107_0) (fun _ _ _ h => h) (Or.inl ⟨by rfl, ?_⟩) ?_ ?_
                 rotate_left
                 ·intro w'
                  go_simp
                  with_reducible rfl
                 rotate_left
                 ·simp only [Act.put, List.setIfInBounds_toArray, List.set_cons_zero, List.set_cons_succ, i64_w, i32_w]
                  rfl
                 refine pure_ (i := 14) (N := some 94) (v := ?_) (a' := ?_) #[tT107,tT107,tT107,tT107,tT107,tT107,tT107,tT107,tT107,tT107,tT107,tT107,tT107,tT107,tT107,fF107,fF107,fF107,fF107,fF107,fF107,fF107,fF107,fF107,fF107,fF107,fF107,fF107,fF107,fF107,fF107,fF107,fF107,fF107,fF107,fF107,fF107,fF107,fF107,fF107,fF107,fF107,fF107,fF107,fF107,fF107,fF107,fF107,fF107,fF107,fF107,fF107,fF107,fF107,fF107,fF107,fF107,fF107,fF107,fF107,fF107,fF107,fF107,fF107,fF107,fF107,fF107,fF107,fF107,fF107,fF107,fF107,fF107,fF107,fF107,fF107,fF107,fF107,fF107,fF107,fF107,fF107,fF107,fF107,fF107,fF107,fF107,fF107,fF107,fF107,fF107] rfl rfl (q1q HT_.out z107_0) (fun _ _ _ h => h) (Or.inl ⟨by rfl, ?_⟩) ?_ ?_
                 rotate_left
                 ·intro w'
                  go_simp
                  with_reducible rfl
                 rotate_left
                 ·simp only [Act.put, List.setIfInBounds_toArray, List.set_cons_zero, List.set_cons_succ, i64_w, i32_w]
                  rfl
                 refine pure_ (i := 15) (N := some 95) (v := ?_) (a' := ?_) #[tT107,tT107,tT107,tT107,tT107,tT107,tT107,tT107,tT107,tT107,tT107,tT107,tT107,tT107,tT107,tT107,fF107,fF107,fF107,fF107,fF107,fF107,fF107,fF107,fF107,fF107,fF107,fF107,fF107,fF107,fF107,fF107,fF107,fF107,fF107,fF107,fF107,fF107,fF107,fF107,fF107,fF107,fF107,fF107,fF107,fF107,fF107,fF107,fF107,fF107,fF107,fF107,fF107,fF107,fF107,fF107,fF107,fF107,fF107,fF107,fF107,fF107,fF107,fF107,fF107,fF107,fF107,fF107,fF107,fF107,fF107,fF107,fF107,fF107,fF107,fF107,fF107,fF107,fF107,fF107,fF107,fF107,fF107,fF107,fF107,fF107,fF107,fF107,fF107,fF107,fF107] rfl rfl (q1q HT_.out z107_0) (fun _ _ _ h => h) (Or.inl ⟨by rfl, ?_⟩) ?_ ?_
                 rotate_left
                 ·intro w'
                  go_simp
                  with_reducible rfl
                 rotate_left
                 ·simp only [Act.put, List.setIfInBounds_toArray, List.set_cons_zero, List.set_cons_succ, i64_w, i32_w]
                  rfl
                 refine pure_ (i := 16) (N := some 96) (v := ?_) (a' := ?_) #[tT107,tT107,tT107,tT107,tT107,tT107,tT107,tT107,tT107,tT107,tT107,tT107,tT107,tT107,tT107,tT107,tT107,fF107,fF107,fF107,fF107,fF107,fF107,fF107,fF107,fF107,fF107,fF107,fF107,fF107,fF107,fF107,fF107,fF107,fF107,fF107,fF107,fF107,fF107,fF107,fF107,fF107,fF107,fF107,fF107,fF107,fF107,fF107,fF107,fF107,fF107,fF107,fF107,fF107,fF107,fF107,fF107,fF107,fF107,fF107,fF107,fF107,fF107,fF107,fF107,fF107,fF107,fF107,fF107,fF107,fF107,fF107,fF107,fF107,fF107,fF107,fF107,fF107,fF107,fF107,fF107,fF107,fF107,fF107,fF107,fF107,fF107,fF107,fF107,fF107,fF107] rfl rfl (q1q HT_.out z107_0) (fun _ _ _ h => h) (Or.inl ⟨by rfl, ?_⟩) ?_ ?_
                 rotate_left
                 ·intro w'
                  go_simp
                  with_reducible rfl
                 rotate_left
                 ·simp only [Act.put, List.setIfInBounds_toArray, List.set_cons_zero, List.set_cons_succ, i64_w, i32_w]
                  rfl
                 refine pure_ (i := 18) (N := some 98) (v := ?_) (a' := ?_) #[tT107,tT107,tT107,tT107,tT107,tT107,tT107,tT107,tT107,tT107,tT107,tT107,tT107,tT107,tT107,tT107,tT107,fF107,tT107,fF107,fF107,fF107,fF107,fF107,fF107,fF107,fF107,fF107,fF107,fF107,fF107,fF107,fF107,fF107,fF107,fF107,fF107,fF107,fF107,fF107,fF107,fF107,fF107,fF107,fF107,fF107,fF107,fF107,fF107,fF107,fF107,fF107,fF107,fF107,fF107,fF107,fF107,fF107,fF107,fF107,fF107,fF107,fF107,fF107,fF107,fF107,fF107,fF107,fF107,fF107,fF107,fF107,fF107,fF107,fF107,fF107,fF107,fF107,fF107,fF107,fF107,fF107,fF107,fF107,fF107,fF107,fF107,fF107,fF107,fF107,fF107] rfl rfl (q1q HT_.out z107_0) (fun _ _ _ h => h) (Or.inl ⟨by rfl, ?_⟩) ?_ ?_
                 rotate_left
                 ·intro w'
                  go_simp
                  with_reducible rfl
                 rotate_left
                 ·simp only [Act.put, List.setIfInBounds_toArray, List.set_cons_zero, List.set_cons_succ, i64_w, i32_w]
                  rfl
                 refine pure_ (i := 19) (N := some 99) (v := ?_) (a' := ?_) #[tT107,tT107,tT107,tT107,tT107,tT107,tT107,tT107,tT107,tT107,tT107,tT107,tT107,tT107,tT107,tT107,tT107,fF107,tT107,tT107,fF107,fF107,fF107,fF107,fF107,fF107,fF107,fF107,fF107,fF107,fF107,fF107,fF107,fF107,fF107,fF107,fF107,fF107,fF107,fF107,fF107,fF107,fF107,fF107,fF107,fF107,fF107,fF107,fF107,fF107,fF107,fF107,fF107,fF107,fF107,fF107,fF107,fF107,fF107,fF107,fF107,fF107,fF107,fF107,fF107,fF107,fF107,fF107,fF107,fF107,fF107,fF107,fF107,fF107,fF107,fF107,fF107,fF107,fF107,fF107,fF107,fF107,fF107,fF107,fF107,fF107,fF107,fF107,fF107,fF107,fF107] rfl rfl (q1q HT_.out z107_0) (fun _ _ _ h => h) (Or.inl ⟨by rfl, ?_⟩) ?_ ?_
                 rotate_left
                 ·intro w'
                  go_simp
                  with_reducible rfl
                 rotate_left
                 ·simp only [Act.put, List.setIfInBounds_toArray, List.set_cons_zero, List.set_cons_succ, i64_w, i32_w]
                  rfl
                 refine one_ (i := 17) (N := some 97) #[tT107,tT107,tT107,tT107,tT107,tT107,tT107,tT107,tT107,tT107,tT107,tT107,tT107,tT107,tT107,tT107,tT107,tT107,tT107,tT107,fF107,fF107,fF107,fF107,fF107,fF107,fF107,fF107,fF107,fF107,fF107,fF107,fF107,fF107,fF107,fF107,fF107,fF107,fF107,fF107,fF107,fF107,fF107,fF107,fF107,fF107,fF107,fF107,fF107,fF107,fF107,fF107,fF107,fF107,fF107,fF107,fF107,fF107,fF107,fF107,fF107,fF107,fF107,fF107,fF107,fF107,fF107,fF107,fF107,fF107,fF107,fF107,fF107,fF107,fF107,fF107,fF107,fF107,fF107,fF107,fF107,fF107,fF107,fF107,fF107,fF107,fF107,fF107,fF107,fF107,fF107] rfl rfl (one_of HT_.out z107_0) z107_2 (fun K hK => ?_)
                 refine goes_ Tryz.func20 z107_0 rfl #[.int .i64 a0, .int .i64 a1] (by rfl) rfl rfl z107_3 ?_
                 with_reducible refine (prop_Many.calls a0 a1 t659 _ A37.out).mono ?_
                 rintro e w79 ⟨rfl, hb⟩
                 refine ⟨_, rfl, ?_⟩
                 have n0_ := Aside0.mk (Kd.R_below z107_5 hb)
                 have n1_ := Aside0.mk (Kd.R_below z107_6 hb)
                 have n2_ := Aside0.mk (Kd.R_below z107_7 hb)
                 have n3_ := Aside0.mk (qo (g := gb619) (o := .cells #[.int .i64 a2_0, .int .u32 a2_1, .string a2_2, .string a2_3] 24 (0, 0)) z107_1 hb)
                 have n4_ := Aside0.mk (qo (g := gb648) (o := .cells #[.int .i64 t643, .int .u32 t644, .string t645, .string t646] 24 (0, 0)) z107_8 hb)
                 have n5_ := Aside0.mk (qo (g := gb654) (o := .cells #[.int .i64 t649, .int .u32 t650, .string t651, .string t652] 24 (0, 0)) z107_10 hb)
                 have n6_ := Aside0.mk (qe z107_9 hb)
                 clear HO628
                 clear HO637
                 clear HO642
                 clear BK619
                 clear BK648
                 clear BK654
                 clear HB
                 have HO628 := n0_
                 have HO637 := n1_
                 have HO642 := n2_
                 have BK619 := n3_
                 have BK648 := n4_
                 have BK654 := n5_
                 have HB := n6_
                 clear n0_ n1_ n2_ n3_ n4_ n5_ n6_
                 clear hb
                 refine hK.out _ _ ⟨(qk BK619.out 0).trans rfl, (qk BK619.out 1).trans rfl, (qk BK619.out 2).trans rfl, (qk BK619.out 3).trans rfl, (qk BK648.out 0).trans rfl, (qk BK648.out 1).trans rfl, (qk BK648.out 2).trans rfl, (qk BK648.out 3).trans rfl, (qk BK654.out 0).trans rfl, (qk BK654.out 1).trans rfl, (qk BK654.out 2).trans rfl, (qk BK654.out 3).trans rfl⟩ (fun hHeld => ?_)
                 clear hK K
                 refine norm_ (a' := ?_) ?_ ?_
                 rotate_left
                 ·show Act.put _ (some 97) _ = _
                  simp only [Act.put, List.setIfInBounds_toArray, List.set_cons_zero, List.set_cons_succ, i64_w, i32_w]
                  rfl
                 refine one_ (i := 20) (N := some 100) #[tT107,tT107,tT107,tT107,tT107,tT107,tT107,tT107,tT107,tT107,tT107,tT107,tT107,tT107,tT107,tT107,tT107,tT107,tT107,tT107,tT107,fF107,fF107,fF107,fF107,fF107,fF107,fF107,fF107,fF107,fF107,fF107,fF107,fF107,fF107,fF107,fF107,fF107,fF107,fF107,fF107,fF107,fF107,fF107,fF107,fF107,fF107,fF107,fF107,fF107,fF107,fF107,fF107,fF107,fF107,fF107,fF107,fF107,fF107,fF107,fF107,fF107,fF107,fF107,fF107,fF107,fF107,fF107,fF107,fF107,fF107,fF107,fF107,fF107,fF107,fF107,fF107,fF107,fF107,fF107,fF107,fF107,fF107,fF107,fF107,fF107,fF107,fF107,fF107,fF107,fF107] rfl rfl (one_of HT_.out z107_0) z107_2 (fun K hK => ?_)
                 refine goes_ Tryz.func21 z107_0 rfl #[.int .i64 a0, .int .i64 a1] (by rfl) rfl rfl z107_3 ?_
                 with_reducible refine (q1o.calls kj7 a0 a1 t660 _ A38.out).mono ?_
                 rintro e w80 ⟨rfl, hb⟩
                 refine ⟨_, rfl, ?_⟩
                 have n0_ := Aside0.mk (Kd.R_below z107_5 hb)
                 have n1_ := Aside0.mk (Kd.R_below z107_6 hb)
                 have n2_ := Aside0.mk (Kd.R_below z107_7 hb)
                 have n3_ := Aside0.mk (qo (g := gb619) (o := .cells #[.int .i64 a2_0, .int .u32 a2_1, .string a2_2, .string a2_3] 24 (0, 0)) z107_1 hb)
                 have n4_ := Aside0.mk (qo (g := gb648) (o := .cells #[.int .i64 t643, .int .u32 t644, .string t645, .string t646] 24 (0, 0)) z107_8 hb)
                 have n5_ := Aside0.mk (qo (g := gb654) (o := .cells #[.int .i64 t649, .int .u32 t650, .string t651, .string t652] 24 (0, 0)) z107_10 hb)
                 have n6_ := Aside0.mk (qe z107_9 hb)
                 clear HO628
                 clear HO637
                 clear HO642
                 clear BK619
                 clear BK648
                 clear BK654
                 clear HB
                 have HO628 := n0_
                 have HO637 := n1_
                 have HO642 := n2_
                 have BK619 := n3_
                 have BK648 := n4_
                 have BK654 := n5_
                 have HB := n6_
                 clear n0_ n1_ n2_ n3_ n4_ n5_ n6_
                 clear hb
                 refine hK.out _ _ ⟨(qk BK619.out 0).trans rfl, (qk BK619.out 1).trans rfl, (qk BK619.out 2).trans rfl, (qk BK619.out 3).trans rfl, (qk BK648.out 0).trans rfl, (qk BK648.out 1).trans rfl, (qk BK648.out 2).trans rfl, (qk BK648.out 3).trans rfl, (qk BK654.out 0).trans rfl, (qk BK654.out 1).trans rfl, (qk BK654.out 2).trans rfl, (qk BK654.out 3).trans rfl⟩ (fun hHeld => ?_)
                 clear hK K
                 refine norm_ (a' := ?_) ?_ ?_
                 rotate_left
                 ·show Act.put _ (some 100) _ = _
                  simp only [Act.put, List.setIfInBounds_toArray, List.set_cons_zero, List.set_cons_succ, i64_w, i32_w]
                  rfl
                 refine pure_ (i := 21) (N := some 101) (v := ?_) (a' := ?_) #[tT107,tT107,tT107,tT107,tT107,tT107,tT107,tT107,tT107,tT107,tT107,tT107,tT107,tT107,tT107,tT107,tT107,tT107,tT107,tT107,tT107,tT107,fF107,fF107,fF107,fF107,fF107,fF107,fF107,fF107,fF107,fF107,fF107,fF107,fF107,fF107,fF107,fF107,fF107,fF107,fF107,fF107,fF107,fF107,fF107,fF107,fF107,fF107,fF107,fF107,fF107,fF107,fF107,fF107,fF107,fF107,fF107,fF107,fF107,fF107,fF107,fF107,fF107,fF107,fF107,fF107,fF107,fF107,fF107,fF107,fF107,fF107,fF107,fF107,fF107,fF107,fF107,fF107,fF107,fF107,fF107,fF107,fF107,fF107,fF107,fF107,fF107,fF107,fF107,fF107,fF107] rfl rfl (q1q HT_.out z107_0) (fun _ _ _ h => h) (Or.inl ⟨by rfl, ?_⟩) ?_ ?_
                 rotate_left
                 ·intro w'
                  go_simp
                  with_reducible rfl
                 rotate_left
                 ·simp only [Act.put, List.setIfInBounds_toArray, List.set_cons_zero, List.set_cons_succ, i64_w, i32_w]
                  rfl
                 refine pure_ (i := 22) (N := some 102) (v := ?_) (a' := ?_) #[tT107,tT107,tT107,tT107,tT107,tT107,tT107,tT107,tT107,tT107,tT107,tT107,tT107,tT107,tT107,tT107,tT107,tT107,tT107,tT107,tT107,tT107,tT107,fF107,fF107,fF107,fF107,fF107,fF107,fF107,fF107,fF107,fF107,fF107,fF107,fF107,fF107,fF107,fF107,fF107,fF107,fF107,fF107,fF107,fF107,fF107,fF107,fF107,fF107,fF107,fF107,fF107,fF107,fF107,fF107,fF107,fF107,fF107,fF107,fF107,fF107,fF107,fF107,fF107,fF107,fF107,fF107,fF107,fF107,fF107,fF107,fF107,fF107,fF107,fF107,fF107,fF107,fF107,fF107,fF107,fF107,fF107,fF107,fF107,fF107,fF107,fF107,fF107,fF107,fF107,fF107] rfl rfl (q1q HT_.out z107_0) (fun _ _ _ h => h) (Or.inl ⟨by rfl, ?_⟩) ?_ ?_
                 rotate_left
                 ·intro w'
                  go_simp
                  with_reducible rfl
                 rotate_left
                 ·simp only [Act.put, List.setIfInBounds_toArray, List.set_cons_zero, List.set_cons_succ, i64_w, i32_w]
                  rfl
                 refine pure_ (i := 23) (N := some 103) (v := ?_) (a' := ?_) #[tT107,tT107,tT107,tT107,tT107,tT107,tT107,tT107,tT107,tT107,tT107,tT107,tT107,tT107,tT107,tT107,tT107,tT107,tT107,tT107,tT107,tT107,tT107,tT107,fF107,fF107,fF107,fF107,fF107,fF107,fF107,fF107,fF107,fF107,fF107,fF107,fF107,fF107,fF107,fF107,fF107,fF107,fF107,fF107,fF107,fF107,fF107,fF107,fF107,fF107,fF107,fF107,fF107,fF107,fF107,fF107,fF107,fF107,fF107,fF107,fF107,fF107,fF107,fF107,fF107,fF107,fF107,fF107,fF107,fF107,fF107,fF107,fF107,fF107,fF107,fF107,fF107,fF107,fF107,fF107,fF107,fF107,fF107,fF107,fF107,fF107,fF107,fF107,fF107,fF107,fF107] rfl rfl (q1q HT_.out z107_0) (fun _ _ _ h => h) (Or.inl ⟨by rfl, ?_⟩) ?_ ?_
                 rotate_left
                 ·intro w'
                  go_simp
                  with_reducible rfl
                 rotate_left
                 ·simp only [Act.put, List.setIfInBounds_toArray, List.set_cons_zero, List.set_cons_succ, i64_w, i32_w]
                  rfl
                 refine pure_ (i := 24) (N := some 104) (v := ?_) (a' := ?_) #[tT107,tT107,tT107,tT107,tT107,tT107,tT107,tT107,tT107,tT107,tT107,tT107,tT107,tT107,tT107,tT107,tT107,tT107,tT107,tT107,tT107,tT107,tT107,tT107,tT107,fF107,fF107,fF107,fF107,fF107,fF107,fF107,fF107,fF107,fF107,fF107,fF107,fF107,fF107,fF107,fF107,fF107,fF107,fF107,fF107,fF107,fF107,fF107,fF107,fF107,fF107,fF107,fF107,fF107,fF107,fF107,fF107,fF107,fF107,fF107,fF107,fF107,fF107,fF107,fF107,fF107,fF107,fF107,fF107,fF107,fF107,fF107,fF107,fF107,fF107,fF107,fF107,fF107,fF107,fF107,fF107,fF107,fF107,fF107,fF107,fF107,fF107,fF107,fF107,fF107,fF107] rfl rfl (q1q HT_.out z107_0) (fun _ _ _ h => h) (Or.inl ⟨by rfl, ?_⟩) ?_ ?_
                 rotate_left
                 ·intro w'
                  go_simp
                  with_reducible rfl
                 rotate_left
                 ·simp only [Act.put, List.setIfInBounds_toArray, List.set_cons_zero, List.set_cons_succ, i64_w, i32_w]
                  rfl
                 refine pure_ (i := 27) (N := some 107) (v := ?_) (a' := ?_) #[tT107,tT107,tT107,tT107,tT107,tT107,tT107,tT107,tT107,tT107,tT107,tT107,tT107,tT107,tT107,tT107,tT107,tT107,tT107,tT107,tT107,tT107,tT107,tT107,tT107,fF107,fF107,tT107,fF107,fF107,fF107,fF107,fF107,fF107,fF107,fF107,fF107,fF107,fF107,fF107,fF107,fF107,fF107,fF107,fF107,fF107,fF107,fF107,fF107,fF107,fF107,fF107,fF107,fF107,fF107,fF107,fF107,fF107,fF107,fF107,fF107,fF107,fF107,fF107,fF107,fF107,fF107,fF107,fF107,fF107,fF107,fF107,fF107,fF107,fF107,fF107,fF107,fF107,fF107,fF107,fF107,fF107,fF107,fF107,fF107,fF107,fF107,fF107,fF107,fF107,fF107] rfl rfl (q1q HT_.out z107_0) (fun _ _ _ h => h) (Or.inl ⟨by rfl, ?_⟩) ?_ ?_
                 rotate_left
                 ·intro w'
                  go_simp
                  with_reducible rfl
                 rotate_left
                 ·simp only [Act.put, List.setIfInBounds_toArray, List.set_cons_zero, List.set_cons_succ, i64_w, i32_w]
                  rfl
                 refine take_ (i := 25) (N := some 105) (v := ?_) (a' := ?_) #[tT107,tT107,tT107,tT107,tT107,tT107,tT107,tT107,tT107,tT107,tT107,tT107,tT107,tT107,tT107,tT107,tT107,tT107,tT107,tT107,tT107,tT107,tT107,tT107,tT107,tT107,fF107,tT107,fF107,fF107,fF107,fF107,fF107,fF107,fF107,fF107,fF107,fF107,fF107,fF107,fF107,fF107,fF107,fF107,fF107,fF107,fF107,fF107,fF107,fF107,fF107,fF107,fF107,fF107,fF107,fF107,fF107,fF107,fF107,fF107,fF107,fF107,fF107,fF107,fF107,fF107,fF107,fF107,fF107,fF107,fF107,fF107,fF107,fF107,fF107,fF107,fF107,fF107,fF107,fF107,fF107,fF107,fF107,fF107,fF107,fF107,fF107,fF107,fF107,fF107,fF107] rfl rfl (take_ofW HT_.out HW_.out z107_0) (fun _ _ _ h => h) (Or.inl ⟨by rfl, ?_⟩) hHeld ?_ ?_
                 rotate_left
                 ·rintro w' ⟨s0, s1, s2, s3, s4, s5, s6, s7, s8, s9, s10, s11⟩
                  go_simp
                  with_reducible rfl
                 rotate_left
                 ·simp only [Act.put, List.setIfInBounds_toArray, List.set_cons_zero, List.set_cons_succ, i64_w, i32_w]
                  rfl
                 refine take_ (i := 28) (N := some 108) (v := ?_) (a' := ?_) #[tT107,tT107,tT107,tT107,tT107,tT107,tT107,tT107,tT107,tT107,tT107,tT107,tT107,tT107,tT107,tT107,tT107,tT107,tT107,tT107,tT107,tT107,tT107,tT107,tT107,tT107,fF107,tT107,tT107,fF107,fF107,fF107,fF107,fF107,fF107,fF107,fF107,fF107,fF107,fF107,fF107,fF107,fF107,fF107,fF107,fF107,fF107,fF107,fF107,fF107,fF107,fF107,fF107,fF107,fF107,fF107,fF107,fF107,fF107,fF107,fF107,fF107,fF107,fF107,fF107,fF107,fF107,fF107,fF107,fF107,fF107,fF107,fF107,fF107,fF107,fF107,fF107,fF107,fF107,fF107,fF107,fF107,fF107,fF107,fF107,fF107,fF107,fF107,fF107,fF107,fF107] rfl rfl (take_ofW HT_.out HW_.out z107_0) (fun _ _ _ h => h) (Or.inl ⟨by rfl, ?_⟩) hHeld ?_ ?_
                 rotate_left
                 ·rintro w' ⟨s0, s1, s2, s3, s4, s5, s6, s7, s8, s9, s10, s11⟩
                  go_simp
                  with_reducible rfl
                 rotate_left
                 ·simp only [Act.put, List.setIfInBounds_toArray, List.set_cons_zero, List.set_cons_succ, i64_w, i32_w]
                  rfl
                 refine one_ (i := 26) (N := some 106) #[tT107,tT107,tT107,tT107,tT107,tT107,tT107,tT107,tT107,tT107,tT107,tT107,tT107,tT107,tT107,tT107,tT107,tT107,tT107,tT107,tT107,tT107,tT107,tT107,tT107,tT107,tT107,tT107,tT107,fF107,fF107,fF107,fF107,fF107,fF107,fF107,fF107,fF107,fF107,fF107,fF107,fF107,fF107,fF107,fF107,fF107,fF107,fF107,fF107,fF107,fF107,fF107,fF107,fF107,fF107,fF107,fF107,fF107,fF107,fF107,fF107,fF107,fF107,fF107,fF107,fF107,fF107,fF107,fF107,fF107,fF107,fF107,fF107,fF107,fF107,fF107,fF107,fF107,fF107,fF107,fF107,fF107,fF107,fF107,fF107,fF107,fF107,fF107,fF107,fF107,fF107] rfl rfl (one_of HT_.out z107_0) z107_2 (fun K hK => ?_)
                 refine goes_ Tryz.func22 z107_0 rfl #[.int .i64 a0, .agg #[.int .i64 a2_0, .int .u32 a2_1, .string a2_2, .string a2_3]] (by rfl) rfl rfl z107_3 ?_
                 with_reducible refine (prop_Check.calls kj7 a0 a2_0 a2_1 a2_2 a2_3 t661 _ A40.out).mono ?_
                 rintro e w81 ⟨rfl, hb⟩
                 refine ⟨_, rfl, ?_⟩
                 have n0_ := Aside0.mk (Kd.R_below z107_5 hb)
                 have n1_ := Aside0.mk (Kd.R_below z107_6 hb)
                 have n2_ := Aside0.mk (Kd.R_below z107_7 hb)
                 have n3_ := Aside0.mk (qo (g := gb619) (o := .cells #[.int .i64 a2_0, .int .u32 a2_1, .string a2_2, .string a2_3] 24 (0, 0)) z107_1 hb)
                 have n4_ := Aside0.mk (qo (g := gb648) (o := .cells #[.int .i64 t643, .int .u32 t644, .string t645, .string t646] 24 (0, 0)) z107_8 hb)
                 have n5_ := Aside0.mk (qo (g := gb654) (o := .cells #[.int .i64 t649, .int .u32 t650, .string t651, .string t652] 24 (0, 0)) z107_10 hb)
                 have n6_ := Aside0.mk (qe z107_9 hb)
                 clear HO628
                 clear HO637
                 clear HO642
                 clear BK619
                 clear BK648
                 clear BK654
                 clear HB
                 have HO628 := n0_
                 have HO637 := n1_
                 have HO642 := n2_
                 have BK619 := n3_
                 have BK648 := n4_
                 have BK654 := n5_
                 have HB := n6_
                 clear n0_ n1_ n2_ n3_ n4_ n5_ n6_
                 clear hb
                 refine hK.out _ _ ⟨(qk BK619.out 0).trans rfl, (qk BK619.out 1).trans rfl, (qk BK619.out 2).trans rfl, (qk BK619.out 3).trans rfl, (qk BK648.out 0).trans rfl, (qk BK648.out 1).trans rfl, (qk BK648.out 2).trans rfl, (qk BK648.out 3).trans rfl, (qk BK654.out 0).trans rfl, (qk BK654.out 1).trans rfl, (qk BK654.out 2).trans rfl, (qk BK654.out 3).trans rfl⟩ (fun hHeld => ?_)
                 clear hK K
                 refine norm_ (a' := ?_) ?_ ?_
                 rotate_left
                 ·show Act.put _ (some 106) _ = _
                  simp only [Act.put, List.setIfInBounds_toArray, List.set_cons_zero, List.set_cons_succ, i64_w, i32_w]
                  rfl
                 refine one_ (i := 29) (N := some 109) #[tT107,tT107,tT107,tT107,tT107,tT107,tT107,tT107,tT107,tT107,tT107,tT107,tT107,tT107,tT107,tT107,tT107,tT107,tT107,tT107,tT107,tT107,tT107,tT107,tT107,tT107,tT107,tT107,tT107,tT107,fF107,fF107,fF107,fF107,fF107,fF107,fF107,fF107,fF107,fF107,fF107,fF107,fF107,fF107,fF107,fF107,fF107,fF107,fF107,fF107,fF107,fF107,fF107,fF107,fF107,fF107,fF107,fF107,fF107,fF107,fF107,fF107,fF107,fF107,fF107,fF107,fF107,fF107,fF107,fF107,fF107,fF107,fF107,fF107,fF107,fF107,fF107,fF107,fF107,fF107,fF107,fF107,fF107,fF107,fF107,fF107,fF107,fF107,fF107,fF107,fF107] rfl rfl (one_of HT_.out z107_0) z107_2 (fun K hK => ?_)
                 refine goes_ Tryz.func23 z107_0 rfl #[.int .i64 a0, .agg #[.int .i64 a2_0, .int .u32 a2_1, .string a2_2, .string a2_3]] (by rfl) rfl rfl z107_3 ?_
                 with_reducible refine (qb.calls kj7 a0 a2_0 a2_1 a2_2 a2_3 t662 _ A41.out).mono ?_
                 rintro e w82 ⟨rfl, hb⟩
                 refine ⟨_, rfl, ?_⟩
                 have n0_ := Aside0.mk (Kd.R_below z107_5 hb)
                 have n1_ := Aside0.mk (Kd.R_below z107_6 hb)
                 have n2_ := Aside0.mk (Kd.R_below z107_7 hb)
                 have n3_ := Aside0.mk (qo (g := gb619) (o := .cells #[.int .i64 a2_0, .int .u32 a2_1, .string a2_2, .string a2_3] 24 (0, 0)) z107_1 hb)
                 have n4_ := Aside0.mk (qo (g := gb648) (o := .cells #[.int .i64 t643, .int .u32 t644, .string t645, .string t646] 24 (0, 0)) z107_8 hb)
                 have n5_ := Aside0.mk (qo (g := gb654) (o := .cells #[.int .i64 t649, .int .u32 t650, .string t651, .string t652] 24 (0, 0)) z107_10 hb)
                 have n6_ := Aside0.mk (qe z107_9 hb)
                 clear HO628
                 clear HO637
                 clear HO642
                 clear BK619
                 clear BK648
                 clear BK654
                 clear HB
                 have HO628 := n0_
                 have HO637 := n1_
                 have HO642 := n2_
                 have BK619 := n3_
                 have BK648 := n4_
                 have BK654 := n5_
                 have HB := n6_
                 clear n0_ n1_ n2_ n3_ n4_ n5_ n6_
                 clear hb
                 refine hK.out _ _ ⟨(qk BK619.out 0).trans rfl, (qk BK619.out 1).trans rfl, (qk BK619.out 2).trans rfl, (qk BK619.out 3).trans rfl, (qk BK648.out 0).trans rfl, (qk BK648.out 1).trans rfl, (qk BK648.out 2).trans rfl, (qk BK648.out 3).trans rfl, (qk BK654.out 0).trans rfl, (qk BK654.out 1).trans rfl, (qk BK654.out 2).trans rfl, (qk BK654.out 3).trans rfl⟩ (fun hHeld => ?_)
                 clear hK K
                 refine norm_ (a' := ?_) ?_ ?_
                 rotate_left
                 ·show Act.put _ (some 109) _ = _
                  simp only [Act.put, List.setIfInBounds_toArray, List.set_cons_zero, List.set_cons_succ, i64_w, i32_w]
                  rfl
                 refine pure_ (i := 30) (N := some 110) (v := ?_) (a' := ?_) #[tT107,tT107,tT107,tT107,tT107,tT107,tT107,tT107,tT107,tT107,tT107,tT107,tT107,tT107,tT107,tT107,tT107,tT107,tT107,tT107,tT107,tT107,tT107,tT107,tT107,tT107,tT107,tT107,tT107,tT107,tT107,fF107,fF107,fF107,fF107,fF107,fF107,fF107,fF107,fF107,fF107,fF107,fF107,fF107,fF107,fF107,fF107,fF107,fF107,fF107,fF107,fF107,fF107,fF107,fF107,fF107,fF107,fF107,fF107,fF107,fF107,fF107,fF107,fF107,fF107,fF107,fF107,fF107,fF107,fF107,fF107,fF107,fF107,fF107,fF107,fF107,fF107,fF107,fF107,fF107,fF107,fF107,fF107,fF107,fF107,fF107,fF107,fF107,fF107,fF107,fF107] rfl rfl (q1q HT_.out z107_0) (fun _ _ _ h => h) (Or.inl ⟨by rfl, ?_⟩) ?_ ?_
                 rotate_left
                 ·intro w'
                  go_simp
                  with_reducible rfl
                 rotate_left
                 ·simp only [Act.put, List.setIfInBounds_toArray, List.set_cons_zero, List.set_cons_succ, i64_w, i32_w]
                  rfl
                 refine pure_ (i := 31) (N := some 111) (v := ?_) (a' := ?_) #[tT107,tT107,tT107,tT107,tT107,tT107,tT107,tT107,tT107,tT107,tT107,tT107,tT107,tT107,tT107,tT107,tT107,tT107,tT107,tT107,tT107,tT107,tT107,tT107,tT107,tT107,tT107,tT107,tT107,tT107,tT107,tT107,fF107,fF107,fF107,fF107,fF107,fF107,fF107,fF107,fF107,fF107,fF107,fF107,fF107,fF107,fF107,fF107,fF107,fF107,fF107,fF107,fF107,fF107,fF107,fF107,fF107,fF107,fF107,fF107,fF107,fF107,fF107,fF107,fF107,fF107,fF107,fF107,fF107,fF107,fF107,fF107,fF107,fF107,fF107,fF107,fF107,fF107,fF107,fF107,fF107,fF107,fF107,fF107,fF107,fF107,fF107,fF107,fF107,fF107,fF107] rfl rfl (q1q HT_.out z107_0) (fun _ _ _ h => h) (Or.inl ⟨by rfl, ?_⟩) ?_ ?_
                 rotate_left
                 ·intro w'
                  go_simp
                  with_reducible rfl
                 rotate_left
                 ·simp only [Act.put, List.setIfInBounds_toArray, List.set_cons_zero, List.set_cons_succ, i64_w, i32_w]
                  rfl
                 refine pure_ (i := 32) (N := some 112) (v := ?_) (a' := ?_) #[tT107,tT107,tT107,tT107,tT107,tT107,tT107,tT107,tT107,tT107,tT107,tT107,tT107,tT107,tT107,tT107,tT107,tT107,tT107,tT107,tT107,tT107,tT107,tT107,tT107,tT107,tT107,tT107,tT107,tT107,tT107,tT107,tT107,fF107,fF107,fF107,fF107,fF107,fF107,fF107,fF107,fF107,fF107,fF107,fF107,fF107,fF107,fF107,fF107,fF107,fF107,fF107,fF107,fF107,fF107,fF107,fF107,fF107,fF107,fF107,fF107,fF107,fF107,fF107,fF107,fF107,fF107,fF107,fF107,fF107,fF107,fF107,fF107,fF107,fF107,fF107,fF107,fF107,fF107,fF107,fF107,fF107,fF107,fF107,fF107,fF107,fF107,fF107,fF107,fF107,fF107] rfl rfl (q1q HT_.out z107_0) (fun _ _ _ h => h) (Or.inl ⟨by rfl, ?_⟩) ?_ ?_
                 rotate_left
                 ·intro w'
                  go_simp
                  with_reducible rfl
                 rotate_left
                 ·simp only [Act.put, List.setIfInBounds_toArray, List.set_cons_zero, List.set_cons_succ, i64_w, i32_w]
                  rfl
                 refine pure_ (i := 33) (N := some 113) (v := ?_) (a' := ?_) #[tT107,tT107,tT107,tT107,tT107,tT107,tT107,tT107,tT107,tT107,tT107,tT107,tT107,tT107,tT107,tT107,tT107,tT107,tT107,tT107,tT107,tT107,tT107,tT107,tT107,tT107,tT107,tT107,tT107,tT107,tT107,tT107,tT107,tT107,fF107,fF107,fF107,fF107,fF107,fF107,fF107,fF107,fF107,fF107,fF107,fF107,fF107,fF107,fF107,fF107,fF107,fF107,fF107,fF107,fF107,fF107,fF107,fF107,fF107,fF107,fF107,fF107,fF107,fF107,fF107,fF107,fF107,fF107,fF107,fF107,fF107,fF107,fF107,fF107,fF107,fF107,fF107,fF107,fF107,fF107,fF107,fF107,fF107,fF107,fF107,fF107,fF107,fF107,fF107,fF107,fF107] rfl rfl (q1q HT_.out z107_0) (fun _ _ _ h => h) (Or.inl ⟨by rfl, ?_⟩) ?_ ?_
                 rotate_left
                 ·intro w'
                  go_simp
                  with_reducible rfl
                 rotate_left
                 ·simp only [Act.put, List.setIfInBounds_toArray, List.set_cons_zero, List.set_cons_succ, i64_w, i32_w]
                  rfl
                 refine pure_ (i := 34) (N := some 114) (v := ?_) (a' := ?_) #[tT107,tT107,tT107,tT107,tT107,tT107,tT107,tT107,tT107,tT107,tT107,tT107,tT107,tT107,tT107,tT107,tT107,tT107,tT107,tT107,tT107,tT107,tT107,tT107,tT107,tT107,tT107,tT107,tT107,tT107,tT107,tT107,tT107,tT107,tT107,fF107,fF107,fF107,fF107,fF107,fF107,fF107,fF107,fF107,fF107,fF107,fF107,fF107,fF107,fF107,fF107,fF107,fF107,fF107,fF107,fF107,fF107,fF107,fF107,fF107,fF107,fF107,fF107,fF107,fF107,fF107,fF107,fF107,fF107,fF107,fF107,fF107,fF107,fF107,fF107,fF107,fF107,fF107,fF107,fF107,fF107,fF107,fF107,fF107,fF107,fF107,fF107,fF107,fF107,fF107,fF107] rfl rfl (q1q HT_.out z107_0) (fun _ _ _ h => h) (Or.inl ⟨by rfl, ?_⟩) ?_ ?_
                 rotate_left
                 ·intro w'
                  go_simp
                  with_reducible rfl
                 rotate_left
                 ·simp only [Act.put, List.setIfInBounds_toArray, List.set_cons_zero, List.set_cons_succ, i64_w, i32_w]
                  rfl
                 refine pure_ (i := 36) (N := some 116) (v := ?_) (a' := ?_) #[tT107,tT107,tT107,tT107,tT107,tT107,tT107,tT107,tT107,tT107,tT107,tT107,tT107,tT107,tT107,tT107,tT107,tT107,tT107,tT107,tT107,tT107,tT107,tT107,tT107,tT107,tT107,tT107,tT107,tT107,tT107,tT107,tT107,tT107,tT107,fF107,tT107,fF107,fF107,fF107,fF107,fF107,fF107,fF107,fF107,fF107,fF107,fF107,fF107,fF107,fF107,fF107,fF107,fF107,fF107,fF107,fF107,fF107,fF107,fF107,fF107,fF107,fF107,fF107,fF107,fF107,fF107,fF107,fF107,fF107,fF107,fF107,fF107,fF107,fF107,fF107,fF107,fF107,fF107,fF107,fF107,fF107,fF107,fF107,fF107,fF107,fF107,fF107,fF107,fF107,fF107] rfl rfl (q1q HT_.out z107_0) (fun _ _ _ h => h) (Or.inl ⟨by rfl, ?_⟩) ?_ ?_
                 rotate_left
                 ·intro w'
                  go_simp
                  with_reducible rfl
                 rotate_left
                 ·simp only [Act.put, List.setIfInBounds_toArray, List.set_cons_zero, List.set_cons_succ, i64_w, i32_w]
                  rfl
                 refine pure_ (i := 37) (N := some 117) (v := ?_) (a' := ?_) #[tT107,tT107,tT107,tT107,tT107,tT107,tT107,tT107,tT107,tT107,tT107,tT107,tT107,tT107,tT107,tT107,tT107,tT107,tT107,tT107,tT107,tT107,tT107,tT107,tT107,tT107,tT107,tT107,tT107,tT107,tT107,tT107,tT107,tT107,tT107,fF107,tT107,tT107,fF107,fF107,fF107,fF107,fF107,fF107,fF107,fF107,fF107,fF107,fF107,fF107,fF107,fF107,fF107,fF107,fF107,fF107,fF107,fF107,fF107,fF107,fF107,fF107,fF107,fF107,fF107,fF107,fF107,fF107,fF107,fF107,fF107,fF107,fF107,fF107,fF107,fF107,fF107,fF107,fF107,fF107,fF107,fF107,fF107,fF107,fF107,fF107,fF107,fF107,fF107,fF107,fF107] rfl rfl (q1q HT_.out z107_0) (fun _ _ _ h => h) (Or.inl ⟨by rfl, ?_⟩) ?_ ?_
                 rotate_left
                 ·intro w'
                  go_simp
                  with_reducible rfl
                 rotate_left
                 ·simp only [Act.put, List.setIfInBounds_toArray, List.set_cons_zero, List.set_cons_succ, i64_w, i32_w]
                  rfl
                 refine one_ (i := 35) (N := some 115) #[tT107,tT107,tT107,tT107,tT107,tT107,tT107,tT107,tT107,tT107,tT107,tT107,tT107,tT107,tT107,tT107,tT107,tT107,tT107,tT107,tT107,tT107,tT107,tT107,tT107,tT107,tT107,tT107,tT107,tT107,tT107,tT107,tT107,tT107,tT107,tT107,tT107,tT107,fF107,fF107,fF107,fF107,fF107,fF107,fF107,fF107,fF107,fF107,fF107,fF107,fF107,fF107,fF107,fF107,fF107,fF107,fF107,fF107,fF107,fF107,fF107,fF107,fF107,fF107,fF107,fF107,fF107,fF107,fF107,fF107,fF107,fF107,fF107,fF107,fF107,fF107,fF107,fF107,fF107,fF107,fF107,fF107,fF107,fF107,fF107,fF107,fF107,fF107,fF107,fF107,fF107] rfl rfl (one_of HT_.out z107_0) z107_2 (fun K hK => ?_)
                 refine goes_ Tryz.func24 z107_0 rfl #[.int .i64 a0, .slice A3 l3.length c3] (by rfl) rfl rfl z107_3 ?_
                 with_reducible refine (prop_Valid.calls a0 _ _ l3 t663 _ ?side1 ?side2 A43.out).mono ?_
                 (case side1 => repeat (first | exact (Kd.C_below HR3.out HB.out) | (with_reducible refine Kd.C_alloc ?_ _) | (with_reducible refine Kd.C_drewN ?_ _) | (with_reducible refine Kd.C_drew ?_)))
                 (case side2 => exact HC3.out)
                 rintro e w83 ⟨rfl, hb⟩
                 refine ⟨_, rfl, ?_⟩
                 have n0_ := Aside0.mk (Kd.R_below z107_5 hb)
                 have n1_ := Aside0.mk (Kd.R_below z107_6 hb)
                 have n2_ := Aside0.mk (Kd.R_below z107_7 hb)
                 have n3_ := Aside0.mk (qo (g := gb619) (o := .cells #[.int .i64 a2_0, .int .u32 a2_1, .string a2_2, .string a2_3] 24 (0, 0)) z107_1 hb)
                 have n4_ := Aside0.mk (qo (g := gb648) (o := .cells #[.int .i64 t643, .int .u32 t644, .string t645, .string t646] 24 (0, 0)) z107_8 hb)
                 have n5_ := Aside0.mk (qo (g := gb654) (o := .cells #[.int .i64 t649, .int .u32 t650, .string t651, .string t652] 24 (0, 0)) z107_10 hb)
                 have n6_ := Aside0.mk (qe z107_9 hb)
                 clear HO628
                 clear HO637
                 clear HO642
                 clear BK619
                 clear BK648
                 clear BK654
                 clear HB
                 have HO628 := n0_
                 have HO637 := n1_
                 have HO642 := n2_
                 have BK619 := n3_
                 have BK648 := n4_
                 have BK654 := n5_
                 have HB := n6_
                 clear n0_ n1_ n2_ n3_ n4_ n5_ n6_
                 clear hb
                 refine hK.out _ _ ⟨(qk BK619.out 0).trans rfl, (qk BK619.out 1).trans rfl, (qk BK619.out 2).trans rfl, (qk BK619.out 3).trans rfl, (qk BK648.out 0).trans rfl, (qk BK648.out 1).trans rfl, (qk BK648.out 2).trans rfl, (qk BK648.out 3).trans rfl, (qk BK654.out 0).trans rfl, (qk BK654.out 1).trans rfl, (qk BK654.out 2).trans rfl, (qk BK654.out 3).trans rfl⟩ (fun hHeld => ?_)
                 clear hK K
                 refine norm_ (a' := ?_) ?_ ?_
                 rotate_left
                 ·show Act.put _ (some 115) _ = _
                  simp only [Act.put, List.setIfInBounds_toArray, List.set_cons_zero, List.set_cons_succ, i64_w, i32_w]
                  rfl
                 refine one_ (i := 38) (N := some 118) #[tT107,tT107,tT107,tT107,tT107,tT107,tT107,tT107,tT107,tT107,tT107,tT107,tT107,tT107,tT107,tT107,tT107,tT107,tT107,tT107,tT107,tT107,tT107,tT107,tT107,tT107,tT107,tT107,tT107,tT107,tT107,tT107,tT107,tT107,tT107,tT107,tT107,tT107,tT107,fF107,fF107,fF107,fF107,fF107,fF107,fF107,fF107,fF107,fF107,fF107,fF107,fF107,fF107,fF107,fF107,fF107,fF107,fF107,fF107,fF107,fF107,fF107,fF107,fF107,fF107,fF107,fF107,fF107,fF107,fF107,fF107,fF107,fF107,fF107,fF107,fF107,fF107,fF107,fF107,fF107,fF107,fF107,fF107,fF107,fF107,fF107,fF107,fF107,fF107,fF107,fF107] rfl rfl (one_of HT_.out z107_0) z107_2 (fun K hK => ?_)
                 refine goes_ Tryz.func25 z107_0 rfl #[.int .i64 a0, .slice A3 l3.length c3] (by rfl) rfl rfl z107_3 ?_
                 with_reducible refine (qt.calls kj7 a0 _ _ l3 t664 _ ?side1 ?side2 A44.out).mono ?_
                 (case side1 => repeat (first | exact (Kd.C_below HR3.out HB.out) | (with_reducible refine Kd.C_alloc ?_ _) | (with_reducible refine Kd.C_drewN ?_ _) | (with_reducible refine Kd.C_drew ?_)))
                 (case side2 => exact HC3.out)
                 rintro e w84 ⟨rfl, hb⟩
                 refine ⟨_, rfl, ?_⟩
                 have n0_ := Aside0.mk (Kd.R_below z107_5 hb)
                 have n1_ := Aside0.mk (Kd.R_below z107_6 hb)
                 have n2_ := Aside0.mk (Kd.R_below z107_7 hb)
                 have n3_ := Aside0.mk (qo (g := gb619) (o := .cells #[.int .i64 a2_0, .int .u32 a2_1, .string a2_2, .string a2_3] 24 (0, 0)) z107_1 hb)
                 have n4_ := Aside0.mk (qo (g := gb648) (o := .cells #[.int .i64 t643, .int .u32 t644, .string t645, .string t646] 24 (0, 0)) z107_8 hb)
                 have n5_ := Aside0.mk (qo (g := gb654) (o := .cells #[.int .i64 t649, .int .u32 t650, .string t651, .string t652] 24 (0, 0)) z107_10 hb)
                 have n6_ := Aside0.mk (qe z107_9 hb)
                 clear HO628
                 clear HO637
                 clear HO642
                 clear BK619
                 clear BK648
                 clear BK654
                 clear HB
                 have HO628 := n0_
                 have HO637 := n1_
                 have HO642 := n2_
                 have BK619 := n3_
                 have BK648 := n4_
                 have BK654 := n5_
                 have HB := n6_
                 clear n0_ n1_ n2_ n3_ n4_ n5_ n6_
                 clear hb
                 obtain ⟨Ao85, co85, eo85⟩ := Kd.R_slice HO637.out
                 (first | subst eo85 | (injection eo85 with f1_ f2_ f3_; have f4_ := f1_.symm; have f5_ := f3_.symm; clear f1_ f2_ f3_; subst f4_; subst f5_))
                 obtain ⟨Ao86, co86, eo86⟩ := Kd.R_slice HO642.out
                 (first | subst eo86 | (injection eo86 with f1_ f2_ f3_; have f4_ := f1_.symm; have f5_ := f3_.symm; clear f1_ f2_ f3_; subst f4_; subst f5_))
                 refine hK.out _ _ ⟨(qk BK619.out 0).trans rfl, (qk BK619.out 1).trans rfl, (qk BK619.out 2).trans rfl, (qk BK619.out 3).trans rfl, (qk BK648.out 0).trans rfl, (qk BK648.out 1).trans rfl, (qk BK648.out 2).trans rfl, (qk BK648.out 3).trans rfl, (qk BK654.out 0).trans rfl, (qk BK654.out 1).trans rfl, (qk BK654.out 2).trans rfl, (qk BK654.out 3).trans rfl⟩ (fun hHeld => ?_)
                 clear hK K
                 refine norm_ (a' := ?_) ?_ ?_
                 rotate_left
                 ·show Act.put _ (some 118) _ = _
                  simp only [Act.put, List.setIfInBounds_toArray, List.set_cons_zero, List.set_cons_succ, i64_w, i32_w]
                  rfl
                 refine pure_ (i := 39) (N := some 119) (v := ?_) (a' := ?_) #[tT107,tT107,tT107,tT107,tT107,tT107,tT107,tT107,tT107,tT107,tT107,tT107,tT107,tT107,tT107,tT107,tT107,tT107,tT107,tT107,tT107,tT107,tT107,tT107,tT107,tT107,tT107,tT107,tT107,tT107,tT107,tT107,tT107,tT107,tT107,tT107,tT107,tT107,tT107,tT107,fF107,fF107,fF107,fF107,fF107,fF107,fF107,fF107,fF107,fF107,fF107,fF107,fF107,fF107,fF107,fF107,fF107,fF107,fF107,fF107,fF107,fF107,fF107,fF107,fF107,fF107,fF107,fF107,fF107,fF107,fF107,fF107,fF107,fF107,fF107,fF107,fF107,fF107,fF107,fF107,fF107,fF107,fF107,fF107,fF107,fF107,fF107,fF107,fF107,fF107,fF107] rfl rfl (q1q HT_.out z107_0) (fun _ _ _ h => h) (Or.inl ⟨by rfl, ?_⟩) ?_ ?_
                 rotate_left
                 ·intro w'
                  go_simp
                  with_reducible rfl
                 rotate_left
                 ·simp only [Act.put, List.setIfInBounds_toArray, List.set_cons_zero, List.set_cons_succ, i64_w, i32_w]
                  rfl
                 refine pure_ (i := 40) (N := some 120) (v := ?_) (a' := ?_) #[tT107,tT107,tT107,tT107,tT107,tT107,tT107,tT107,tT107,tT107,tT107,tT107,tT107,tT107,tT107,tT107,tT107,tT107,tT107,tT107,tT107,tT107,tT107,tT107,tT107,tT107,tT107,tT107,tT107,tT107,tT107,tT107,tT107,tT107,tT107,tT107,tT107,tT107,tT107,tT107,tT107,fF107,fF107,fF107,fF107,fF107,fF107,fF107,fF107,fF107,fF107,fF107,fF107,fF107,fF107,fF107,fF107,fF107,fF107,fF107,fF107,fF107,fF107,fF107,fF107,fF107,fF107,fF107,fF107,fF107,fF107,fF107,fF107,fF107,fF107,fF107,fF107,fF107,fF107,fF107,fF107,fF107,fF107,fF107,fF107,fF107,fF107,fF107,fF107,fF107,fF107] rfl rfl (q1q HT_.out z107_0) (fun _ _ _ h => h) (Or.inl ⟨by rfl, ?_⟩) ?_ ?_
                 rotate_left
                 ·intro w'
                  go_simp
                  with_reducible rfl
                 rotate_left
                 ·simp only [Act.put, List.setIfInBounds_toArray, List.set_cons_zero, List.set_cons_succ, i64_w, i32_w]
                  rfl
                 refine pure_ (i := 41) (N := some 121) (v := ?_) (a' := ?_) #[tT107,tT107,tT107,tT107,tT107,tT107,tT107,tT107,tT107,tT107,tT107,tT107,tT107,tT107,tT107,tT107,tT107,tT107,tT107,tT107,tT107,tT107,tT107,tT107,tT107,tT107,tT107,tT107,tT107,tT107,tT107,tT107,tT107,tT107,tT107,tT107,tT107,tT107,tT107,tT107,tT107,tT107,fF107,fF107,fF107,fF107,fF107,fF107,fF107,fF107,fF107,fF107,fF107,fF107,fF107,fF107,fF107,fF107,fF107,fF107,fF107,fF107,fF107,fF107,fF107,fF107,fF107,fF107,fF107,fF107,fF107,fF107,fF107,fF107,fF107,fF107,fF107,fF107,fF107,fF107,fF107,fF107,fF107,fF107,fF107,fF107,fF107,fF107,fF107,fF107,fF107] rfl rfl (q1q HT_.out z107_0) (fun _ _ _ h => h) (Or.inl ⟨by rfl, ?_⟩) ?_ ?_
                 rotate_left
                 ·intro w'
                  go_simp
                  with_reducible rfl
                 rotate_left
                 ·simp only [Act.put, List.setIfInBounds_toArray, List.set_cons_zero, List.set_cons_succ, i64_w, i32_w]
                  rfl
                 refine pure_ (i := 42) (N := some 122) (v := ?_) (a' := ?_) #[tT107,tT107,tT107,tT107,tT107,tT107,tT107,tT107,tT107,tT107,tT107,tT107,tT107,tT107,tT107,tT107,tT107,tT107,tT107,tT107,tT107,tT107,tT107,tT107,tT107,tT107,tT107,tT107,tT107,tT107,tT107,tT107,tT107,tT107,tT107,tT107,tT107,tT107,tT107,tT107,tT107,tT107,tT107,fF107,fF107,fF107,fF107,fF107,fF107,fF107,fF107,fF107,fF107,fF107,fF107,fF107,fF107,fF107,fF107,fF107,fF107,fF107,fF107,fF107,fF107,fF107,fF107,fF107,fF107,fF107,fF107,fF107,fF107,fF107,fF107,fF107,fF107,fF107,fF107,fF107,fF107,fF107,fF107,fF107,fF107,fF107,fF107,fF107,fF107,fF107,fF107] rfl rfl (q1q HT_.out z107_0) (fun _ _ _ h => h) (Or.inl ⟨by rfl, ?_⟩) ?_ ?_
                 rotate_left
                 ·intro w'
                  go_simp
                  with_reducible rfl
                 rotate_left
                 ·simp only [Act.put, List.setIfInBounds_toArray, List.set_cons_zero, List.set_cons_succ, i64_w, i32_w]
                  rfl
                 refine pure_ (i := 43) (N := some 123) (v := ?_) (a' := ?_) #[tT107,tT107,tT107,tT107,tT107,tT107,tT107,tT107,tT107,tT107,tT107,tT107,tT107,tT107,tT107,tT107,tT107,tT107,tT107,tT107,tT107,tT107,tT107,tT107,tT107,tT107,tT107,tT107,tT107,tT107,tT107,tT107,tT107,tT107,tT107,tT107,tT107,tT107,tT107,tT107,tT107,tT107,tT107,tT107,fF107,fF107,fF107,fF107,fF107,fF107,fF107,fF107,fF107,fF107,fF107,fF107,fF107,fF107,fF107,fF107,fF107,fF107,fF107,fF107,fF107,fF107,fF107,fF107,fF107,fF107,fF107,fF107,fF107,fF107,fF107,fF107,fF107,fF107,fF107,fF107,fF107,fF107,fF107,fF107,fF107,fF107,fF107,fF107,fF107,fF107,fF107] rfl rfl (q1q HT_.out z107_0) (fun _ _ _ h => h) (Or.inl ⟨by rfl, ?_⟩) ?_ ?_
                 rotate_left
                 ·intro w'
                  go_simp
                  with_reducible rfl
                 rotate_left
                 ·simp only [Act.put, List.setIfInBounds_toArray, List.set_cons_zero, List.set_cons_succ, i64_w, i32_w]
                  rfl
                 refine pure_ (i := 44) (N := some 124) (v := ?_) (a' := ?_) #[tT107,tT107,tT107,tT107,tT107,tT107,tT107,tT107,tT107,tT107,tT107,tT107,tT107,tT107,tT107,tT107,tT107,tT107,tT107,tT107,tT107,tT107,tT107,tT107,tT107,tT107,tT107,tT107,tT107,tT107,tT107,tT107,tT107,tT107,tT107,tT107,tT107,tT107,tT107,tT107,tT107,tT107,tT107,tT107,tT107,fF107,fF107,fF107,fF107,fF107,fF107,fF107,fF107,fF107,fF107,fF107,fF107,fF107,fF107,fF107,fF107,fF107,fF107,fF107,fF107,fF107,fF107,fF107,fF107,fF107,fF107,fF107,fF107,fF107,fF107,fF107,fF107,fF107,fF107,fF107,fF107,fF107,fF107,fF107,fF107,fF107,fF107,fF107,fF107,fF107,fF107] rfl rfl (q1q HT_.out z107_0) (fun _ _ _ h => h) (Or.inl ⟨by rfl, ?_⟩) ?_ ?_
                 rotate_left
                 ·intro w'
                  go_simp
                  with_reducible rfl
                 rotate_left
                 ·simp only [Act.put, List.setIfInBounds_toArray, List.set_cons_zero, List.set_cons_succ, i64_w, i32_w]
                  rfl
                 refine pure_ (i := 45) (N := some 125) (v := ?_) (a' := ?_) #[tT107,tT107,tT107,tT107,tT107,tT107,tT107,tT107,tT107,tT107,tT107,tT107,tT107,tT107,tT107,tT107,tT107,tT107,tT107,tT107,tT107,tT107,tT107,tT107,tT107,tT107,tT107,tT107,tT107,tT107,tT107,tT107,tT107,tT107,tT107,tT107,tT107,tT107,tT107,tT107,tT107,tT107,tT107,tT107,tT107,tT107,fF107,fF107,fF107,fF107,fF107,fF107,fF107,fF107,fF107,fF107,fF107,fF107,fF107,fF107,fF107,fF107,fF107,fF107,fF107,fF107,fF107,fF107,fF107,fF107,fF107,fF107,fF107,fF107,fF107,fF107,fF107,fF107,fF107,fF107,fF107,fF107,fF107,fF107,fF107,fF107,fF107,fF107,fF107,fF107,fF107] rfl rfl (q1q HT_.out z107_0) (fun _ _ _ h => h) (Or.inl ⟨by rfl, ?_⟩) ?_ ?_
                 rotate_left
                 ·intro w'
                  go_simp
                  with_reducible rfl
                 rotate_left
                 ·simp only [Act.put, List.setIfInBounds_toArray, List.set_cons_zero, List.set_cons_succ, i64_w, i32_w]
                  rfl
                 refine pure_ (i := 46) (N := some 126) (v := ?_) (a' := ?_) #[tT107,tT107,tT107,tT107,tT107,tT107,tT107,tT107,tT107,tT107,tT107,tT107,tT107,tT107,tT107,tT107,tT107,tT107,tT107,tT107,tT107,tT107,tT107,tT107,tT107,tT107,tT107,tT107,tT107,tT107,tT107,tT107,tT107,tT107,tT107,tT107,tT107,tT107,tT107,tT107,tT107,tT107,tT107,tT107,tT107,tT107,tT107,fF107,fF107,fF107,fF107,fF107,fF107,fF107,fF107,fF107,fF107,fF107,fF107,fF107,fF107,fF107,fF107,fF107,fF107,fF107,fF107,fF107,fF107,fF107,fF107,fF107,fF107,fF107,fF107,fF107,fF107,fF107,fF107,fF107,fF107,fF107,fF107,fF107,fF107,fF107,fF107,fF107,fF107,fF107,fF107] rfl rfl (q1q HT_.out z107_0) (fun _ _ _ h => h) (Or.inl ⟨by rfl, ?_⟩) ?_ ?_
                 rotate_left
                 ·intro w'
                  go_simp
                  with_reducible rfl
                 rotate_left
                 ·simp only [Act.put, List.setIfInBounds_toArray, List.set_cons_zero, List.set_cons_succ, i64_w, i32_w]
                  rfl
                 refine pure_ (i := 47) (N := some 127) (v := ?_) (a' := ?_) #[tT107,tT107,tT107,tT107,tT107,tT107,tT107,tT107,tT107,tT107,tT107,tT107,tT107,tT107,tT107,tT107,tT107,tT107,tT107,tT107,tT107,tT107,tT107,tT107,tT107,tT107,tT107,tT107,tT107,tT107,tT107,tT107,tT107,tT107,tT107,tT107,tT107,tT107,tT107,tT107,tT107,tT107,tT107,tT107,tT107,tT107,tT107,tT107,fF107,fF107,fF107,fF107,fF107,fF107,fF107,fF107,fF107,fF107,fF107,fF107,fF107,fF107,fF107,fF107,fF107,fF107,fF107,fF107,fF107,fF107,fF107,fF107,fF107,fF107,fF107,fF107,fF107,fF107,fF107,fF107,fF107,fF107,fF107,fF107,fF107,fF107,fF107,fF107,fF107,fF107,fF107] rfl rfl (q1q HT_.out z107_0) (fun _ _ _ h => h) (Or.inl ⟨by rfl, ?_⟩) ?_ ?_
                 rotate_left
                 ·intro w'
                  go_simp
                  with_reducible rfl
                 rotate_left
                 ·simp only [Act.put, List.setIfInBounds_toArray, List.set_cons_zero, List.set_cons_succ, i64_w, i32_w]
                  rfl
                 refine pure_ (i := 48) (N := some 128) (v := ?_) (a' := ?_) #[tT107,tT107,tT107,tT107,tT107,tT107,tT107,tT107,tT107,tT107,tT107,tT107,tT107,tT107,tT107,tT107,tT107,tT107,tT107,tT107,tT107,tT107,tT107,tT107,tT107,tT107,tT107,tT107,tT107,tT107,tT107,tT107,tT107,tT107,tT107,tT107,tT107,tT107,tT107,tT107,tT107,tT107,tT107,tT107,tT107,tT107,tT107,tT107,tT107,fF107,fF107,fF107,fF107,fF107,fF107,fF107,fF107,fF107,fF107,fF107,fF107,fF107,fF107,fF107,fF107,fF107,fF107,fF107,fF107,fF107,fF107,fF107,fF107,fF107,fF107,fF107,fF107,fF107,fF107,fF107,fF107,fF107,fF107,fF107,fF107,fF107,fF107,fF107,fF107,fF107,fF107] rfl rfl (q1q HT_.out z107_0) (fun _ _ _ h => h) (Or.inl ⟨by rfl, ?_⟩) ?_ ?_
                 rotate_left
                 ·intro w'
                  go_simp
                  with_reducible rfl
                 rotate_left
                 ·simp only [Act.put, List.setIfInBounds_toArray, List.set_cons_zero, List.set_cons_succ, i64_w, i32_w]
                  rfl
                 refine pure_ (i := 49) (N := some 129) (v := ?_) (a' := ?_) #[tT107,tT107,tT107,tT107,tT107,tT107,tT107,tT107,tT107,tT107,tT107,tT107,tT107,tT107,tT107,tT107,tT107,tT107,tT107,tT107,tT107,tT107,tT107,tT107,tT107,tT107,tT107,tT107,tT107,tT107,tT107,tT107,tT107,tT107,tT107,tT107,tT107,tT107,tT107,tT107,tT107,tT107,tT107,tT107,tT107,tT107,tT107,tT107,tT107,tT107,fF107,fF107,fF107,fF107,fF107,fF107,fF107,fF107,fF107,fF107,fF107,fF107,fF107,fF107,fF107,fF107,fF107,fF107,fF107,fF107,fF107,fF107,fF107,fF107,fF107,fF107,fF107,fF107,fF107,fF107,fF107,fF107,fF107,fF107,fF107,fF107,fF107,fF107,fF107,fF107,fF107] rfl rfl (q1q HT_.out z107_0) (fun _ _ _ h => h) (Or.inl ⟨by rfl, ?_⟩) ?_ ?_
                 rotate_left
                 ·intro w'
                  go_simp
                  with_reducible rfl
                 rotate_left
                 ·simp only [Act.put, List.setIfInBounds_toArray, List.set_cons_zero, List.set_cons_succ, i64_w, i32_w]
                  rfl
                 refine pure_ (i := 50) (N := some 130) (v := ?_) (a' := ?_) #[tT107,tT107,tT107,tT107,tT107,tT107,tT107,tT107,tT107,tT107,tT107,tT107,tT107,tT107,tT107,tT107,tT107,tT107,tT107,tT107,tT107,tT107,tT107,tT107,tT107,tT107,tT107,tT107,tT107,tT107,tT107,tT107,tT107,tT107,tT107,tT107,tT107,tT107,tT107,tT107,tT107,tT107,tT107,tT107,tT107,tT107,tT107,tT107,tT107,tT107,tT107,fF107,fF107,fF107,fF107,fF107,fF107,fF107,fF107,fF107,fF107,fF107,fF107,fF107,fF107,fF107,fF107,fF107,fF107,fF107,fF107,fF107,fF107,fF107,fF107,fF107,fF107,fF107,fF107,fF107,fF107,fF107,fF107,fF107,fF107,fF107,fF107,fF107,fF107,fF107,fF107] rfl rfl (q1q HT_.out z107_0) (fun _ _ _ h => h) (Or.inl ⟨by rfl, ?_⟩) ?_ ?_
                 rotate_left
                 ·intro w'
                  go_simp
                  with_reducible rfl
                 rotate_left
                 ·simp only [Act.put, List.setIfInBounds_toArray, List.set_cons_zero, List.set_cons_succ, i64_w, i32_w]
                  rfl
                 refine pure_ (i := 51) (N := some 131) (v := ?_) (a' := ?_) #[tT107,tT107,tT107,tT107,tT107,tT107,tT107,tT107,tT107,tT107,tT107,tT107,tT107,tT107,tT107,tT107,tT107,tT107,tT107,tT107,tT107,tT107,tT107,tT107,tT107,tT107,tT107,tT107,tT107,tT107,tT107,tT107,tT107,tT107,tT107,tT107,tT107,tT107,tT107,tT107,tT107,tT107,tT107,tT107,tT107,tT107,tT107,tT107,tT107,tT107,tT107,tT107,fF107,fF107,fF107,fF107,fF107,fF107,fF107,fF107,fF107,fF107,fF107,fF107,fF107,fF107,fF107,fF107,fF107,fF107,fF107,fF107,fF107,fF107,fF107,fF107,fF107,fF107,fF107,fF107,fF107,fF107,fF107,fF107,fF107,fF107,fF107,fF107,fF107,fF107,fF107] rfl rfl (q1q HT_.out z107_0) (fun _ _ _ h => h) (Or.inl ⟨by rfl, ?_⟩) ?_ ?_
                 rotate_left
                 ·intro w'
                  go_simp
                  with_reducible rfl
                 rotate_left
                 ·simp only [Act.put, List.setIfInBounds_toArray, List.set_cons_zero, List.set_cons_succ, i64_w, i32_w]
                  rfl
                 refine pure_ (i := 52) (N := some 132) (v := ?_) (a' := ?_) #[tT107,tT107,tT107,tT107,tT107,tT107,tT107,tT107,tT107,tT107,tT107,tT107,tT107,tT107,tT107,tT107,tT107,tT107,tT107,tT107,tT107,tT107,tT107,tT107,tT107,tT107,tT107,tT107,tT107,tT107,tT107,tT107,tT107,tT107,tT107,tT107,tT107,tT107,tT107,tT107,tT107,tT107,tT107,tT107,tT107,tT107,tT107,tT107,tT107,tT107,tT107,tT107,tT107,fF107,fF107,fF107,fF107,fF107,fF107,fF107,fF107,fF107,fF107,fF107,fF107,fF107,fF107,fF107,fF107,fF107,fF107,fF107,fF107,fF107,fF107,fF107,fF107,fF107,fF107,fF107,fF107,fF107,fF107,fF107,fF107,fF107,fF107,fF107,fF107,fF107,fF107] rfl rfl (q1q HT_.out z107_0) (fun _ _ _ h => h) (Or.inl ⟨by rfl, ?_⟩) ?_ ?_
                 rotate_left
                 ·intro w'
                  go_simp
                  with_reducible rfl
                 rotate_left
                 ·simp only [Act.put, List.setIfInBounds_toArray, List.set_cons_zero, List.set_cons_succ, i64_w, i32_w]
                  rfl
                 refine pure_ (i := 53) (N := some 133) (v := ?_) (a' := ?_) #[tT107,tT107,tT107,tT107,tT107,tT107,tT107,tT107,tT107,tT107,tT107,tT107,tT107,tT107,tT107,tT107,tT107,tT107,tT107,tT107,tT107,tT107,tT107,tT107,tT107,tT107,tT107,tT107,tT107,tT107,tT107,tT107,tT107,tT107,tT107,tT107,tT107,tT107,tT107,tT107,tT107,tT107,tT107,tT107,tT107,tT107,tT107,tT107,tT107,tT107,tT107,tT107,tT107,tT107,fF107,fF107,fF107,fF107,fF107,fF107,fF107,fF107,fF107,fF107,fF107,fF107,fF107,fF107,fF107,fF107,fF107,fF107,fF107,fF107,fF107,fF107,fF107,fF107,fF107,fF107,fF107,fF107,fF107,fF107,fF107,fF107,fF107,fF107,fF107,fF107,fF107] rfl rfl (q1q HT_.out z107_0) (fun _ _ _ h => h) (Or.inl ⟨by rfl, ?_⟩) ?_ ?_
                 rotate_left
                 ·intro w'
                  go_simp
                  with_reducible rfl
                 rotate_left
                 ·simp only [Act.put, List.setIfInBounds_toArray, List.set_cons_zero, List.set_cons_succ, i64_w, i32_w]
                  rfl
                 refine one_ (i := 54) (N := some 134) #[tT107,tT107,tT107,tT107,tT107,tT107,tT107,tT107,tT107,tT107,tT107,tT107,tT107,tT107,tT107,tT107,tT107,tT107,tT107,tT107,tT107,tT107,tT107,tT107,tT107,tT107,tT107,tT107,tT107,tT107,tT107,tT107,tT107,tT107,tT107,tT107,tT107,tT107,tT107,tT107,tT107,tT107,tT107,tT107,tT107,tT107,tT107,tT107,tT107,tT107,tT107,tT107,tT107,tT107,tT107,fF107,fF107,fF107,fF107,fF107,fF107,fF107,fF107,fF107,fF107,fF107,fF107,fF107,fF107,fF107,fF107,fF107,fF107,fF107,fF107,fF107,fF107,fF107,fF107,fF107,fF107,fF107,fF107,fF107,fF107,fF107,fF107,fF107,fF107,fF107,fF107] rfl rfl (one_of HT_.out z107_0) z107_2 (fun K hK => ?_)
                 refine goes_ Tryz.func26 z107_0 rfl #[.slice Ao85 t633.length co85, .slice Ao86 t638.length co86] (by rfl) rfl rfl z107_3 ?_
                 with_reducible refine (q1u.calls kj7 _ _ t633 _ _ t638 true _ ?side1 ?side2 ?side3 ?side4 A48.out).mono ?_
                 (case side1 => repeat (first | exact (Kd.R_reads' HO637.out).2.2 | (with_reducible refine Kd.C_alloc ?_ _) | (with_reducible refine Kd.C_drewN ?_ _) | (with_reducible refine Kd.C_drew ?_)))
                 (case side2 => exact (Kd.R_reads' HO637.out).2.1)
                 (case side3 => repeat (first | exact (Kd.R_reads' HO642.out).2.2 | (with_reducible refine Kd.C_alloc ?_ _) | (with_reducible refine Kd.C_drewN ?_ _) | (with_reducible refine Kd.C_drew ?_)))
                 (case side4 => exact (Kd.R_reads' HO642.out).2.1)
                 rintro e w' ⟨rfl, ⟨nd, rfl⟩⟩
                 refine ⟨_, rfl, ?_⟩
                 refine hK.out _ _ ⟨(qk BK619.out 0).trans rfl, (qk BK619.out 1).trans rfl, (qk BK619.out 2).trans rfl, (qk BK619.out 3).trans rfl, (qk BK648.out 0).trans rfl, (qk BK648.out 1).trans rfl, (qk BK648.out 2).trans rfl, (qk BK648.out 3).trans rfl, (qk BK654.out 0).trans rfl, (qk BK654.out 1).trans rfl, (qk BK654.out 2).trans rfl, (qk BK654.out 3).trans rfl⟩ (fun hHeld => ?_)
                 clear hK K
                 refine norm_ (a' := ?_) ?_ ?_
                 rotate_left
                 ·show Act.put _ (some 134) _ = _
                  simp only [Act.put, List.setIfInBounds_toArray, List.set_cons_zero, List.set_cons_succ, i64_w, i32_w]
                  rfl
                 refine pure_ (i := 55) (N := some 135) (v := ?_) (a' := ?_) #[tT107,tT107,tT107,tT107,tT107,tT107,tT107,tT107,tT107,tT107,tT107,tT107,tT107,tT107,tT107,tT107,tT107,tT107,tT107,tT107,tT107,tT107,tT107,tT107,tT107,tT107,tT107,tT107,tT107,tT107,tT107,tT107,tT107,tT107,tT107,tT107,tT107,tT107,tT107,tT107,tT107,tT107,tT107,tT107,tT107,tT107,tT107,tT107,tT107,tT107,tT107,tT107,tT107,tT107,tT107,tT107,fF107,fF107,fF107,fF107,fF107,fF107,fF107,fF107,fF107,fF107,fF107,fF107,fF107,fF107,fF107,fF107,fF107,fF107,fF107,fF107,fF107,fF107,fF107,fF107,fF107,fF107,fF107,fF107,fF107,fF107,fF107,fF107,fF107,fF107,fF107] rfl rfl (q1q HT_.out z107_0) (fun _ _ _ h => h) (Or.inl ⟨by rfl, ?_⟩) ?_ ?_
                 rotate_left
                 ·intro w'
                  go_simp
                  with_reducible rfl
                 rotate_left
                 ·simp only [Act.put, List.setIfInBounds_toArray, List.set_cons_zero, List.set_cons_succ, i64_w, i32_w]
                  rfl
                 refine pure_ (i := 56) (N := some 136) (v := ?_) (a' := ?_) #[tT107,tT107,tT107,tT107,tT107,tT107,tT107,tT107,tT107,tT107,tT107,tT107,tT107,tT107,tT107,tT107,tT107,tT107,tT107,tT107,tT107,tT107,tT107,tT107,tT107,tT107,tT107,tT107,tT107,tT107,tT107,tT107,tT107,tT107,tT107,tT107,tT107,tT107,tT107,tT107,tT107,tT107,tT107,tT107,tT107,tT107,tT107,tT107,tT107,tT107,tT107,tT107,tT107,tT107,tT107,tT107,tT107,fF107,fF107,fF107,fF107,fF107,fF107,fF107,fF107,fF107,fF107,fF107,fF107,fF107,fF107,fF107,fF107,fF107,fF107,fF107,fF107,fF107,fF107,fF107,fF107,fF107,fF107,fF107,fF107,fF107,fF107,fF107,fF107,fF107,fF107] rfl rfl (q1q HT_.out z107_0) (fun _ _ _ h => h) (Or.inl ⟨by rfl, ?_⟩) ?_ ?_
                 rotate_left
                 ·intro w'
                  go_simp
                  with_reducible rfl
                 rotate_left
                 ·simp only [Act.put, List.setIfInBounds_toArray, List.set_cons_zero, List.set_cons_succ, i64_w, i32_w]
                  rfl
                 refine pure_ (i := 57) (N := some 137) (v := ?_) (a' := ?_) #[tT107,tT107,tT107,tT107,tT107,tT107,tT107,tT107,tT107,tT107,tT107,tT107,tT107,tT107,tT107,tT107,tT107,tT107,tT107,tT107,tT107,tT107,tT107,tT107,tT107,tT107,tT107,tT107,tT107,tT107,tT107,tT107,tT107,tT107,tT107,tT107,tT107,tT107,tT107,tT107,tT107,tT107,tT107,tT107,tT107,tT107,tT107,tT107,tT107,tT107,tT107,tT107,tT107,tT107,tT107,tT107,tT107,tT107,fF107,fF107,fF107,fF107,fF107,fF107,fF107,fF107,fF107,fF107,fF107,fF107,fF107,fF107,fF107,fF107,fF107,fF107,fF107,fF107,fF107,fF107,fF107,fF107,fF107,fF107,fF107,fF107,fF107,fF107,fF107,fF107,fF107] rfl rfl (q1q HT_.out z107_0) (fun _ _ _ h => h) (Or.inl ⟨by rfl, ?_⟩) ?_ ?_
                 rotate_left
                 ·intro w'
                  go_simp
                  with_reducible rfl
                 rotate_left
                 ·simp only [Act.put, List.setIfInBounds_toArray, List.set_cons_zero, List.set_cons_succ, i64_w, i32_w]
                  rfl
                 refine pure_ (i := 58) (N := some 138) (v := ?_) (a' := ?_) #[tT107,tT107,tT107,tT107,tT107,tT107,tT107,tT107,tT107,tT107,tT107,tT107,tT107,tT107,tT107,tT107,tT107,tT107,tT107,tT107,tT107,tT107,tT107,tT107,tT107,tT107,tT107,tT107,tT107,tT107,tT107,tT107,tT107,tT107,tT107,tT107,tT107,tT107,tT107,tT107,tT107,tT107,tT107,tT107,tT107,tT107,tT107,tT107,tT107,tT107,tT107,tT107,tT107,tT107,tT107,tT107,tT107,tT107,tT107,fF107,fF107,fF107,fF107,fF107,fF107,fF107,fF107,fF107,fF107,fF107,fF107,fF107,fF107,fF107,fF107,fF107,fF107,fF107,fF107,fF107,fF107,fF107,fF107,fF107,fF107,fF107,fF107,fF107,fF107,fF107,fF107] rfl rfl (q1q HT_.out z107_0) (fun _ _ _ h => h) (Or.inl ⟨by rfl, ?_⟩) ?_ ?_
                 rotate_left
                 ·intro w'
                  go_simp
                  with_reducible rfl
                 rotate_left
                 ·simp only [Act.put, List.setIfInBounds_toArray, List.set_cons_zero, List.set_cons_succ, i64_w, i32_w]
                  rfl
                 refine pure_ (i := 59) (N := some 139) (v := ?_) (a' := ?_) #[tT107,tT107,tT107,tT107,tT107,tT107,tT107,tT107,tT107,tT107,tT107,tT107,tT107,tT107,tT107,tT107,tT107,tT107,tT107,tT107,tT107,tT107,tT107,tT107,tT107,tT107,tT107,tT107,tT107,tT107,tT107,tT107,tT107,tT107,tT107,tT107,tT107,tT107,tT107,tT107,tT107,tT107,tT107,tT107,tT107,tT107,tT107,tT107,tT107,tT107,tT107,tT107,tT107,tT107,tT107,tT107,tT107,tT107,tT107,tT107,fF107,fF107,fF107,fF107,fF107,fF107,fF107,fF107,fF107,fF107,fF107,fF107,fF107,fF107,fF107,fF107,fF107,fF107,fF107,fF107,fF107,fF107,fF107,fF107,fF107,fF107,fF107,fF107,fF107,fF107,fF107] rfl rfl (q1q HT_.out z107_0) (fun _ _ _ h => h) (Or.inl ⟨by rfl, ?_⟩) ?_ ?_
                 rotate_left
                 ·intro w'
                  go_simp
                  with_reducible rfl
                 rotate_left
                 ·simp only [Act.put, List.setIfInBounds_toArray, List.set_cons_zero, List.set_cons_succ, i64_w, i32_w]
                  rfl
                 refine pure_ (i := 60) (N := some 140) (v := ?_) (a' := ?_) #[tT107,tT107,tT107,tT107,tT107,tT107,tT107,tT107,tT107,tT107,tT107,tT107,tT107,tT107,tT107,tT107,tT107,tT107,tT107,tT107,tT107,tT107,tT107,tT107,tT107,tT107,tT107,tT107,tT107,tT107,tT107,tT107,tT107,tT107,tT107,tT107,tT107,tT107,tT107,tT107,tT107,tT107,tT107,tT107,tT107,tT107,tT107,tT107,tT107,tT107,tT107,tT107,tT107,tT107,tT107,tT107,tT107,tT107,tT107,tT107,tT107,fF107,fF107,fF107,fF107,fF107,fF107,fF107,fF107,fF107,fF107,fF107,fF107,fF107,fF107,fF107,fF107,fF107,fF107,fF107,fF107,fF107,fF107,fF107,fF107,fF107,fF107,fF107,fF107,fF107,fF107] rfl rfl (q1q HT_.out z107_0) (fun _ _ _ h => h) (Or.inl ⟨by rfl, ?_⟩) ?_ ?_
                 rotate_left
                 ·intro w'
                  go_simp
                  with_reducible rfl
                 rotate_left
                 ·simp only [Act.put, List.setIfInBounds_toArray, List.set_cons_zero, List.set_cons_succ, i64_w, i32_w]
                  rfl
                 refine pure_ (i := 61) (N := some 141) (v := ?_) (a' := ?_) #[tT107,tT107,tT107,tT107,tT107,tT107,tT107,tT107,tT107,tT107,tT107,tT107,tT107,tT107,tT107,tT107,tT107,tT107,tT107,tT107,tT107,tT107,tT107,tT107,tT107,tT107,tT107,tT107,tT107,tT107,tT107,tT107,tT107,tT107,tT107,tT107,tT107,tT107,tT107,tT107,tT107,tT107,tT107,tT107,tT107,tT107,tT107,tT107,tT107,tT107,tT107,tT107,tT107,tT107,tT107,tT107,tT107,tT107,tT107,tT107,tT107,tT107,fF107,fF107,fF107,fF107,fF107,fF107,fF107,fF107,fF107,fF107,fF107,fF107,fF107,fF107,fF107,fF107,fF107,fF107,fF107,fF107,fF107,fF107,fF107,fF107,fF107,fF107,fF107,fF107,fF107] rfl rfl (q1q HT_.out z107_0) (fun _ _ _ h => h) (Or.inl ⟨by rfl, ?_⟩) ?_ ?_
                 rotate_left
                 ·intro w'
                  go_simp
                  with_reducible rfl
                 rotate_left
                 ·simp only [Act.put, List.setIfInBounds_toArray, List.set_cons_zero, List.set_cons_succ, i64_w, i32_w]
                  rfl
                 refine pure_ (i := 62) (N := some 142) (v := ?_) (a' := ?_) #[tT107,tT107,tT107,tT107,tT107,tT107,tT107,tT107,tT107,tT107,tT107,tT107,tT107,tT107,tT107,tT107,tT107,tT107,tT107,tT107,tT107,tT107,tT107,tT107,tT107,tT107,tT107,tT107,tT107,tT107,tT107,tT107,tT107,tT107,tT107,tT107,tT107,tT107,tT107,tT107,tT107,tT107,tT107,tT107,tT107,tT107,tT107,tT107,tT107,tT107,tT107,tT107,tT107,tT107,tT107,tT107,tT107,tT107,tT107,tT107,tT107,tT107,tT107,fF107,fF107,fF107,fF107,fF107,fF107,fF107,fF107,fF107,fF107,fF107,fF107,fF107,fF107,fF107,fF107,fF107,fF107,fF107,fF107,fF107,fF107,fF107,fF107,fF107,fF107,fF107,fF107] rfl rfl (q1q HT_.out z107_0) (fun _ _ _ h => h) (Or.inl ⟨by rfl, ?_⟩) ?_ ?_
                 rotate_left
                 ·intro w'
                  go_simp
                  with_reducible rfl
                 rotate_left
                 ·simp only [Act.put, List.setIfInBounds_toArray, List.set_cons_zero, List.set_cons_succ, i64_w, i32_w]
                  rfl
                 refine pure_ (i := 63) (N := some 143) (v := ?_) (a' := ?_) #[tT107,tT107,tT107,tT107,tT107,tT107,tT107,tT107,tT107,tT107,tT107,tT107,tT107,tT107,tT107,tT107,tT107,tT107,tT107,tT107,tT107,tT107,tT107,tT107,tT107,tT107,tT107,tT107,tT107,tT107,tT107,tT107,tT107,tT107,tT107,tT107,tT107,tT107,tT107,tT107,tT107,tT107,tT107,tT107,tT107,tT107,tT107,tT107,tT107,tT107,tT107,tT107,tT107,tT107,tT107,tT107,tT107,tT107,tT107,tT107,tT107,tT107,tT107,tT107,fF107,fF107,fF107,fF107,fF107,fF107,fF107,fF107,fF107,fF107,fF107,fF107,fF107,fF107,fF107,fF107,fF107,fF107,fF107,fF107,fF107,fF107,fF107,fF107,fF107,fF107,fF107] rfl rfl (q1q HT_.out z107_0) (fun _ _ _ h => h) (Or.inl ⟨by rfl, ?_⟩) ?_ ?_
                 rotate_left
                 ·intro w'
                  go_simp
                  with_reducible rfl
                 rotate_left
                 ·simp only [Act.put, List.setIfInBounds_toArray, List.set_cons_zero, List.set_cons_succ, i64_w, i32_w]
                  rfl
                 refine pure_ (i := 64) (N := some 144) (v := ?_) (a' := ?_) #[tT107,tT107,tT107,tT107,tT107,tT107,tT107,tT107,tT107,tT107,tT107,tT107,tT107,tT107,tT107,tT107,tT107,tT107,tT107,tT107,tT107,tT107,tT107,tT107,tT107,tT107,tT107,tT107,tT107,tT107,tT107,tT107,tT107,tT107,tT107,tT107,tT107,tT107,tT107,tT107,tT107,tT107,tT107,tT107,tT107,tT107,tT107,tT107,tT107,tT107,tT107,tT107,tT107,tT107,tT107,tT107,tT107,tT107,tT107,tT107,tT107,tT107,tT107,tT107,tT107,fF107,fF107,fF107,fF107,fF107,fF107,fF107,fF107,fF107,fF107,fF107,fF107,fF107,fF107,fF107,fF107,fF107,fF107,fF107,fF107,fF107,fF107,fF107,fF107,fF107,fF107] rfl rfl (q1q HT_.out z107_0) (fun _ _ _ h => h) (Or.inl ⟨by rfl, ?_⟩) ?_ ?_
                 rotate_left
                 ·intro w'
                  go_simp
                  with_reducible rfl
                 rotate_left
                 ·simp only [Act.put, List.setIfInBounds_toArray, List.set_cons_zero, List.set_cons_succ, i64_w, i32_w]
                  rfl
                 refine pure_ (i := 65) (N := some 145) (v := ?_) (a' := ?_) #[tT107,tT107,tT107,tT107,tT107,tT107,tT107,tT107,tT107,tT107,tT107,tT107,tT107,tT107,tT107,tT107,tT107,tT107,tT107,tT107,tT107,tT107,tT107,tT107,tT107,tT107,tT107,tT107,tT107,tT107,tT107,tT107,tT107,tT107,tT107,tT107,tT107,tT107,tT107,tT107,tT107,tT107,tT107,tT107,tT107,tT107,tT107,tT107,tT107,tT107,tT107,tT107,tT107,tT107,tT107,tT107,tT107,tT107,tT107,tT107,tT107,tT107,tT107,tT107,tT107,tT107,fF107,fF107,fF107,fF107,fF107,fF107,fF107,fF107,fF107,fF107,fF107,fF107,fF107,fF107,fF107,fF107,fF107,fF107,fF107,fF107,fF107,fF107,fF107,fF107,fF107] rfl rfl (q1q HT_.out z107_0) (fun _ _ _ h => h) (Or.inl ⟨by rfl, ?_⟩) ?_ ?_
                 rotate_left
                 ·intro w'
                  go_simp
                  with_reducible rfl
                 rotate_left
                 ·simp only [Act.put, List.setIfInBounds_toArray, List.set_cons_zero, List.set_cons_succ, i64_w, i32_w]
                  rfl
                 refine pure_ (i := 66) (N := some 146) (v := ?_) (a' := ?_) #[tT107,tT107,tT107,tT107,tT107,tT107,tT107,tT107,tT107,tT107,tT107,tT107,tT107,tT107,tT107,tT107,tT107,tT107,tT107,tT107,tT107,tT107,tT107,tT107,tT107,tT107,tT107,tT107,tT107,tT107,tT107,tT107,tT107,tT107,tT107,tT107,tT107,tT107,tT107,tT107,tT107,tT107,tT107,tT107,tT107,tT107,tT107,tT107,tT107,tT107,tT107,tT107,tT107,tT107,tT107,tT107,tT107,tT107,tT107,tT107,tT107,tT107,tT107,tT107,tT107,tT107,tT107,fF107,fF107,fF107,fF107,fF107,fF107,fF107,fF107,fF107,fF107,fF107,fF107,fF107,fF107,fF107,fF107,fF107,fF107,fF107,fF107,fF107,fF107,fF107,fF107] rfl rfl (q1q HT_.out z107_0) (fun _ _ _ h => h) (Or.inl ⟨by rfl, ?_⟩) ?_ ?_
                 rotate_left
                 ·intro w'
                  go_simp
                  with_reducible rfl
                 rotate_left
                 ·simp only [Act.put, List.setIfInBounds_toArray, List.set_cons_zero, List.set_cons_succ, i64_w, i32_w]
                  rfl
                 refine take_ (i := 67) (N := some 147) (v := ?_) (a' := ?_) #[tT107,tT107,tT107,tT107,tT107,tT107,tT107,tT107,tT107,tT107,tT107,tT107,tT107,tT107,tT107,tT107,tT107,tT107,tT107,tT107,tT107,tT107,tT107,tT107,tT107,tT107,tT107,tT107,tT107,tT107,tT107,tT107,tT107,tT107,tT107,tT107,tT107,tT107,tT107,tT107,tT107,tT107,tT107,tT107,tT107,tT107,tT107,tT107,tT107,tT107,tT107,tT107,tT107,tT107,tT107,tT107,tT107,tT107,tT107,tT107,tT107,tT107,tT107,tT107,tT107,tT107,tT107,tT107,fF107,fF107,fF107,fF107,fF107,fF107,fF107,fF107,fF107,fF107,fF107,fF107,fF107,fF107,fF107,fF107,fF107,fF107,fF107,fF107,fF107,fF107,fF107] rfl rfl (take_ofW HT_.out HW_.out z107_0) (fun _ _ _ h => h) (Or.inl ⟨by rfl, ?_⟩) hHeld ?_ ?_
                 rotate_left
                 ·rintro w' ⟨s0, s1, s2, s3, s4, s5, s6, s7, s8, s9, s10, s11⟩
                  go_simp
                  with_reducible rfl
                 rotate_left
                 ·simp only [Act.put, List.setIfInBounds_toArray, List.set_cons_zero, List.set_cons_succ, i64_w, i32_w]
                  rfl
                 refine take_ (i := 68) (N := some 148) (v := ?_) (a' := ?_) #[tT107,tT107,tT107,tT107,tT107,tT107,tT107,tT107,tT107,tT107,tT107,tT107,tT107,tT107,tT107,tT107,tT107,tT107,tT107,tT107,tT107,tT107,tT107,tT107,tT107,tT107,tT107,tT107,tT107,tT107,tT107,tT107,tT107,tT107,tT107,tT107,tT107,tT107,tT107,tT107,tT107,tT107,tT107,tT107,tT107,tT107,tT107,tT107,tT107,tT107,tT107,tT107,tT107,tT107,tT107,tT107,tT107,tT107,tT107,tT107,tT107,tT107,tT107,tT107,tT107,tT107,tT107,tT107,tT107,fF107,fF107,fF107,fF107,fF107,fF107,fF107,fF107,fF107,fF107,fF107,fF107,fF107,fF107,fF107,fF107,fF107,fF107,fF107,fF107,fF107,fF107] rfl rfl (take_ofW HT_.out HW_.out z107_0) (fun _ _ _ h => h) (Or.inl ⟨by rfl, ?_⟩) hHeld ?_ ?_
                 rotate_left
                 ·rintro w' ⟨s0, s1, s2, s3, s4, s5, s6, s7, s8, s9, s10, s11⟩
                  go_simp
                  with_reducible rfl
                 rotate_left
                 ·simp only [Act.put, List.setIfInBounds_toArray, List.set_cons_zero, List.set_cons_succ, i64_w, i32_w]
                  rfl
                 refine pure_ (i := 69) (N := some 149) (v := ?_) (a' := ?_) #[tT107,tT107,tT107,tT107,tT107,tT107,tT107,tT107,tT107,tT107,tT107,tT107,tT107,tT107,tT107,tT107,tT107,tT107,tT107,tT107,tT107,tT107,tT107,tT107,tT107,tT107,tT107,tT107,tT107,tT107,tT107,tT107,tT107,tT107,tT107,tT107,tT107,tT107,tT107,tT107,tT107,tT107,tT107,tT107,tT107,tT107,tT107,tT107,tT107,tT107,tT107,tT107,tT107,tT107,tT107,tT107,tT107,tT107,tT107,tT107,tT107,tT107,tT107,tT107,tT107,tT107,tT107,tT107,tT107,tT107,fF107,fF107,fF107,fF107,fF107,fF107,fF107,fF107,fF107,fF107,fF107,fF107,fF107,fF107,fF107,fF107,fF107,fF107,fF107,fF107,fF107] rfl rfl (q1q HT_.out z107_0) (fun _ _ _ h => h) (Or.inl ⟨by rfl, ?_⟩) ?_ ?_
                 rotate_left
                 ·intro w'
                  go_simp
                  with_reducible rfl
                 rotate_left
                 ·simp only [Act.put, List.setIfInBounds_toArray, List.set_cons_zero, List.set_cons_succ, i64_w, i32_w]
                  rfl
                 refine pure_ (i := 70) (N := some 150) (v := ?_) (a' := ?_) #[tT107,tT107,tT107,tT107,tT107,tT107,tT107,tT107,tT107,tT107,tT107,tT107,tT107,tT107,tT107,tT107,tT107,tT107,tT107,tT107,tT107,tT107,tT107,tT107,tT107,tT107,tT107,tT107,tT107,tT107,tT107,tT107,tT107,tT107,tT107,tT107,tT107,tT107,tT107,tT107,tT107,tT107,tT107,tT107,tT107,tT107,tT107,tT107,tT107,tT107,tT107,tT107,tT107,tT107,tT107,tT107,tT107,tT107,tT107,tT107,tT107,tT107,tT107,tT107,tT107,tT107,tT107,tT107,tT107,tT107,tT107,fF107,fF107,fF107,fF107,fF107,fF107,fF107,fF107,fF107,fF107,fF107,fF107,fF107,fF107,fF107,fF107,fF107,fF107,fF107,fF107] rfl rfl (q1q HT_.out z107_0) (fun _ _ _ h => h) (Or.inl ⟨by rfl, ?_⟩) ?_ ?_
                 rotate_left
                 ·intro w'
                  go_simp
                  with_reducible rfl
                 rotate_left
                 ·simp only [Act.put, List.setIfInBounds_toArray, List.set_cons_zero, List.set_cons_succ, i64_w, i32_w]
                  rfl
                 refine pure_ (i := 71) (N := some 151) (v := ?_) (a' := ?_) #[tT107,tT107,tT107,tT107,tT107,tT107,tT107,tT107,tT107,tT107,tT107,tT107,tT107,tT107,tT107,tT107,tT107,tT107,tT107,tT107,tT107,tT107,tT107,tT107,tT107,tT107,tT107,tT107,tT107,tT107,tT107,tT107,tT107,tT107,tT107,tT107,tT107,tT107,tT107,tT107,tT107,tT107,tT107,tT107,tT107,tT107,tT107,tT107,tT107,tT107,tT107,tT107,tT107,tT107,tT107,tT107,tT107,tT107,tT107,tT107,tT107,tT107,tT107,tT107,tT107,tT107,tT107,tT107,tT107,tT107,tT107,tT107,fF107,fF107,fF107,fF107,fF107,fF107,fF107,fF107,fF107,fF107,fF107,fF107,fF107,fF107,fF107,fF107,fF107,fF107,fF107] rfl rfl (q1q HT_.out z107_0) (fun _ _ _ h => h) (Or.inl ⟨by rfl, ?_⟩) ?_ ?_
                 rotate_left
                 ·intro w'
                  go_simp
                  with_reducible rfl
                 rotate_left
                 ·simp only [Act.put, List.setIfInBounds_toArray, List.set_cons_zero, List.set_cons_succ, i64_w, i32_w]
                  rfl
                 refine pure_ (i := 72) (N := some 152) (v := ?_) (a' := ?_) #[tT107,tT107,tT107,tT107,tT107,tT107,tT107,tT107,tT107,tT107,tT107,tT107,tT107,tT107,tT107,tT107,tT107,tT107,tT107,tT107,tT107,tT107,tT107,tT107,tT107,tT107,tT107,tT107,tT107,tT107,tT107,tT107,tT107,tT107,tT107,tT107,tT107,tT107,tT107,tT107,tT107,tT107,tT107,tT107,tT107,tT107,tT107,tT107,tT107,tT107,tT107,tT107,tT107,tT107,tT107,tT107,tT107,tT107,tT107,tT107,tT107,tT107,tT107,tT107,tT107,tT107,tT107,tT107,tT107,tT107,tT107,tT107,tT107,fF107,fF107,fF107,fF107,fF107,fF107,fF107,fF107,fF107,fF107,fF107,fF107,fF107,fF107,fF107,fF107,fF107,fF107] rfl rfl (q1q HT_.out z107_0) (fun _ _ _ h => h) (Or.inl ⟨by rfl, ?_⟩) ?_ ?_
                 rotate_left
                 ·intro w'
                  go_simp
                  with_reducible rfl
                 rotate_left
                 ·simp only [Act.put, List.setIfInBounds_toArray, List.set_cons_zero, List.set_cons_succ, i64_w, i32_w]
                  rfl
                 refine pure_ (i := 73) (N := some 153) (v := ?_) (a' := ?_) #[tT107,tT107,tT107,tT107,tT107,tT107,tT107,tT107,tT107,tT107,tT107,tT107,tT107,tT107,tT107,tT107,tT107,tT107,tT107,tT107,tT107,tT107,tT107,tT107,tT107,tT107,tT107,tT107,tT107,tT107,tT107,tT107,tT107,tT107,tT107,tT107,tT107,tT107,tT107,tT107,tT107,tT107,tT107,tT107,tT107,tT107,tT107,tT107,tT107,tT107,tT107,tT107,tT107,tT107,tT107,tT107,tT107,tT107,tT107,tT107,tT107,tT107,tT107,tT107,tT107,tT107,tT107,tT107,tT107,tT107,tT107,tT107,tT107,tT107,fF107,fF107,fF107,fF107,fF107,fF107,fF107,fF107,fF107,fF107,fF107,fF107,fF107,fF107,fF107,fF107,fF107] rfl rfl (q1q HT_.out z107_0) (fun _ _ _ h => h) (Or.inl ⟨by rfl, ?_⟩) ?_ ?_
                 rotate_left
                 ·intro w'
                  go_simp
                  with_reducible rfl
                 rotate_left
                 ·simp only [Act.put, List.setIfInBounds_toArray, List.set_cons_zero, List.set_cons_succ, i64_w, i32_w]
                  rfl
                 refine pure_ (i := 74) (N := some 154) (v := ?_) (a' := ?_) #[tT107,tT107,tT107,tT107,tT107,tT107,tT107,tT107,tT107,tT107,tT107,tT107,tT107,tT107,tT107,tT107,tT107,tT107,tT107,tT107,tT107,tT107,tT107,tT107,tT107,tT107,tT107,tT107,tT107,tT107,tT107,tT107,tT107,tT107,tT107,tT107,tT107,tT107,tT107,tT107,tT107,tT107,tT107,tT107,tT107,tT107,tT107,tT107,tT107,tT107,tT107,tT107,tT107,tT107,tT107,tT107,tT107,tT107,tT107,tT107,tT107,tT107,tT107,tT107,tT107,tT107,tT107,tT107,tT107,tT107,tT107,tT107,tT107,tT107,tT107,fF107,fF107,fF107,fF107,fF107,fF107,fF107,fF107,fF107,fF107,fF107,fF107,fF107,fF107,fF107,fF107] rfl rfl (q1q HT_.out z107_0) (fun _ _ _ h => h) (Or.inl ⟨by rfl, ?_⟩) ?_ ?_
                 rotate_left
                 ·intro w'
                  go_simp
                  with_reducible rfl
                 rotate_left
                 ·simp only [Act.put, List.setIfInBounds_toArray, List.set_cons_zero, List.set_cons_succ, i64_w, i32_w]
                  rfl
                 refine pure_ (i := 75) (N := some 155) (v := ?_) (a' := ?_) #[tT107,tT107,tT107,tT107,tT107,tT107,tT107,tT107,tT107,tT107,tT107,tT107,tT107,tT107,tT107,tT107,tT107,tT107,tT107,tT107,tT107,tT107,tT107,tT107,tT107,tT107,tT107,tT107,tT107,tT107,tT107,tT107,tT107,tT107,tT107,tT107,tT107,tT107,tT107,tT107,tT107,tT107,tT107,tT107,tT107,tT107,tT107,tT107,tT107,tT107,tT107,tT107,tT107,tT107,tT107,tT107,tT107,tT107,tT107,tT107,tT107,tT107,tT107,tT107,tT107,tT107,tT107,tT107,tT107,tT107,tT107,tT107,tT107,tT107,tT107,tT107,fF107,fF107,fF107,fF107,fF107,fF107,fF107,fF107,fF107,fF107,fF107,fF107,fF107,fF107,fF107] rfl rfl (q1q HT_.out z107_0) (fun _ _ _ h => h) (Or.inl ⟨by rfl, ?_⟩) ?_ ?_
                 rotate_left
                 ·intro w'
                  go_simp
                  with_reducible rfl
                 rotate_left
                 ·simp only [Act.put, List.setIfInBounds_toArray, List.set_cons_zero, List.set_cons_succ, i64_w, i32_w]
                  rfl
                 refine pure_ (i := 76) (N := some 156) (v := ?_) (a' := ?_) #[tT107,tT107,tT107,tT107,tT107,tT107,tT107,tT107,tT107,tT107,tT107,tT107,tT107,tT107,tT107,tT107,tT107,tT107,tT107,tT107,tT107,tT107,tT107,tT107,tT107,tT107,tT107,tT107,tT107,tT107,tT107,tT107,tT107,tT107,tT107,tT107,tT107,tT107,tT107,tT107,tT107,tT107,tT107,tT107,tT107,tT107,tT107,tT107,tT107,tT107,tT107,tT107,tT107,tT107,tT107,tT107,tT107,tT107,tT107,tT107,tT107,tT107,tT107,tT107,tT107,tT107,tT107,tT107,tT107,tT107,tT107,tT107,tT107,tT107,tT107,tT107,tT107,fF107,fF107,fF107,fF107,fF107,fF107,fF107,fF107,fF107,fF107,fF107,fF107,fF107,fF107] rfl rfl (q1q HT_.out z107_0) (fun _ _ _ h => h) (Or.inl ⟨by rfl, ?_⟩) ?_ ?_
                 rotate_left
                 ·intro w'
                  go_simp
                  with_reducible rfl
                 rotate_left
                 ·simp only [Act.put, List.setIfInBounds_toArray, List.set_cons_zero, List.set_cons_succ, i64_w, i32_w]
                  rfl
                 refine pure_ (i := 77) (N := some 157) (v := ?_) (a' := ?_) #[tT107,tT107,tT107,tT107,tT107,tT107,tT107,tT107,tT107,tT107,tT107,tT107,tT107,tT107,tT107,tT107,tT107,tT107,tT107,tT107,tT107,tT107,tT107,tT107,tT107,tT107,tT107,tT107,tT107,tT107,tT107,tT107,tT107,tT107,tT107,tT107,tT107,tT107,tT107,tT107,tT107,tT107,tT107,tT107,tT107,tT107,tT107,tT107,tT107,tT107,tT107,tT107,tT107,tT107,tT107,tT107,tT107,tT107,tT107,tT107,tT107,tT107,tT107,tT107,tT107,tT107,tT107,tT107,tT107,tT107,tT107,tT107,tT107,tT107,tT107,tT107,tT107,tT107,fF107,fF107,fF107,fF107,fF107,fF107,fF107,fF107,fF107,fF107,fF107,fF107,fF107] rfl rfl (q1q HT_.out z107_0) (fun _ _ _ h => h) (Or.inl ⟨by rfl, ?_⟩) ?_ ?_
                 rotate_left
                 ·intro w'
                  go_simp
                  with_reducible rfl
                 rotate_left
                 ·simp only [Act.put, List.setIfInBounds_toArray, List.set_cons_zero, List.set_cons_succ, i64_w, i32_w]
                  rfl
                 refine pure_ (i := 78) (N := some 158) (v := ?_) (a' := ?_) #[tT107,tT107,tT107,tT107,tT107,tT107,tT107,tT107,tT107,tT107,tT107,tT107,tT107,tT107,tT107,tT107,tT107,tT107,tT107,tT107,tT107,tT107,tT107,tT107,tT107,tT107,tT107,tT107,tT107,tT107,tT107,tT107,tT107,tT107,tT107,tT107,tT107,tT107,tT107,tT107,tT107,tT107,tT107,tT107,tT107,tT107,tT107,tT107,tT107,tT107,tT107,tT107,tT107,tT107,tT107,tT107,tT107,tT107,tT107,tT107,tT107,tT107,tT107,tT107,tT107,tT107,tT107,tT107,tT107,tT107,tT107,tT107,tT107,tT107,tT107,tT107,tT107,tT107,tT107,fF107,fF107,fF107,fF107,fF107,fF107,fF107,fF107,fF107,fF107,fF107,fF107] rfl rfl (q1q HT_.out z107_0) (fun _ _ _ h => h) (Or.inl ⟨by rfl, ?_⟩) ?_ ?_
                 rotate_left
                 ·intro w'
                  go_simp
                  with_reducible rfl
                 rotate_left
                 ·simp only [Act.put, List.setIfInBounds_toArray, List.set_cons_zero, List.set_cons_succ, i64_w, i32_w]
                  rfl
                 refine pure_ (i := 80) (N := some 160) (v := ?_) (a' := ?_) #[tT107,tT107,tT107,tT107,tT107,tT107,tT107,tT107,tT107,tT107,tT107,tT107,tT107,tT107,tT107,tT107,tT107,tT107,tT107,tT107,tT107,tT107,tT107,tT107,tT107,tT107,tT107,tT107,tT107,tT107,tT107,tT107,tT107,tT107,tT107,tT107,tT107,tT107,tT107,tT107,tT107,tT107,tT107,tT107,tT107,tT107,tT107,tT107,tT107,tT107,tT107,tT107,tT107,tT107,tT107,tT107,tT107,tT107,tT107,tT107,tT107,tT107,tT107,tT107,tT107,tT107,tT107,tT107,tT107,tT107,tT107,tT107,tT107,tT107,tT107,tT107,tT107,tT107,tT107,fF107,tT107,fF107,fF107,fF107,fF107,fF107,fF107,fF107,fF107,fF107,fF107] rfl rfl (q1q HT_.out z107_0) (fun _ _ _ h => h) (Or.inl ⟨by rfl, ?_⟩) ?_ ?_
                 rotate_left
                 ·intro w'
                  go_simp
                  with_reducible rfl
                 rotate_left
                 ·simp only [Act.put, List.setIfInBounds_toArray, List.set_cons_zero, List.set_cons_succ, i64_w, i32_w]
                  rfl
                 refine pure_ (i := 81) (N := some 161) (v := ?_) (a' := ?_) #[tT107,tT107,tT107,tT107,tT107,tT107,tT107,tT107,tT107,tT107,tT107,tT107,tT107,tT107,tT107,tT107,tT107,tT107,tT107,tT107,tT107,tT107,tT107,tT107,tT107,tT107,tT107,tT107,tT107,tT107,tT107,tT107,tT107,tT107,tT107,tT107,tT107,tT107,tT107,tT107,tT107,tT107,tT107,tT107,tT107,tT107,tT107,tT107,tT107,tT107,tT107,tT107,tT107,tT107,tT107,tT107,tT107,tT107,tT107,tT107,tT107,tT107,tT107,tT107,tT107,tT107,tT107,tT107,tT107,tT107,tT107,tT107,tT107,tT107,tT107,tT107,tT107,tT107,tT107,fF107,tT107,tT107,fF107,fF107,fF107,fF107,fF107,fF107,fF107,fF107,fF107] rfl rfl (q1q HT_.out z107_0) (fun _ _ _ h => h) (Or.inl ⟨by rfl, ?_⟩) ?_ ?_
                 rotate_left
                 ·intro w'
                  go_simp
                  with_reducible rfl
                 rotate_left
                 ·simp only [Act.put, List.setIfInBounds_toArray, List.set_cons_zero, List.set_cons_succ, i64_w, i32_w]
                  rfl
                 refine one_ (i := 79) (N := some 159) #[tT107,tT107,tT107,tT107,tT107,tT107,tT107,tT107,tT107,tT107,tT107,tT107,tT107,tT107,tT107,tT107,tT107,tT107,tT107,tT107,tT107,tT107,tT107,tT107,tT107,tT107,tT107,tT107,tT107,tT107,tT107,tT107,tT107,tT107,tT107,tT107,tT107,tT107,tT107,tT107,tT107,tT107,tT107,tT107,tT107,tT107,tT107,tT107,tT107,tT107,tT107,tT107,tT107,tT107,tT107,tT107,tT107,tT107,tT107,tT107,tT107,tT107,tT107,tT107,tT107,tT107,tT107,tT107,tT107,tT107,tT107,tT107,tT107,tT107,tT107,tT107,tT107,tT107,tT107,tT107,tT107,tT107,fF107,fF107,fF107,fF107,fF107,fF107,fF107,fF107,fF107] rfl rfl (one_of HT_.out z107_0) z107_2 (fun K hK => ?_)
                 refine goes_ Tryz.func27 z107_0 rfl #[.slice A3 l3.length c3, .slice Ao85 t633.length co85] (by rfl) rfl rfl z107_3 ?_
                 with_reducible refine (q1n.calls kj7 _ _ l3 _ _ t633 t666 _ ?side1 ?side2 ?side3 ?side4 A54.out).mono ?_
                 (case side1 => repeat (first | exact (Kd.C_below HR3.out z107_9) | (with_reducible refine Kd.C_alloc ?_ _) | (with_reducible refine Kd.C_drewN ?_ _) | (with_reducible refine Kd.C_drew ?_)))
                 (case side2 => exact HC3.out)
                 (case side3 => repeat (first | exact (Kd.R_reads' HO637.out).2.2 | (with_reducible refine Kd.C_alloc ?_ _) | (with_reducible refine Kd.C_drewN ?_ _) | (with_reducible refine Kd.C_drew ?_)))
                 (case side4 => exact (Kd.R_reads' HO637.out).2.1)
                 rintro e w' ⟨rfl, ⟨nd, rfl⟩⟩
                 refine ⟨_, rfl, ?_⟩
                 refine hK.out _ _ ⟨(qk BK619.out 0).trans rfl, (qk BK619.out 1).trans rfl, (qk BK619.out 2).trans rfl, (qk BK619.out 3).trans rfl, (qk BK648.out 0).trans rfl, (qk BK648.out 1).trans rfl, (qk BK648.out 2).trans rfl, (qk BK648.out 3).trans rfl, (qk BK654.out 0).trans rfl, (qk BK654.out 1).trans rfl, (qk BK654.out 2).trans rfl, (qk BK654.out 3).trans rfl⟩ (fun hHeld => ?_)
                 clear hK K
                 refine norm_ (a' := ?_) ?_ ?_
                 rotate_left
                 ·show Act.put _ (some 159) _ = _
                  simp only [Act.put, List.setIfInBounds_toArray, List.set_cons_zero, List.set_cons_succ, i64_w, i32_w]
                  rfl
                 refine one_ (i := 82) (N := some 162) #[tT107,tT107,tT107,tT107,tT107,tT107,tT107,tT107,tT107,tT107,tT107,tT107,tT107,tT107,tT107,tT107,tT107,tT107,tT107,tT107,tT107,tT107,tT107,tT107,tT107,tT107,tT107,tT107,tT107,tT107,tT107,tT107,tT107,tT107,tT107,tT107,tT107,tT107,tT107,tT107,tT107,tT107,tT107,tT107,tT107,tT107,tT107,tT107,tT107,tT107,tT107,tT107,tT107,tT107,tT107,tT107,tT107,tT107,tT107,tT107,tT107,tT107,tT107,tT107,tT107,tT107,tT107,tT107,tT107,tT107,tT107,tT107,tT107,tT107,tT107,tT107,tT107,tT107,tT107,tT107,tT107,tT107,tT107,fF107,fF107,fF107,fF107,fF107,fF107,fF107,fF107] rfl rfl (one_of HT_.out z107_0) z107_2 (fun K hK => ?_)
                 refine goes_ Tryz.func28 z107_0 rfl #[.slice A3 l3.length c3, .slice Ao85 t633.length co85] (by rfl) rfl rfl z107_3 ?_
                 with_reducible refine (q11.calls kj7 _ _ l3 _ _ t633 t667 _ ?side1 ?side2 ?side3 ?side4 A55.out).mono ?_
                 (case side1 => repeat (first | exact (Kd.C_below HR3.out z107_9) | (with_reducible refine Kd.C_alloc ?_ _) | (with_reducible refine Kd.C_drewN ?_ _) | (with_reducible refine Kd.C_drew ?_)))
                 (case side2 => exact HC3.out)
                 (case side3 => repeat (first | exact (Kd.R_reads' HO637.out).2.2 | (with_reducible refine Kd.C_alloc ?_ _) | (with_reducible refine Kd.C_drewN ?_ _) | (with_reducible refine Kd.C_drew ?_)))
                 (case side4 => exact (Kd.R_reads' HO637.out).2.1)
                 rintro e w' ⟨rfl, ⟨nd, rfl⟩⟩
                 refine ⟨_, rfl, ?_⟩
                 refine hK.out _ _ ⟨(qk BK619.out 0).trans rfl, (qk BK619.out 1).trans rfl, (qk BK619.out 2).trans rfl, (qk BK619.out 3).trans rfl, (qk BK648.out 0).trans rfl, (qk BK648.out 1).trans rfl, (qk BK648.out 2).trans rfl, (qk BK648.out 3).trans rfl, (qk BK654.out 0).trans rfl, (qk BK654.out 1).trans rfl, (qk BK654.out 2).trans rfl, (qk BK654.out 3).trans rfl⟩ (fun hHeld => ?_)
                 clear hK K
                 refine norm_ (a' := ?_) ?_ ?_
                 rotate_left
                 ·show Act.put _ (some 162) _ = _
                  simp only [Act.put, List.setIfInBounds_toArray, List.set_cons_zero, List.set_cons_succ, i64_w, i32_w]
                  rfl
                 refine pure_ (i := 83) (N := some 163) (v := ?_) (a' := ?_) #[tT107,tT107,tT107,tT107,tT107,tT107,tT107,tT107,tT107,tT107,tT107,tT107,tT107,tT107,tT107,tT107,tT107,tT107,tT107,tT107,tT107,tT107,tT107,tT107,tT107,tT107,tT107,tT107,tT107,tT107,tT107,tT107,tT107,tT107,tT107,tT107,tT107,tT107,tT107,tT107,tT107,tT107,tT107,tT107,tT107,tT107,tT107,tT107,tT107,tT107,tT107,tT107,tT107,tT107,tT107,tT107,tT107,tT107,tT107,tT107,tT107,tT107,tT107,tT107,tT107,tT107,tT107,tT107,tT107,tT107,tT107,tT107,tT107,tT107,tT107,tT107,tT107,tT107,tT107,tT107,tT107,tT107,tT107,tT107,fF107,fF107,fF107,fF107,fF107,fF107,fF107] rfl rfl (q1q HT_.out z107_0) (fun _ _ _ h => h) (Or.inl ⟨by rfl, ?_⟩) ?_ ?_
                 rotate_left
                 ·intro w'
                  go_simp
                  with_reducible rfl
                 rotate_left
                 ·simp only [Act.put, List.setIfInBounds_toArray, List.set_cons_zero, List.set_cons_succ, i64_w, i32_w]
                  rfl
                 refine pure_ (i := 84) (N := some 164) (v := ?_) (a' := ?_) #[tT107,tT107,tT107,tT107,tT107,tT107,tT107,tT107,tT107,tT107,tT107,tT107,tT107,tT107,tT107,tT107,tT107,tT107,tT107,tT107,tT107,tT107,tT107,tT107,tT107,tT107,tT107,tT107,tT107,tT107,tT107,tT107,tT107,tT107,tT107,tT107,tT107,tT107,tT107,tT107,tT107,tT107,tT107,tT107,tT107,tT107,tT107,tT107,tT107,tT107,tT107,tT107,tT107,tT107,tT107,tT107,tT107,tT107,tT107,tT107,tT107,tT107,tT107,tT107,tT107,tT107,tT107,tT107,tT107,tT107,tT107,tT107,tT107,tT107,tT107,tT107,tT107,tT107,tT107,tT107,tT107,tT107,tT107,tT107,tT107,fF107,fF107,fF107,fF107,fF107,fF107] rfl rfl (q1q HT_.out z107_0) (fun _ _ _ h => h) (Or.inl ⟨by rfl, ?_⟩) ?_ ?_
                 rotate_left
                 ·intro w'
                  go_simp
                  with_reducible rfl
                 rotate_left
                 ·simp only [Act.put, List.setIfInBounds_toArray, List.set_cons_zero, List.set_cons_succ, i64_w, i32_w]
                  rfl
                 refine pure_ (i := 85) (N := some 165) (v := ?_) (a' := ?_) #[tT107,tT107,tT107,tT107,tT107,tT107,tT107,tT107,tT107,tT107,tT107,tT107,tT107,tT107,tT107,tT107,tT107,tT107,tT107,tT107,tT107,tT107,tT107,tT107,tT107,tT107,tT107,tT107,tT107,tT107,tT107,tT107,tT107,tT107,tT107,tT107,tT107,tT107,tT107,tT107,tT107,tT107,tT107,tT107,tT107,tT107,tT107,tT107,tT107,tT107,tT107,tT107,tT107,tT107,tT107,tT107,tT107,tT107,tT107,tT107,tT107,tT107,tT107,tT107,tT107,tT107,tT107,tT107,tT107,tT107,tT107,tT107,tT107,tT107,tT107,tT107,tT107,tT107,tT107,tT107,tT107,tT107,tT107,tT107,tT107,tT107,fF107,fF107,fF107,fF107,fF107] rfl rfl (q1q HT_.out z107_0) (fun _ _ _ h => h) (Or.inl ⟨by rfl, ?_⟩) ?_ ?_
                 rotate_left
                 ·intro w'
                  go_simp
                  with_reducible rfl
                 rotate_left
                 ·simp only [Act.put, List.setIfInBounds_toArray, List.set_cons_zero, List.set_cons_succ, i64_w, i32_w]
                  rfl
                 refine pure_ (i := 86) (N := some 166) (v := ?_) (a' := ?_) #[tT107,tT107,tT107,tT107,tT107,tT107,tT107,tT107,tT107,tT107,tT107,tT107,tT107,tT107,tT107,tT107,tT107,tT107,tT107,tT107,tT107,tT107,tT107,tT107,tT107,tT107,tT107,tT107,tT107,tT107,tT107,tT107,tT107,tT107,tT107,tT107,tT107,tT107,tT107,tT107,tT107,tT107,tT107,tT107,tT107,tT107,tT107,tT107,tT107,tT107,tT107,tT107,tT107,tT107,tT107,tT107,tT107,tT107,tT107,tT107,tT107,tT107,tT107,tT107,tT107,tT107,tT107,tT107,tT107,tT107,tT107,tT107,tT107,tT107,tT107,tT107,tT107,tT107,tT107,tT107,tT107,tT107,tT107,tT107,tT107,tT107,tT107,fF107,fF107,fF107,fF107] rfl rfl (q1q HT_.out z107_0) (fun _ _ _ h => h) (Or.inl ⟨by rfl, ?_⟩) ?_ ?_
                 rotate_left
                 ·intro w'
                  go_simp
                  with_reducible rfl
                 rotate_left
                 ·simp only [Act.put, List.setIfInBounds_toArray, List.set_cons_zero, List.set_cons_succ, i64_w, i32_w]
                  rfl
                 refine pure_ (i := 87) (N := some 167) (v := ?_) (a' := ?_) #[tT107,tT107,tT107,tT107,tT107,tT107,tT107,tT107,tT107,tT107,tT107,tT107,tT107,tT107,tT107,tT107,tT107,tT107,tT107,tT107,tT107,tT107,tT107,tT107,tT107,tT107,tT107,tT107,tT107,tT107,tT107,tT107,tT107,tT107,tT107,tT107,tT107,tT107,tT107,tT107,tT107,tT107,tT107,tT107,tT107,tT107,tT107,tT107,tT107,tT107,tT107,tT107,tT107,tT107,tT107,tT107,tT107,tT107,tT107,tT107,tT107,tT107,tT107,tT107,tT107,tT107,tT107,tT107,tT107,tT107,tT107,tT107,tT107,tT107,tT107,tT107,tT107,tT107,tT107,tT107,tT107,tT107,tT107,tT107,tT107,tT107,tT107,tT107,fF107,fF107,fF107] rfl rfl (q1q HT_.out z107_0) (fun _ _ _ h => h) (Or.inl ⟨by rfl, ?_⟩) ?_ ?_
                 rotate_left
                 ·intro w'
                  go_simp
                  with_reducible rfl
                 rotate_left
                 ·simp only [Act.put, List.setIfInBounds_toArray, List.set_cons_zero, List.set_cons_succ, i64_w, i32_w]
                  rfl
                 refine one_ (i := 88) (N := some 168) #[tT107,tT107,tT107,tT107,tT107,tT107,tT107,tT107,tT107,tT107,tT107,tT107,tT107,tT107,tT107,tT107,tT107,tT107,tT107,tT107,tT107,tT107,tT107,tT107,tT107,tT107,tT107,tT107,tT107,tT107,tT107,tT107,tT107,tT107,tT107,tT107,tT107,tT107,tT107,tT107,tT107,tT107,tT107,tT107,tT107,tT107,tT107,tT107,tT107,tT107,tT107,tT107,tT107,tT107,tT107,tT107,tT107,tT107,tT107,tT107,tT107,tT107,tT107,tT107,tT107,tT107,tT107,tT107,tT107,tT107,tT107,tT107,tT107,tT107,tT107,tT107,tT107,tT107,tT107,tT107,tT107,tT107,tT107,tT107,tT107,tT107,tT107,tT107,tT107,fF107,fF107] rfl rfl (one_of HT_.out z107_0) z107_2 (fun K hK => ?_)
                 refine goes_ Tryz.func27 z107_0 rfl #[.slice Ao85 t633.length co85, .slice Ao86 t638.length co86] (by rfl) rfl rfl z107_3 ?_
                 with_reducible refine (q1n.calls kj7 _ _ t633 _ _ t638 t668 _ ?side1 ?side2 ?side3 ?side4 A57.out).mono ?_
                 (case side1 => repeat (first | exact (Kd.R_reads' HO637.out).2.2 | (with_reducible refine Kd.C_alloc ?_ _) | (with_reducible refine Kd.C_drewN ?_ _) | (with_reducible refine Kd.C_drew ?_)))
                 (case side2 => exact (Kd.R_reads' HO637.out).2.1)
                 (case side3 => repeat (first | exact (Kd.R_reads' HO642.out).2.2 | (with_reducible refine Kd.C_alloc ?_ _) | (with_reducible refine Kd.C_drewN ?_ _) | (with_reducible refine Kd.C_drew ?_)))
                 (case side4 => exact (Kd.R_reads' HO642.out).2.1)
                 rintro e w' ⟨rfl, ⟨nd, rfl⟩⟩
                 refine ⟨_, rfl, ?_⟩
                 refine hK.out _ _ ⟨(qk BK619.out 0).trans rfl, (qk BK619.out 1).trans rfl, (qk BK619.out 2).trans rfl, (qk BK619.out 3).trans rfl, (qk BK648.out 0).trans rfl, (qk BK648.out 1).trans rfl, (qk BK648.out 2).trans rfl, (qk BK648.out 3).trans rfl, (qk BK654.out 0).trans rfl, (qk BK654.out 1).trans rfl, (qk BK654.out 2).trans rfl, (qk BK654.out 3).trans rfl⟩ (fun hHeld => ?_)
                 clear hK K
                 refine norm_ (a' := ?_) ?_ ?_
                 rotate_left
                 ·show Act.put _ (some 168) _ = _
                  simp only [Act.put, List.setIfInBounds_toArray, List.set_cons_zero, List.set_cons_succ, i64_w, i32_w]
                  rfl
                 refine pure_ (i := 89) (N := some 169) (v := ?_) (a' := ?_) #[tT107,tT107,tT107,tT107,tT107,tT107,tT107,tT107,tT107,tT107,tT107,tT107,tT107,tT107,tT107,tT107,tT107,tT107,tT107,tT107,tT107,tT107,tT107,tT107,tT107,tT107,tT107,tT107,tT107,tT107,tT107,tT107,tT107,tT107,tT107,tT107,tT107,tT107,tT107,tT107,tT107,tT107,tT107,tT107,tT107,tT107,tT107,tT107,tT107,tT107,tT107,tT107,tT107,tT107,tT107,tT107,tT107,tT107,tT107,tT107,tT107,tT107,tT107,tT107,tT107,tT107,tT107,tT107,tT107,tT107,tT107,tT107,tT107,tT107,tT107,tT107,tT107,tT107,tT107,tT107,tT107,tT107,tT107,tT107,tT107,tT107,tT107,tT107,tT107,tT107,fF107] rfl rfl (q1q HT_.out z107_0) (fun _ _ _ h => h) (Or.inl ⟨by rfl, ?_⟩) ?_ ?_
                 rotate_left
                 ·intro w'
                  go_simp
                  with_reducible rfl
                 rotate_left
                 ·simp only [Act.put, List.setIfInBounds_toArray, List.set_cons_zero, List.set_cons_succ, i64_w, i32_w]
                  rfl
                 refine pure_ (i := 90) (N := some 10) (v := ?_) (a' := ?_) #[tT107,tT107,tT107,tT107,tT107,tT107,tT107,tT107,tT107,tT107,tT107,tT107,tT107,tT107,tT107,tT107,tT107,tT107,tT107,tT107,tT107,tT107,tT107,tT107,tT107,tT107,tT107,tT107,tT107,tT107,tT107,tT107,tT107,tT107,tT107,tT107,tT107,tT107,tT107,tT107,tT107,tT107,tT107,tT107,tT107,tT107,tT107,tT107,tT107,tT107,tT107,tT107,tT107,tT107,tT107,tT107,tT107,tT107,tT107,tT107,tT107,tT107,tT107,tT107,tT107,tT107,tT107,tT107,tT107,tT107,tT107,tT107,tT107,tT107,tT107,tT107,tT107,tT107,tT107,tT107,tT107,tT107,tT107,tT107,tT107,tT107,tT107,tT107,tT107,tT107,tT107] rfl rfl (q1q HT_.out z107_0) (fun _ _ _ h => h) (Or.inl ⟨by rfl, ?_⟩) ?_ ?_
                 rotate_left
                 ·intro w'
                  go_simp
                  with_reducible rfl
                 rotate_left
                 ·simp only [Act.put, List.setIfInBounds_toArray, List.set_cons_zero, List.set_cons_succ, i64_w, i32_w]
                  rfl
                 refine done_ (done_of HT_.out z107_0) ?_
                 try go_wp2
                 go_ret
                 exact ⟨(by first | rfl | (simp [qq, qp] <;> rfl) | (simp [*, qq, qp] <;> rfl)), z107_9⟩
                rw [if_neg c56] at H
                have c56b0 : (t666 == t667) = false := by simpa using c56
                (try (have c56b1 : decide (t666 = t667) = false := by simpa using c56))
                (try (have c56b2 : (t666 == t667) = false := by simpa using c56))
                (try (have c56b3 : ¬ (t666 = t667) := by simpa using c56))
                clear c56
                exact absurd ((Option.some.inj H).trans HT_.out) z107_2
               rw [if_neg c53] at H
               have c53b0 : (t647 == t653) = false := by simpa using c53
               (try (have c53b1 : decide (t647 = t653) = false := by simpa using c53))
               (try (have c53b2 : (t647 == t653) = false := by simpa using c53))
               (try (have c53b3 : ¬ (t647 = t653) := by simpa using c53))
               clear c53
               exact absurd ((Option.some.inj H).trans HT_.out) z107_2
              rw [if_neg c52] at H
              have c52b0 : (t643 == t649 && (t644 == t650 && (t645.toList == t651.toList && (t646.toList == t652.toList)))) = false := by simpa using c52
              (try (have c52b1 : decide (t643 = t649 && (t644 == t650 && (t645.toList == t651.toList && (t646.toList == t652.toList)))) = false := by simpa using c52))
              (try (have c52b2 : (t643 == t649 && (t644 == t650 && (t645.toList == t651.toList && (t646.toList == t652.toList)))) = false := by simpa using c52))
              (try (have c52b3 : ¬ (t643 = t649 && (t644 == t650 && (t645.toList == t651.toList && (t646.toList == t652.toList)))) := by simpa using c52))
              clear c52
              exact absurd ((Option.some.inj H).trans HT_.out) z107_2
             rw [if_neg c51] at H
             have c51b0 : (t635 == t640) = false := beq_eq_false_iff_ne.mpr c51
             have c51b1 : (t635 != t640) = true := bne_iff_ne.mpr c51
             exact absurd ((Option.some.inj H).trans HT_.out) z107_2
            rw [if_neg c50] at H
            have c50b0 : (t634 == t639) = false := beq_eq_false_iff_ne.mpr c50
            have c50b1 : (t634 != t639) = true := bne_iff_ne.mpr c50
            exact absurd ((Option.some.inj H).trans HT_.out) z107_2
           replace c49 := Bool.eq_false_iff.mpr c49
           subst c49
           rw [if_neg (show ¬ (false = true) by decide)] at H
           exact absurd ((Option.some.inj H).trans HT_.out) z107_2
          rw [if_neg c47] at H
          have c47b0 : (t630 == t632) = false := beq_eq_false_iff_ne.mpr c47
          have c47b1 : (t630 != t632) = true := bne_iff_ne.mpr c47
          exact absurd ((Option.some.inj H).trans HT_.out) z107_2
         rw [if_neg c46] at H
         have c46b0 : (t629.toList == t631.toList) = false := beq_eq_false_iff_ne.mpr c46
         have c46b1 : (t629.toList != t631.toList) = true := bne_iff_ne.mpr c46
         exact absurd ((Option.some.inj H).trans HT_.out) z107_2
        rw [if_neg c45] at H
        have c45b0 : (t663 == t664) = false := beq_eq_false_iff_ne.mpr c45
        have c45b1 : (t663 != t664) = true := bne_iff_ne.mpr c45
        exact absurd ((Option.some.inj H).trans HT_.out) z107_2
       rw [if_neg c42] at H
       have c42b0 : (t661 == t662) = false := beq_eq_false_iff_ne.mpr c42
       have c42b1 : (t661 != t662) = true := bne_iff_ne.mpr c42
       exact absurd ((Option.some.inj H).trans HT_.out) z107_2
      rw [if_neg c39] at H
      have c39b0 : (t659 == t660) = false := by simpa using c39
      (try (have c39b1 : decide (t659 = t660) = false := by simpa using c39))
      (try (have c39b2 : (t659 == t660) = false := by simpa using c39))
      (try (have c39b3 : ¬ (t659 = t660) := by simpa using c39))
      clear c39
      exact absurd ((Option.some.inj H).trans HT_.out) z107_2
     rw [if_neg c36] at H
     have c36b0 : (t657 == t658) = false := by simpa using c36
     (try (have c36b1 : decide (t657 = t658) = false := by simpa using c36))
     (try (have c36b2 : (t657 == t658) = false := by simpa using c36))
     (try (have c36b3 : ¬ (t657 = t658) := by simpa using c36))
     clear c36
     exact absurd ((Option.some.inj H).trans HT_.out) z107_2
    rw [if_neg c33] at H
    have c33b0 : (t655 == t656) = false := beq_eq_false_iff_ne.mpr c33
    have c33b1 : (t655 != t656) = true := bne_iff_ne.mpr c33
    exact absurd ((Option.some.inj H).trans HT_.out) z107_2
 replace c7 := Bool.eq_false_iff.mpr c7
 subst c7
 rw [if_neg (show ¬ (false = true) by decide)] at H
 exact absurd ((Option.some.inj H).trans HT_.out) z107_2

end Go.Proofs.YtngmipfobcaojaaGreat.HA
end

-- YtngmipfobcaojaaGreatHAhRefLook
section
namespace Go.Proofs.YtngmipfobcaojaaGreat.HA
open Go.RowKit Go.Proofs.YtngmipfobcaojaaGreatW.PrintWords Go.Proofs.YtngmipfobcaojaaGreatW.PrintLast Go.Proofs.YtngmipfobcaojaaGreatW.PrintMore
theorem has_of (ru : Int × Int × Int × Int) (ks : List Int) (h : ∀ j : Fin 17, ks.contains ((j.val : Nat) : Int) = hasS ru ((j.val : Nat) : Int)) (h1 : ∀ x ∈ ks, 1 ≤ x ∧ x ≤ 16) (kind : Int) : ks.contains kind = hasS ru kind := by
  by_cases hk : 1 ≤ kind ∧ kind ≤ 16
  · have := h ⟨kind.toNat, by omega⟩
    simp only [] at this
    rwa [show ((kind.toNat : Nat) : Int) = kind by omega] at this
  · have e1 : hasS ru kind = false := by
      unfold hasS
      by_cases h2 : 1 ≤ kind
      · rw [decide_eq_false (show ¬ kind ≤ 16 by omega)]; simp
      · rw [decide_eq_false h2]; simp
    rw [e1]
    cases e : ks.contains kind with
    | false => rfl
    | true => exact absurd (h1 kind (List.contains_iff_mem.1 e)) hk
def LookAt (k : Nat) (id : Int) : Prop := ∃ ks : List Int, qn.f (k + 5) id = some ((ruleOf id).1, ks, (ruleOf id).2.2.1, (ruleOf id).2.2.2) ∧ (∀ kind, ks.contains kind = hasS (ruleOf id) kind) ∧ ks.length ≤ 20
theorem look_1 (k : Nat) : LookAt k 1 := ⟨[3, 16], by kernel_rfl, has_of _ _ (by decide +kernel) (by decide), by decide⟩
theorem look_2 (k : Nat) : LookAt k 2 := ⟨[3, 16], by kernel_rfl, has_of _ _ (by decide +kernel) (by decide), by decide⟩
theorem look_3 (k : Nat) : LookAt k 3 := ⟨[3, 16], by kernel_rfl, has_of _ _ (by decide +kernel) (by decide), by decide⟩
theorem look_8 (k : Nat) : LookAt k 8 := ⟨[3, 16], by kernel_rfl, has_of _ _ (by decide +kernel) (by decide), by decide⟩
theorem look_9 (k : Nat) : LookAt k 9 := ⟨[3, 16], by kernel_rfl, has_of _ _ (by decide +kernel) (by decide), by decide⟩
theorem look_11 (k : Nat) : LookAt k 11 := ⟨[3, 8], by kernel_rfl, has_of _ _ (by decide +kernel) (by decide), by decide⟩
theorem look_17 (k : Nat) : LookAt k 17 := ⟨[1, 2, 14], by kernel_rfl, has_of _ _ (by decide +kernel) (by decide), by decide⟩
theorem look_18 (k : Nat) : LookAt k 18 := ⟨[2], by kernel_rfl, has_of _ _ (by decide +kernel) (by decide), by decide⟩
theorem look_19 (k : Nat) : LookAt k 19 := ⟨[2], by kernel_rfl, has_of _ _ (by decide +kernel) (by decide), by decide⟩
theorem look_21 (k : Nat) : LookAt k 21 := ⟨[1, 2, 15], by kernel_rfl, has_of _ _ (by decide +kernel) (by decide), by decide⟩
theorem look_22 (k : Nat) : LookAt k 22 := ⟨[1, 2, 15], by kernel_rfl, has_of _ _ (by decide +kernel) (by decide), by decide⟩
theorem look_23 (k : Nat) : LookAt k 23 := ⟨[1], by kernel_rfl, has_of _ _ (by decide +kernel) (by decide), by decide⟩
theorem look_24 (k : Nat) : LookAt k 24 := ⟨[16], by kernel_rfl, has_of _ _ (by decide +kernel) (by decide), by decide⟩
theorem look_25 (k : Nat) : LookAt k 25 := ⟨[1], by kernel_rfl, has_of _ _ (by decide +kernel) (by decide), by decide⟩
theorem look_26 (k : Nat) : LookAt k 26 := ⟨[2], by kernel_rfl, has_of _ _ (by decide +kernel) (by decide), by decide⟩
theorem look_28 (k : Nat) : LookAt k 28 := ⟨[2, 14], by kernel_rfl, has_of _ _ (by decide +kernel) (by decide), by decide⟩
theorem look_31 (k : Nat) : LookAt k 31 := ⟨[2, 4, 5, 6, 7, 9, 11, 14, 15], by kernel_rfl, has_of _ _ (by decide +kernel) (by decide), by decide⟩
theorem look_33 (k : Nat) : LookAt k 33 := ⟨[1, 2], by kernel_rfl, has_of _ _ (by decide +kernel) (by decide), by decide⟩
theorem look_34 (k : Nat) : LookAt k 34 := ⟨[1, 2], by kernel_rfl, has_of _ _ (by decide +kernel) (by decide), by decide⟩
theorem look_35 (k : Nat) : LookAt k 35 := ⟨[3], by kernel_rfl, has_of _ _ (by decide +kernel) (by decide), by decide⟩
theorem look_36 (k : Nat) : LookAt k 36 := ⟨[2], by kernel_rfl, has_of _ _ (by decide +kernel) (by decide), by decide⟩
theorem look_37 (k : Nat) : LookAt k 37 := ⟨[2], by kernel_rfl, has_of _ _ (by decide +kernel) (by decide), by decide⟩
theorem look_38 (k : Nat) : LookAt k 38 := ⟨[1, 2, 3, 4, 5, 6, 7, 8, 9, 10, 11, 14, 15, 16], by kernel_rfl, has_of _ _ (by decide +kernel) (by decide), by decide⟩
theorem look_39 (k : Nat) : LookAt k 39 := ⟨[1, 2], by kernel_rfl, has_of _ _ (by decide +kernel) (by decide), by decide⟩
theorem look_40 (k : Nat) : LookAt k 40 := ⟨[2], by kernel_rfl, has_of _ _ (by decide +kernel) (by decide), by decide⟩
theorem look_41 (k : Nat) : LookAt k 41 := ⟨[2], by kernel_rfl, has_of _ _ (by decide +kernel) (by decide), by decide⟩
theorem look_42 (k : Nat) : LookAt k 42 := ⟨[2], by kernel_rfl, has_of _ _ (by decide +kernel) (by decide), by decide⟩
theorem look_none (k : Nat) (id : Int) (h1 : ¬ id = 1) (h2 : ¬ id = 2) (h3 : ¬ id = 3) (h8 : ¬ id = 8) (h9 : ¬ id = 9) (h11 : ¬ id = 11) (h17 : ¬ id = 17) (h18 : ¬ id = 18) (h19 : ¬ id = 19) (h21 : ¬ id = 21) (h22 : ¬ id = 22) (h23 : ¬ id = 23) (h24 : ¬ id = 24) (h25 : ¬ id = 25) (h26 : ¬ id = 26) (h28 : ¬ id = 28) (h31 : ¬ id = 31) (h33 : ¬ id = 33) (h34 : ¬ id = 34) (h35 : ¬ id = 35) (h36 : ¬ id = 36) (h37 : ¬ id = 37) (h38 : ¬ id = 38) (h39 : ¬ id = 39) (h40 : ¬ id = 40) (h41 : ¬ id = 41) (h42 : ¬ id = 42) : LookAt k id := by
  have e : ruleOf id = (0, 0, 0, 0) := by
    unfold ruleOf ruleTab
    simp [ruleFind, h1, h2, h3, h8, h9, h11, h17, h18, h19, h21, h22, h23, h24, h25, h26, h28, h31, h33, h34, h35, h36, h37, h38, h39, h40, h41, h42]
  refine ⟨[], ?_, has_of _ _ (by rw [e]; decide +kernel) (by simp), by simp⟩
  rw [e]
  unfold qn.f
  rw [if_neg h1, if_neg h2, if_neg h3]
  rw [show (id == 8) = false from beq_eq_false_iff_ne.2 h8, show k + 5 = (k + 4) + 1 from rfl, qn.j0.eq_def]
  simp only [Bool.false_eq_true, if_false]
  rw [if_neg h9, if_neg h11, if_neg h17, if_neg h18, show (id == 26) = false from beq_eq_false_iff_ne.2 h26, show k + 4 = (k + 3) + 1 from rfl, qn.j1.eq_def]
  simp only [Bool.false_eq_true, if_false]
  rw [if_neg h19, if_neg h21, if_neg h22, if_neg h23, show (id == 25) = false from beq_eq_false_iff_ne.2 h25, show k + 3 = (k + 2) + 1 from rfl, qn.j2.eq_def]
  simp only [Bool.false_eq_true, if_false]
  rw [if_neg h24, if_neg h28, if_neg h31, if_neg h33, if_neg h34, if_neg h35, if_neg h36, if_neg h37, if_neg h40, if_neg h41, show (id == 42) = false from beq_eq_false_iff_ne.2 h42, show k + 2 = (k + 1) + 1 from rfl, qn.j3.eq_def]
  simp only [Bool.false_eq_true, if_false]
  rw [if_neg h38, if_neg h39]
theorem look_at (k : Nat) (id : Int) : LookAt k id := by
  by_cases h1 : id = 1
  · subst h1; exact look_1 k
  by_cases h2 : id = 2
  · subst h2; exact look_2 k
  by_cases h3 : id = 3
  · subst h3; exact look_3 k
  by_cases h8 : id = 8
  · subst h8; exact look_8 k
  by_cases h9 : id = 9
  · subst h9; exact look_9 k
  by_cases h11 : id = 11
  · subst h11; exact look_11 k
  by_cases h17 : id = 17
  · subst h17; exact look_17 k
  by_cases h18 : id = 18
  · subst h18; exact look_18 k
  by_cases h19 : id = 19
  · subst h19; exact look_19 k
  by_cases h21 : id = 21
  · subst h21; exact look_21 k
  by_cases h22 : id = 22
  · subst h22; exact look_22 k
  by_cases h23 : id = 23
  · subst h23; exact look_23 k
  by_cases h24 : id = 24
  · subst h24; exact look_24 k
  by_cases h25 : id = 25
  · subst h25; exact look_25 k
  by_cases h26 : id = 26
  · subst h26; exact look_26 k
  by_cases h28 : id = 28
  · subst h28; exact look_28 k
  by_cases h31 : id = 31
  · subst h31; exact look_31 k
  by_cases h33 : id = 33
  · subst h33; exact look_33 k
  by_cases h34 : id = 34
  · subst h34; exact look_34 k
  by_cases h35 : id = 35
  · subst h35; exact look_35 k
  by_cases h36 : id = 36
  · subst h36; exact look_36 k
  by_cases h37 : id = 37
  · subst h37; exact look_37 k
  by_cases h38 : id = 38
  · subst h38; exact look_38 k
  by_cases h39 : id = 39
  · subst h39; exact look_39 k
  by_cases h40 : id = 40
  · subst h40; exact look_40 k
  by_cases h41 : id = 41
  · subst h41; exact look_41 k
  by_cases h42 : id = 42
  · subst h42; exact look_42 k
  exact look_none k id h1 h2 h3 h8 h9 h11 h17 h18 h19 h21 h22 h23 h24 h25 h26 h28 h31 h33 h34 h35 h36 h37 h38 h39 h40 h41 h42
end Go.Proofs.YtngmipfobcaojaaGreat.HA
end
