/- A part of the proof: texts that were built one by one, laid together. -/
import Derived.Test.YtngmipfobcaojaaCPublishTopics1
import Derived.Test.YtngmipfobcaojaaCPublishTopics2
import Derived.Test.YtngmipfobcaojaaCPublishTopics4
set_option linter.unusedVariables false
set_option linter.unusedSimpArgs false
-- YtngmipfobcaojaaHA60
section
namespace Go.Proofs.Ytngmipfobcaojaa.HA
open Go.RowKit Go.Proofs.YtngmipfobcaojaaW.PrintWords Go.Proofs.YtngmipfobcaojaaW.PrintLast Go.Proofs.YtngmipfobcaojaaW.PrintMore
attribute [local go_sem] max2_int min2_int max_two min_two max_three min_three max_four min_four

theorem publish_Body.gl {P : Program} {ops : Array Oper} {rest : List Oper} {o : Oper} {a : Act} {Q : Exit → Act → World → Prop} {W : World} {x : Operand} (_ho : o.op = .load 48 x) (h : wpList P ops Q (o :: rest) a W) : wpList P ops Q (o :: rest) a W := h
def publish_Body.f (k : Nat) (a0 : Int) (a1_0 : Int) (a1_1 : Bool) (a1_2 : Bool) (a1_3 : Int) (a1_4 : Int) (a1_5 : ByteArray) (a1_6 : ByteArray) (a1_7 : Bool) (a1_8 : Int) (a1_9 : ByteArray) (a1_10 : Bool) (a1_11 : ByteArray) (a1_12 : Bool) (a1_13 : ByteArray) (a1_14 : Bool) (a1_15 : ByteArray) (a1_16 : ByteArray) (a1_17 : Int) (a1_18 : Bool) (l1_19 : List (S27)) (a1_20 : Bool) (a1_21 : Int) (l1_22 : List Int) (l1_23 : List (S119)) (l1_24 : List (S27)) : Option (ByteArray × Int) := (publish_Valid.f k a0 a1_0 a1_1 a1_2 a1_3 a1_4 a1_5 a1_6 a1_7 a1_8 a1_9 a1_10 a1_11 a1_12 a1_13 a1_14 a1_15 a1_16 a1_17 a1_18 l1_19 a1_20 a1_21 l1_22 l1_23 l1_24).bind fun t225 => (if t225 = 0 then ((ustring_Text.f k a1_5).bind fun bt226 => (if a1_3 = 0 then (if a0 = 5 then ((prop_Bytes.f a1_0 l1_24).bind fun bt228 => (if bt226.1.size + bt228.1.size ≤ 9223372036854775807 then (if (bt226.1 ++ bt228.1).size + a1_6.size ≤ 9223372036854775807 then (some ((bt226.1 ++ bt228.1) ++ a1_6, 0)) else (none)) else (none))) else (if bt226.1.size + a1_6.size ≤ 9223372036854775807 then (some (bt226.1 ++ a1_6, 0)) else (none))) else ((octet_Put.f k (IntKind.u64.wrap (a1_4)) 2).bind fun t230 => (if bt226.1.size + t230.size ≤ 9223372036854775807 then (if a0 = 5 then ((prop_Bytes.f a1_0 l1_24).bind fun bt231 => (if (bt226.1 ++ t230).size + bt231.1.size ≤ 9223372036854775807 then (if ((bt226.1 ++ t230) ++ bt231.1).size + a1_6.size ≤ 9223372036854775807 then (some (((bt226.1 ++ t230) ++ bt231.1) ++ a1_6, 0)) else (none)) else (none))) else (if (bt226.1 ++ t230).size + a1_6.size ≤ 9223372036854775807 then (some ((bt226.1 ++ t230) ++ a1_6, 0)) else (none))) else (none))))) else (some ((⟨#[]⟩ : ByteArray), t225)))
set_option maxHeartbeats 8000000 in
set_option maxRecDepth 100000 in
theorem publish_Body.calls (k : Nat) (a0 : Int) (a1_0 : Int) (a1_1 : Bool) (a1_2 : Bool) (a1_3 : Int) (a1_4 : Int) (a1_5 : ByteArray) (a1_6 : ByteArray) (a1_7 : Bool) (a1_8 : Int) (a1_9 : ByteArray) (a1_10 : Bool) (a1_11 : ByteArray) (a1_12 : Bool) (a1_13 : ByteArray) (a1_14 : Bool) (a1_15 : ByteArray) (a1_16 : ByteArray) (a1_17 : Int) (a1_18 : Bool) (A1_19 : Option Addr) (c1_19 : Nat) (l1_19 : List (S27)) (a1_20 : Bool) (a1_21 : Int) (A1_22 : Option Addr) (c1_22 : Nat) (l1_22 : List Int) (A1_23 : Option Addr) (c1_23 : Nat) (l1_23 : List (S119)) (A1_24 : Option Addr) (c1_24 : Nat) (l1_24 : List (S27)) (r1 : ByteArray) (r2 : Int) (w : World) (hr1_19 : Kd.C k27 w A1_19 l1_19.length l1_19) (hc1_19 : l1_19.length ≤ c1_19) (hr1_22 : Kd.C (Kd.int .i64) w A1_22 l1_22.length l1_22) (hc1_22 : l1_22.length ≤ c1_22) (hr1_23 : Kd.C k119 w A1_23 l1_23.length l1_23) (hc1_23 : l1_23.length ≤ c1_23) (hr1_24 : Kd.C k27 w A1_24 l1_24.length l1_24) (hc1_24 : l1_24.length ≤ c1_24) (h : publish_Body.f k a0 a1_0 a1_1 a1_2 a1_3 a1_4 a1_5 a1_6 a1_7 a1_8 a1_9 a1_10 a1_11 a1_12 a1_13 a1_14 a1_15 a1_16 a1_17 a1_18 l1_19 a1_20 a1_21 l1_22 l1_23 l1_24 = some (r1, r2)) :
    Calls Try.prog 26 #[.int .i64 a0, .agg #[.int .i64 a1_0, .bool a1_1, .bool a1_2, .int .i64 a1_3, .int .i64 a1_4, .string a1_5, .string a1_6, .bool a1_7, .int .i64 a1_8, .string a1_9, .bool a1_10, .string a1_11, .bool a1_12, .string a1_13, .bool a1_14, .string a1_15, .string a1_16, .int .i64 a1_17, .bool a1_18, .slice A1_19 l1_19.length c1_19, .bool a1_20, .int .i64 a1_21, .slice A1_22 l1_22.length c1_22, .slice A1_23 l1_23.length c1_23, .slice A1_24 l1_24.length c1_24]] w fun e w' => e = .returned (.tuple #[.string r1, .int .i64 r2]) ∧ Below w.heap.size w w' := by
  have hu48 := Try.underlying48
  have HR1_19 := Aside0.mk hr1_19
  have HC1_19 := Aside0.mk hc1_19
  clear hr1_19 hc1_19
  have HR1_22 := Aside0.mk hr1_22
  have HC1_22 := Aside0.mk hc1_22
  clear hr1_22 hc1_22
  have HR1_23 := Aside0.mk hr1_23
  have HC1_23 := Aside0.mk hc1_23
  clear hr1_23 hc1_23
  have HR1_24 := Aside0.mk hr1_24
  have HC1_24 := Aside0.mk hc1_24
  clear hr1_24 hc1_24
  have HB := Aside0.mk (Below.refl w.heap.size w)
  have H : ((publish_Valid.f k a0 a1_0 a1_1 a1_2 a1_3 a1_4 a1_5 a1_6 a1_7 a1_8 a1_9 a1_10 a1_11 a1_12 a1_13 a1_14 a1_15 a1_16 a1_17 a1_18 l1_19 a1_20 a1_21 l1_22 l1_23 l1_24).bind fun t225 => (if t225 = 0 then ((ustring_Text.f k a1_5).bind fun bt226 => (if a1_3 = 0 then (if a0 = 5 then ((prop_Bytes.f a1_0 l1_24).bind fun bt228 => (if bt226.1.size + bt228.1.size ≤ 9223372036854775807 then (if (bt226.1 ++ bt228.1).size + a1_6.size ≤ 9223372036854775807 then (some ((bt226.1 ++ bt228.1) ++ a1_6, 0)) else (none)) else (none))) else (if bt226.1.size + a1_6.size ≤ 9223372036854775807 then (some (bt226.1 ++ a1_6, 0)) else (none))) else ((octet_Put.f k (IntKind.u64.wrap (a1_4)) 2).bind fun t230 => (if bt226.1.size + t230.size ≤ 9223372036854775807 then (if a0 = 5 then ((prop_Bytes.f a1_0 l1_24).bind fun bt231 => (if (bt226.1 ++ t230).size + bt231.1.size ≤ 9223372036854775807 then (if ((bt226.1 ++ t230) ++ bt231.1).size + a1_6.size ≤ 9223372036854775807 then (some (((bt226.1 ++ t230) ++ bt231.1) ++ a1_6, 0)) else (none)) else (none))) else (if (bt226.1 ++ t230).size + a1_6.size ≤ 9223372036854775807 then (some ((bt226.1 ++ t230) ++ a1_6, 0)) else (none))) else (none))))) else (some ((⟨#[]⟩ : ByteArray), t225)))) = some (r1, r2) := h
  clear h
  replace H := Option.bind_eq_some_iff.mp H
  obtain ⟨t225, A30, H⟩ := H
  replace H : (if t225 = 0 then ((ustring_Text.f k a1_5).bind fun bt226 => (if a1_3 = 0 then (if a0 = 5 then ((prop_Bytes.f a1_0 l1_24).bind fun bt228 => (if bt226.1.size + bt228.1.size ≤ 9223372036854775807 then (if (bt226.1 ++ bt228.1).size + a1_6.size ≤ 9223372036854775807 then (some ((bt226.1 ++ bt228.1) ++ a1_6, 0)) else (none)) else (none))) else (if bt226.1.size + a1_6.size ≤ 9223372036854775807 then (some (bt226.1 ++ a1_6, 0)) else (none))) else ((octet_Put.f k (IntKind.u64.wrap (a1_4)) 2).bind fun t230 => (if bt226.1.size + t230.size ≤ 9223372036854775807 then (if a0 = 5 then ((prop_Bytes.f a1_0 l1_24).bind fun bt231 => (if (bt226.1 ++ t230).size + bt231.1.size ≤ 9223372036854775807 then (if ((bt226.1 ++ t230) ++ bt231.1).size + a1_6.size ≤ 9223372036854775807 then (some (((bt226.1 ++ t230) ++ bt231.1) ++ a1_6, 0)) else (none)) else (none))) else (if (bt226.1 ++ t230).size + a1_6.size ≤ 9223372036854775807 then (some ((bt226.1 ++ t230) ++ a1_6, 0)) else (none))) else (none))))) else (some ((⟨#[]⟩ : ByteArray), t225))) = some (r1, r2) := H
  have A3 := Aside0.mk A30
  clear A30
  by_cases c4 : t225 = 0
  · rw [if_pos c4] at H
    have c4b0 : (t225 == 0) = true := beq_iff_eq.mpr c4
    have c4b1 : (t225 != 0) = false := bne_eq_false_iff_eq.mpr c4
    clear c4
    replace H := Option.bind_eq_some_iff.mp H
    obtain ⟨⟨t226, t227⟩, A50, H⟩ := H
    replace H : (if a1_3 = 0 then (if a0 = 5 then ((prop_Bytes.f a1_0 l1_24).bind fun bt228 => (if t226.size + bt228.1.size ≤ 9223372036854775807 then (if (t226 ++ bt228.1).size + a1_6.size ≤ 9223372036854775807 then (some ((t226 ++ bt228.1) ++ a1_6, 0)) else (none)) else (none))) else (if t226.size + a1_6.size ≤ 9223372036854775807 then (some (t226 ++ a1_6, 0)) else (none))) else ((octet_Put.f k (IntKind.u64.wrap (a1_4)) 2).bind fun t230 => (if t226.size + t230.size ≤ 9223372036854775807 then (if a0 = 5 then ((prop_Bytes.f a1_0 l1_24).bind fun bt231 => (if (t226 ++ t230).size + bt231.1.size ≤ 9223372036854775807 then (if ((t226 ++ t230) ++ bt231.1).size + a1_6.size ≤ 9223372036854775807 then (some (((t226 ++ t230) ++ bt231.1) ++ a1_6, 0)) else (none)) else (none))) else (if (t226 ++ t230).size + a1_6.size ≤ 9223372036854775807 then (some ((t226 ++ t230) ++ a1_6, 0)) else (none))) else (none)))) = some (r1, r2) := H
    have A5 := Aside0.mk A50
    clear A50
    by_cases c6 : a1_3 = 0
    · rw [if_pos c6] at H
      have c6b0 : (a1_3 == 0) = true := beq_iff_eq.mpr c6
      have c6b1 : (a1_3 != 0) = false := bne_eq_false_iff_eq.mpr c6
      clear c6
      by_cases c7 : a0 = 5
      · rw [if_pos c7] at H
        have c7b0 : (a0 == 5) = true := beq_iff_eq.mpr c7
        have c7b1 : (a0 != 5) = false := bne_eq_false_iff_eq.mpr c7
        clear c7
        replace H := Option.bind_eq_some_iff.mp H
        obtain ⟨⟨t228, t229⟩, A80, H⟩ := H
        replace H : (if t226.size + t228.size ≤ 9223372036854775807 then (if (t226 ++ t228).size + a1_6.size ≤ 9223372036854775807 then (some ((t226 ++ t228) ++ a1_6, 0)) else (none)) else (none)) = some (r1, r2) := H
        have A8 := Aside0.mk A80
        clear A80
        by_cases c9 : t226.size + t228.size ≤ 9223372036854775807
        · rw [if_pos c9] at H
          have c9b0 := eq_true c9
          have c9b1 : decide (t226.size + t228.size ≤ 9223372036854775807) = true := decide_eq_true c9
          try have c9b2 : (9223372036854775807 < t226.size + t228.size) = False := eq_false (Nat.not_lt.2 c9)
          by_cases c10 : (t226 ++ t228).size + a1_6.size ≤ 9223372036854775807
          · rw [if_pos c10] at H
            have c10b0 := eq_true c10
            have c10b1 : decide ((t226 ++ t228).size + a1_6.size ≤ 9223372036854775807) = true := decide_eq_true c10
            try have c10b2 : (9223372036854775807 < (t226 ++ t228).size + a1_6.size) = False := eq_false (Nat.not_lt.2 c10)
            simp only [Option.some.injEq, Prod.mk.injEq] at H
            obtain ⟨rfl, rfl⟩ := H
            go_enter Try.func26, Try.ntmps26
            go_wp2_with (first | ((with_reducible refine publish_Body.gl rfl ?_); (try (refine gate_guard (by first | rfl | (simp [*]; done) | fail) ?_; dsimp only)); refine wpList_load_row rfl 48 _ rfl _ (by rfl) 48 _ _ _ (by first | exact Aside0.out (by with_reducible assumption) | ((with_reducible repeat (first | refine blk_drewN ?_ _ | refine blk_drew ?_ | refine blk_alloc ?_ _)); exact Aside0.out (by with_reducible assumption)) | (refine blk_put (Aside0.out (by with_reducible assumption)) 24 _ ?_; simp only [List.setIfInBounds_toArray, List.set_cons_zero, List.set_cons_succ]; rfl) | (apply blk_put (i := 24); (case h => exact Aside0.out (by with_reducible assumption)); (case e => (simp only [List.setIfInBounds_toArray, List.set_cons_zero, List.set_cons_succ]; rfl)))) Try.underlying48 rfl (by kernel_rfl) ?_) | ((with_reducible refine gate_dst (N := 3) rfl ?_); refine box_event ?hg (N := 3) ?hd (cs := #[.int .i64 a1_0, .bool a1_1, .bool a1_2, .int .i64 a1_3, .int .i64 a1_4, .string a1_5, .string a1_6, .bool a1_7, .int .i64 a1_8, .string a1_9, .bool a1_10, .string a1_11, .bool a1_12, .string a1_13, .bool a1_14, .string a1_15, .string a1_16, .int .i64 a1_17, .bool a1_18, .slice A1_19 l1_19.length c1_19, .bool a1_20, .int .i64 a1_21, .slice A1_22 l1_22.length c1_22, .slice A1_23 l1_23.length c1_23, .slice A1_24 l1_24.length c1_24]) (t := 48) ?hr ?_; (case hd => rfl); (case hg => rfl); (case hr => first | (go_simp; done) | (go_simp; rfl)); intro gb224 hg w11 hbox hb; have n0_ := Aside0.mk (below_step (by repeat (first | (with_reducible first | exact HB.out | apply below_alloc | apply pw_below_drewN | apply below_drew1) | exact HB.out)) hb); have n1_ := Aside0.mk (hbox); have n2_ := Aside0.mk ((by rw [hg]; exact (below_size (by repeat (first | (with_reducible first | exact HB.out | apply below_alloc | apply pw_below_drewN | apply below_drew1) | exact HB.out))) : w.heap.size ≤ gb224)); have n3_ := Aside0.mk ((by rw [hg]; exact (below_size (by repeat (first | (with_reducible first | exact HB.out | apply below_alloc | apply pw_below_drewN | apply below_drew1) | exact HB.out))) : w.heap.size ≤ gb224)); clear HB; have HB := n0_; have BK224 := n1_; have GW224 := n2_; have GE224 := n3_; clear n0_ n1_ n2_ n3_; clear hb hbox hg; have hcz12_0 : w11.cell? ⟨gb224, 0, none⟩ = some (.int .i64 a1_0) := (blk_cell BK224.out 0).trans rfl; have hcz12_1 : w11.cell? ⟨gb224, 1, none⟩ = some (.bool a1_1) := (blk_cell BK224.out 1).trans rfl; have hcz12_2 : w11.cell? ⟨gb224, 2, none⟩ = some (.bool a1_2) := (blk_cell BK224.out 2).trans rfl; have hcz12_3 : w11.cell? ⟨gb224, 3, none⟩ = some (.int .i64 a1_3) := (blk_cell BK224.out 3).trans rfl; have hcz12_4 : w11.cell? ⟨gb224, 4, none⟩ = some (.int .i64 a1_4) := (blk_cell BK224.out 4).trans rfl; have hcz12_5 : w11.cell? ⟨gb224, 5, none⟩ = some (.string a1_5) := (blk_cell BK224.out 5).trans rfl; have hcz12_6 : w11.cell? ⟨gb224, 6, none⟩ = some (.string a1_6) := (blk_cell BK224.out 6).trans rfl; have hcz12_7 : w11.cell? ⟨gb224, 7, none⟩ = some (.bool a1_7) := (blk_cell BK224.out 7).trans rfl; have hcz12_8 : w11.cell? ⟨gb224, 8, none⟩ = some (.int .i64 a1_8) := (blk_cell BK224.out 8).trans rfl; have hcz12_9 : w11.cell? ⟨gb224, 9, none⟩ = some (.string a1_9) := (blk_cell BK224.out 9).trans rfl; have hcz12_10 : w11.cell? ⟨gb224, 10, none⟩ = some (.bool a1_10) := (blk_cell BK224.out 10).trans rfl; have hcz12_11 : w11.cell? ⟨gb224, 11, none⟩ = some (.string a1_11) := (blk_cell BK224.out 11).trans rfl; have hcz12_12 : w11.cell? ⟨gb224, 12, none⟩ = some (.bool a1_12) := (blk_cell BK224.out 12).trans rfl; have hcz12_13 : w11.cell? ⟨gb224, 13, none⟩ = some (.string a1_13) := (blk_cell BK224.out 13).trans rfl; have hcz12_14 : w11.cell? ⟨gb224, 14, none⟩ = some (.bool a1_14) := (blk_cell BK224.out 14).trans rfl; have hcz12_15 : w11.cell? ⟨gb224, 15, none⟩ = some (.string a1_15) := (blk_cell BK224.out 15).trans rfl; have hcz12_16 : w11.cell? ⟨gb224, 16, none⟩ = some (.string a1_16) := (blk_cell BK224.out 16).trans rfl; have hcz12_17 : w11.cell? ⟨gb224, 17, none⟩ = some (.int .i64 a1_17) := (blk_cell BK224.out 17).trans rfl; have hcz12_18 : w11.cell? ⟨gb224, 18, none⟩ = some (.bool a1_18) := (blk_cell BK224.out 18).trans rfl; have hcz12_19 : w11.cell? ⟨gb224, 19, none⟩ = some (.slice A1_19 l1_19.length c1_19) := (blk_cell BK224.out 19).trans rfl; have hcz12_20 : w11.cell? ⟨gb224, 20, none⟩ = some (.bool a1_20) := (blk_cell BK224.out 20).trans rfl; have hcz12_21 : w11.cell? ⟨gb224, 21, none⟩ = some (.int .i64 a1_21) := (blk_cell BK224.out 21).trans rfl; have hcz12_22 : w11.cell? ⟨gb224, 22, none⟩ = some (.slice A1_22 l1_22.length c1_22) := (blk_cell BK224.out 22).trans rfl; have hcz12_23 : w11.cell? ⟨gb224, 23, none⟩ = some (.slice A1_23 l1_23.length c1_23) := (blk_cell BK224.out 23).trans rfl; have hcz12_24 : w11.cell? ⟨gb224, 24, none⟩ = some (.slice A1_24 l1_24.length c1_24) := (blk_cell BK224.out 24).trans rfl; have hfz12_0 := blk_frozen BK224.out 0; have hfz12_1 := blk_frozen BK224.out 1; have hfz12_2 := blk_frozen BK224.out 2; have hfz12_3 := blk_frozen BK224.out 3; have hfz12_4 := blk_frozen BK224.out 4; have hfz12_5 := blk_frozen BK224.out 5; have hfz12_6 := blk_frozen BK224.out 6; have hfz12_7 := blk_frozen BK224.out 7; have hfz12_8 := blk_frozen BK224.out 8; have hfz12_9 := blk_frozen BK224.out 9; have hfz12_10 := blk_frozen BK224.out 10; have hfz12_11 := blk_frozen BK224.out 11; have hfz12_12 := blk_frozen BK224.out 12; have hfz12_13 := blk_frozen BK224.out 13; have hfz12_14 := blk_frozen BK224.out 14; have hfz12_15 := blk_frozen BK224.out 15; have hfz12_16 := blk_frozen BK224.out 16; have hfz12_17 := blk_frozen BK224.out 17; have hfz12_18 := blk_frozen BK224.out 18; have hfz12_19 := blk_frozen BK224.out 19; have hfz12_20 := blk_frozen BK224.out 20; have hfz12_21 := blk_frozen BK224.out 21; have hfz12_22 := blk_frozen BK224.out 22; have hfz12_23 := blk_frozen BK224.out 23; have hfz12_24 := blk_frozen BK224.out 24) | ((with_reducible refine gate_callee (f := 24) rfl ?_); refine goesL_ (some 13) rfl rfl Try.func24 (by kernel_rfl) rfl #[.int .i64 a0, .agg #[.int .i64 a1_0, .bool a1_1, .bool a1_2, .int .i64 a1_3, .int .i64 a1_4, .string a1_5, .string a1_6, .bool a1_7, .int .i64 a1_8, .string a1_9, .bool a1_10, .string a1_11, .bool a1_12, .string a1_13, .bool a1_14, .string a1_15, .string a1_16, .int .i64 a1_17, .bool a1_18, .slice A1_19 l1_19.length c1_19, .bool a1_20, .int .i64 a1_21, .slice A1_22 l1_22.length c1_22, .slice A1_23 l1_23.length c1_23, .slice A1_24 l1_24.length c1_24]] rfl (by (try simp only [List.map_toArray, List.map_cons, List.map_nil]); first | done | rfl | (simp only [List.length_drop, List.length_take]; rfl)) ?_; (with_reducible refine (publish_Valid.calls k a0 a1_0 a1_1 a1_2 a1_3 a1_4 a1_5 a1_6 a1_7 a1_8 a1_9 a1_10 a1_11 a1_12 a1_13 a1_14 a1_15 a1_16 a1_17 a1_18 _ _ l1_19 a1_20 a1_21 _ _ l1_22 _ _ l1_23 _ _ l1_24 t225 _ ?side1 ?side2 ?side3 ?side4 ?side5 ?side6 ?side7 ?side8 A3.out).mono ?_); (case side1 => repeat (first | exact (Kd.C_below HR1_19.out HB.out) | (with_reducible refine Kd.C_alloc ?_ _) | (with_reducible refine Kd.C_drewN ?_ _) | (with_reducible refine Kd.C_drew ?_))); (case side2 => exact HC1_19.out); (case side3 => repeat (first | exact (Kd.C_below HR1_22.out HB.out) | (with_reducible refine Kd.C_alloc ?_ _) | (with_reducible refine Kd.C_drewN ?_ _) | (with_reducible refine Kd.C_drew ?_))); (case side4 => exact HC1_22.out); (case side5 => repeat (first | exact (Kd.C_below HR1_23.out HB.out) | (with_reducible refine Kd.C_alloc ?_ _) | (with_reducible refine Kd.C_drewN ?_ _) | (with_reducible refine Kd.C_drew ?_))); (case side6 => exact HC1_23.out); (case side7 => repeat (first | exact (Kd.C_below HR1_24.out HB.out) | (with_reducible refine Kd.C_alloc ?_ _) | (with_reducible refine Kd.C_drewN ?_ _) | (with_reducible refine Kd.C_drew ?_))); (case side8 => exact HC1_24.out); rintro e w13 ⟨rfl, hb⟩; refine ⟨_, rfl, ?_⟩; have n0_ := Aside0.mk (blk_below (g := gb224) (o := .cells #[.int .i64 a1_0, .bool a1_1, .bool a1_2, .int .i64 a1_3, .int .i64 a1_4, .string a1_5, .string a1_6, .bool a1_7, .int .i64 a1_8, .string a1_9, .bool a1_10, .string a1_11, .bool a1_12, .string a1_13, .bool a1_14, .string a1_15, .string a1_16, .int .i64 a1_17, .bool a1_18, .slice A1_19 l1_19.length c1_19, .bool a1_20, .int .i64 a1_21, .slice A1_22 l1_22.length c1_22, .slice A1_23 l1_23.length c1_23, .slice A1_24 l1_24.length c1_24] 48 (0, 0)) (by (with_reducible repeat (first | refine blk_drewN ?_ _ | refine blk_drew ?_ | refine blk_alloc ?_ _)); exact BK224.out) hb); have n1_ := Aside0.mk (below_step (by repeat (first | (with_reducible first | exact HB.out | apply below_alloc | apply pw_below_drewN | apply below_drew1 | refine below_set ?_ GE224.out) | exact HB.out)) hb); clear BK224; clear HB; have BK224 := n0_; have HB := n1_; clear n0_ n1_; (try clear hb); (try clear hb2); (try clear hk); (try clear hi); have hcz14_0 : w13.cell? ⟨gb224, 0, none⟩ = some (.int .i64 a1_0) := (blk_cell BK224.out 0).trans rfl; have hcz14_1 : w13.cell? ⟨gb224, 1, none⟩ = some (.bool a1_1) := (blk_cell BK224.out 1).trans rfl; have hcz14_2 : w13.cell? ⟨gb224, 2, none⟩ = some (.bool a1_2) := (blk_cell BK224.out 2).trans rfl; have hcz14_3 : w13.cell? ⟨gb224, 3, none⟩ = some (.int .i64 a1_3) := (blk_cell BK224.out 3).trans rfl; have hcz14_4 : w13.cell? ⟨gb224, 4, none⟩ = some (.int .i64 a1_4) := (blk_cell BK224.out 4).trans rfl; have hcz14_5 : w13.cell? ⟨gb224, 5, none⟩ = some (.string a1_5) := (blk_cell BK224.out 5).trans rfl; have hcz14_6 : w13.cell? ⟨gb224, 6, none⟩ = some (.string a1_6) := (blk_cell BK224.out 6).trans rfl; have hcz14_7 : w13.cell? ⟨gb224, 7, none⟩ = some (.bool a1_7) := (blk_cell BK224.out 7).trans rfl; have hcz14_8 : w13.cell? ⟨gb224, 8, none⟩ = some (.int .i64 a1_8) := (blk_cell BK224.out 8).trans rfl; have hcz14_9 : w13.cell? ⟨gb224, 9, none⟩ = some (.string a1_9) := (blk_cell BK224.out 9).trans rfl; have hcz14_10 : w13.cell? ⟨gb224, 10, none⟩ = some (.bool a1_10) := (blk_cell BK224.out 10).trans rfl; have hcz14_11 : w13.cell? ⟨gb224, 11, none⟩ = some (.string a1_11) := (blk_cell BK224.out 11).trans rfl; have hcz14_12 : w13.cell? ⟨gb224, 12, none⟩ = some (.bool a1_12) := (blk_cell BK224.out 12).trans rfl; have hcz14_13 : w13.cell? ⟨gb224, 13, none⟩ = some (.string a1_13) := (blk_cell BK224.out 13).trans rfl; have hcz14_14 : w13.cell? ⟨gb224, 14, none⟩ = some (.bool a1_14) := (blk_cell BK224.out 14).trans rfl; have hcz14_15 : w13.cell? ⟨gb224, 15, none⟩ = some (.string a1_15) := (blk_cell BK224.out 15).trans rfl; have hcz14_16 : w13.cell? ⟨gb224, 16, none⟩ = some (.string a1_16) := (blk_cell BK224.out 16).trans rfl; have hcz14_17 : w13.cell? ⟨gb224, 17, none⟩ = some (.int .i64 a1_17) := (blk_cell BK224.out 17).trans rfl; have hcz14_18 : w13.cell? ⟨gb224, 18, none⟩ = some (.bool a1_18) := (blk_cell BK224.out 18).trans rfl; have hcz14_19 : w13.cell? ⟨gb224, 19, none⟩ = some (.slice A1_19 l1_19.length c1_19) := (blk_cell BK224.out 19).trans rfl; have hcz14_20 : w13.cell? ⟨gb224, 20, none⟩ = some (.bool a1_20) := (blk_cell BK224.out 20).trans rfl; have hcz14_21 : w13.cell? ⟨gb224, 21, none⟩ = some (.int .i64 a1_21) := (blk_cell BK224.out 21).trans rfl; have hcz14_22 : w13.cell? ⟨gb224, 22, none⟩ = some (.slice A1_22 l1_22.length c1_22) := (blk_cell BK224.out 22).trans rfl; have hcz14_23 : w13.cell? ⟨gb224, 23, none⟩ = some (.slice A1_23 l1_23.length c1_23) := (blk_cell BK224.out 23).trans rfl; have hcz14_24 : w13.cell? ⟨gb224, 24, none⟩ = some (.slice A1_24 l1_24.length c1_24) := (blk_cell BK224.out 24).trans rfl; have hfz14_0 := blk_frozen BK224.out 0; have hfz14_1 := blk_frozen BK224.out 1; have hfz14_2 := blk_frozen BK224.out 2; have hfz14_3 := blk_frozen BK224.out 3; have hfz14_4 := blk_frozen BK224.out 4; have hfz14_5 := blk_frozen BK224.out 5; have hfz14_6 := blk_frozen BK224.out 6; have hfz14_7 := blk_frozen BK224.out 7; have hfz14_8 := blk_frozen BK224.out 8; have hfz14_9 := blk_frozen BK224.out 9; have hfz14_10 := blk_frozen BK224.out 10; have hfz14_11 := blk_frozen BK224.out 11; have hfz14_12 := blk_frozen BK224.out 12; have hfz14_13 := blk_frozen BK224.out 13; have hfz14_14 := blk_frozen BK224.out 14; have hfz14_15 := blk_frozen BK224.out 15; have hfz14_16 := blk_frozen BK224.out 16; have hfz14_17 := blk_frozen BK224.out 17; have hfz14_18 := blk_frozen BK224.out 18; have hfz14_19 := blk_frozen BK224.out 19; have hfz14_20 := blk_frozen BK224.out 20; have hfz14_21 := blk_frozen BK224.out 21; have hfz14_22 := blk_frozen BK224.out 22; have hfz14_23 := blk_frozen BK224.out 23; have hfz14_24 := blk_frozen BK224.out 24) | ((with_reducible refine gate_callee (f := 55) rfl ?_); refine goesL_ (some 20) rfl rfl Try.func55 (by kernel_rfl) rfl #[.string a1_5] rfl (by (try simp only [List.map_toArray, List.map_cons, List.map_nil]); first | done | rfl | (simp only [List.length_drop, List.length_take]; rfl)) ?_; (with_reducible refine (ustring_Text.calls k a1_5 t226 t227 _ A5.out).mono ?_); rintro e w15 ⟨rfl, hb⟩; refine ⟨_, rfl, ?_⟩; have n0_ := Aside0.mk (blk_below (g := gb224) (o := .cells #[.int .i64 a1_0, .bool a1_1, .bool a1_2, .int .i64 a1_3, .int .i64 a1_4, .string a1_5, .string a1_6, .bool a1_7, .int .i64 a1_8, .string a1_9, .bool a1_10, .string a1_11, .bool a1_12, .string a1_13, .bool a1_14, .string a1_15, .string a1_16, .int .i64 a1_17, .bool a1_18, .slice A1_19 l1_19.length c1_19, .bool a1_20, .int .i64 a1_21, .slice A1_22 l1_22.length c1_22, .slice A1_23 l1_23.length c1_23, .slice A1_24 l1_24.length c1_24] 48 (0, 0)) (by (with_reducible repeat (first | refine blk_drewN ?_ _ | refine blk_drew ?_ | refine blk_alloc ?_ _)); exact BK224.out) hb); have n1_ := Aside0.mk (below_step (by repeat (first | (with_reducible first | exact HB.out | apply below_alloc | apply pw_below_drewN | apply below_drew1 | refine below_set ?_ GE224.out) | exact HB.out)) hb); clear BK224; clear HB; have BK224 := n0_; have HB := n1_; clear n0_ n1_; (try clear hb); (try clear hb2); (try clear hk); (try clear hi); have hcz16_0 : w15.cell? ⟨gb224, 0, none⟩ = some (.int .i64 a1_0) := (blk_cell BK224.out 0).trans rfl; have hcz16_1 : w15.cell? ⟨gb224, 1, none⟩ = some (.bool a1_1) := (blk_cell BK224.out 1).trans rfl; have hcz16_2 : w15.cell? ⟨gb224, 2, none⟩ = some (.bool a1_2) := (blk_cell BK224.out 2).trans rfl; have hcz16_3 : w15.cell? ⟨gb224, 3, none⟩ = some (.int .i64 a1_3) := (blk_cell BK224.out 3).trans rfl; have hcz16_4 : w15.cell? ⟨gb224, 4, none⟩ = some (.int .i64 a1_4) := (blk_cell BK224.out 4).trans rfl; have hcz16_5 : w15.cell? ⟨gb224, 5, none⟩ = some (.string a1_5) := (blk_cell BK224.out 5).trans rfl; have hcz16_6 : w15.cell? ⟨gb224, 6, none⟩ = some (.string a1_6) := (blk_cell BK224.out 6).trans rfl; have hcz16_7 : w15.cell? ⟨gb224, 7, none⟩ = some (.bool a1_7) := (blk_cell BK224.out 7).trans rfl; have hcz16_8 : w15.cell? ⟨gb224, 8, none⟩ = some (.int .i64 a1_8) := (blk_cell BK224.out 8).trans rfl; have hcz16_9 : w15.cell? ⟨gb224, 9, none⟩ = some (.string a1_9) := (blk_cell BK224.out 9).trans rfl; have hcz16_10 : w15.cell? ⟨gb224, 10, none⟩ = some (.bool a1_10) := (blk_cell BK224.out 10).trans rfl; have hcz16_11 : w15.cell? ⟨gb224, 11, none⟩ = some (.string a1_11) := (blk_cell BK224.out 11).trans rfl; have hcz16_12 : w15.cell? ⟨gb224, 12, none⟩ = some (.bool a1_12) := (blk_cell BK224.out 12).trans rfl; have hcz16_13 : w15.cell? ⟨gb224, 13, none⟩ = some (.string a1_13) := (blk_cell BK224.out 13).trans rfl; have hcz16_14 : w15.cell? ⟨gb224, 14, none⟩ = some (.bool a1_14) := (blk_cell BK224.out 14).trans rfl; have hcz16_15 : w15.cell? ⟨gb224, 15, none⟩ = some (.string a1_15) := (blk_cell BK224.out 15).trans rfl; have hcz16_16 : w15.cell? ⟨gb224, 16, none⟩ = some (.string a1_16) := (blk_cell BK224.out 16).trans rfl; have hcz16_17 : w15.cell? ⟨gb224, 17, none⟩ = some (.int .i64 a1_17) := (blk_cell BK224.out 17).trans rfl; have hcz16_18 : w15.cell? ⟨gb224, 18, none⟩ = some (.bool a1_18) := (blk_cell BK224.out 18).trans rfl; have hcz16_19 : w15.cell? ⟨gb224, 19, none⟩ = some (.slice A1_19 l1_19.length c1_19) := (blk_cell BK224.out 19).trans rfl; have hcz16_20 : w15.cell? ⟨gb224, 20, none⟩ = some (.bool a1_20) := (blk_cell BK224.out 20).trans rfl; have hcz16_21 : w15.cell? ⟨gb224, 21, none⟩ = some (.int .i64 a1_21) := (blk_cell BK224.out 21).trans rfl; have hcz16_22 : w15.cell? ⟨gb224, 22, none⟩ = some (.slice A1_22 l1_22.length c1_22) := (blk_cell BK224.out 22).trans rfl; have hcz16_23 : w15.cell? ⟨gb224, 23, none⟩ = some (.slice A1_23 l1_23.length c1_23) := (blk_cell BK224.out 23).trans rfl; have hcz16_24 : w15.cell? ⟨gb224, 24, none⟩ = some (.slice A1_24 l1_24.length c1_24) := (blk_cell BK224.out 24).trans rfl; have hfz16_0 := blk_frozen BK224.out 0; have hfz16_1 := blk_frozen BK224.out 1; have hfz16_2 := blk_frozen BK224.out 2; have hfz16_3 := blk_frozen BK224.out 3; have hfz16_4 := blk_frozen BK224.out 4; have hfz16_5 := blk_frozen BK224.out 5; have hfz16_6 := blk_frozen BK224.out 6; have hfz16_7 := blk_frozen BK224.out 7; have hfz16_8 := blk_frozen BK224.out 8; have hfz16_9 := blk_frozen BK224.out 9; have hfz16_10 := blk_frozen BK224.out 10; have hfz16_11 := blk_frozen BK224.out 11; have hfz16_12 := blk_frozen BK224.out 12; have hfz16_13 := blk_frozen BK224.out 13; have hfz16_14 := blk_frozen BK224.out 14; have hfz16_15 := blk_frozen BK224.out 15; have hfz16_16 := blk_frozen BK224.out 16; have hfz16_17 := blk_frozen BK224.out 17; have hfz16_18 := blk_frozen BK224.out 18; have hfz16_19 := blk_frozen BK224.out 19; have hfz16_20 := blk_frozen BK224.out 20; have hfz16_21 := blk_frozen BK224.out 21; have hfz16_22 := blk_frozen BK224.out 22; have hfz16_23 := blk_frozen BK224.out 23; have hfz16_24 := blk_frozen BK224.out 24) | ((with_reducible refine gate_callee (f := 18) rfl ?_); refine goesL_ (some 39) rfl rfl Try.func18 (by kernel_rfl) rfl #[.int .i64 a1_0, .slice A1_24 l1_24.length c1_24] rfl (by (try simp only [List.map_toArray, List.map_cons, List.map_nil]); first | done | rfl | (simp only [List.length_drop, List.length_take]; rfl)) ?_; (with_reducible refine (prop_Bytes.calls a1_0 _ _ l1_24 t228 t229 _ ?side1 ?side2 A8.out).mono ?_); (case side1 => repeat (first | exact (Kd.C_below HR1_24.out HB.out) | (with_reducible refine Kd.C_alloc ?_ _) | (with_reducible refine Kd.C_drewN ?_ _) | (with_reducible refine Kd.C_drew ?_))); (case side2 => exact HC1_24.out); rintro e w17 ⟨rfl, hb⟩; refine ⟨_, rfl, ?_⟩; have n0_ := Aside0.mk (blk_below (g := gb224) (o := .cells #[.int .i64 a1_0, .bool a1_1, .bool a1_2, .int .i64 a1_3, .int .i64 a1_4, .string a1_5, .string a1_6, .bool a1_7, .int .i64 a1_8, .string a1_9, .bool a1_10, .string a1_11, .bool a1_12, .string a1_13, .bool a1_14, .string a1_15, .string a1_16, .int .i64 a1_17, .bool a1_18, .slice A1_19 l1_19.length c1_19, .bool a1_20, .int .i64 a1_21, .slice A1_22 l1_22.length c1_22, .slice A1_23 l1_23.length c1_23, .slice A1_24 l1_24.length c1_24] 48 (0, 0)) (by (with_reducible repeat (first | refine blk_drewN ?_ _ | refine blk_drew ?_ | refine blk_alloc ?_ _)); exact BK224.out) hb); have n1_ := Aside0.mk (below_step (by repeat (first | (with_reducible first | exact HB.out | apply below_alloc | apply pw_below_drewN | apply below_drew1 | refine below_set ?_ GE224.out) | exact HB.out)) hb); clear BK224; clear HB; have BK224 := n0_; have HB := n1_; clear n0_ n1_; (try clear hb); (try clear hb2); (try clear hk); (try clear hi); have hcz18_0 : w17.cell? ⟨gb224, 0, none⟩ = some (.int .i64 a1_0) := (blk_cell BK224.out 0).trans rfl; have hcz18_1 : w17.cell? ⟨gb224, 1, none⟩ = some (.bool a1_1) := (blk_cell BK224.out 1).trans rfl; have hcz18_2 : w17.cell? ⟨gb224, 2, none⟩ = some (.bool a1_2) := (blk_cell BK224.out 2).trans rfl; have hcz18_3 : w17.cell? ⟨gb224, 3, none⟩ = some (.int .i64 a1_3) := (blk_cell BK224.out 3).trans rfl; have hcz18_4 : w17.cell? ⟨gb224, 4, none⟩ = some (.int .i64 a1_4) := (blk_cell BK224.out 4).trans rfl; have hcz18_5 : w17.cell? ⟨gb224, 5, none⟩ = some (.string a1_5) := (blk_cell BK224.out 5).trans rfl; have hcz18_6 : w17.cell? ⟨gb224, 6, none⟩ = some (.string a1_6) := (blk_cell BK224.out 6).trans rfl; have hcz18_7 : w17.cell? ⟨gb224, 7, none⟩ = some (.bool a1_7) := (blk_cell BK224.out 7).trans rfl; have hcz18_8 : w17.cell? ⟨gb224, 8, none⟩ = some (.int .i64 a1_8) := (blk_cell BK224.out 8).trans rfl; have hcz18_9 : w17.cell? ⟨gb224, 9, none⟩ = some (.string a1_9) := (blk_cell BK224.out 9).trans rfl; have hcz18_10 : w17.cell? ⟨gb224, 10, none⟩ = some (.bool a1_10) := (blk_cell BK224.out 10).trans rfl; have hcz18_11 : w17.cell? ⟨gb224, 11, none⟩ = some (.string a1_11) := (blk_cell BK224.out 11).trans rfl; have hcz18_12 : w17.cell? ⟨gb224, 12, none⟩ = some (.bool a1_12) := (blk_cell BK224.out 12).trans rfl; have hcz18_13 : w17.cell? ⟨gb224, 13, none⟩ = some (.string a1_13) := (blk_cell BK224.out 13).trans rfl; have hcz18_14 : w17.cell? ⟨gb224, 14, none⟩ = some (.bool a1_14) := (blk_cell BK224.out 14).trans rfl; have hcz18_15 : w17.cell? ⟨gb224, 15, none⟩ = some (.string a1_15) := (blk_cell BK224.out 15).trans rfl; have hcz18_16 : w17.cell? ⟨gb224, 16, none⟩ = some (.string a1_16) := (blk_cell BK224.out 16).trans rfl; have hcz18_17 : w17.cell? ⟨gb224, 17, none⟩ = some (.int .i64 a1_17) := (blk_cell BK224.out 17).trans rfl; have hcz18_18 : w17.cell? ⟨gb224, 18, none⟩ = some (.bool a1_18) := (blk_cell BK224.out 18).trans rfl; have hcz18_19 : w17.cell? ⟨gb224, 19, none⟩ = some (.slice A1_19 l1_19.length c1_19) := (blk_cell BK224.out 19).trans rfl; have hcz18_20 : w17.cell? ⟨gb224, 20, none⟩ = some (.bool a1_20) := (blk_cell BK224.out 20).trans rfl; have hcz18_21 : w17.cell? ⟨gb224, 21, none⟩ = some (.int .i64 a1_21) := (blk_cell BK224.out 21).trans rfl; have hcz18_22 : w17.cell? ⟨gb224, 22, none⟩ = some (.slice A1_22 l1_22.length c1_22) := (blk_cell BK224.out 22).trans rfl; have hcz18_23 : w17.cell? ⟨gb224, 23, none⟩ = some (.slice A1_23 l1_23.length c1_23) := (blk_cell BK224.out 23).trans rfl; have hcz18_24 : w17.cell? ⟨gb224, 24, none⟩ = some (.slice A1_24 l1_24.length c1_24) := (blk_cell BK224.out 24).trans rfl; have hfz18_0 := blk_frozen BK224.out 0; have hfz18_1 := blk_frozen BK224.out 1; have hfz18_2 := blk_frozen BK224.out 2; have hfz18_3 := blk_frozen BK224.out 3; have hfz18_4 := blk_frozen BK224.out 4; have hfz18_5 := blk_frozen BK224.out 5; have hfz18_6 := blk_frozen BK224.out 6; have hfz18_7 := blk_frozen BK224.out 7; have hfz18_8 := blk_frozen BK224.out 8; have hfz18_9 := blk_frozen BK224.out 9; have hfz18_10 := blk_frozen BK224.out 10; have hfz18_11 := blk_frozen BK224.out 11; have hfz18_12 := blk_frozen BK224.out 12; have hfz18_13 := blk_frozen BK224.out 13; have hfz18_14 := blk_frozen BK224.out 14; have hfz18_15 := blk_frozen BK224.out 15; have hfz18_16 := blk_frozen BK224.out 16; have hfz18_17 := blk_frozen BK224.out 17; have hfz18_18 := blk_frozen BK224.out 18; have hfz18_19 := blk_frozen BK224.out 19; have hfz18_20 := blk_frozen BK224.out 20; have hfz18_21 := blk_frozen BK224.out 21; have hfz18_22 := blk_frozen BK224.out 22; have hfz18_23 := blk_frozen BK224.out 23; have hfz18_24 := blk_frozen BK224.out 24))
            go_ret2
            exact ⟨by first | rfl | (simp [errW_none, errW_some] <;> rfl) | (simp [*, errW_none, errW_some] <;> rfl), by repeat (first | (with_reducible first | exact HB.out | apply below_alloc | apply pw_below_drewN | apply below_drew1 | refine below_set ?_ GE224.out) | exact HB.out)⟩
          · rw [if_neg c10] at H
            exact absurd H (by simp)
        · rw [if_neg c9] at H
          exact absurd H (by simp)
      · rw [if_neg c7] at H
        have c7b0 : (a0 == 5) = false := beq_eq_false_iff_ne.mpr c7
        have c7b1 : (a0 != 5) = true := bne_iff_ne.mpr c7
        by_cases c19 : t226.size + a1_6.size ≤ 9223372036854775807
        · rw [if_pos c19] at H
          have c19b0 := eq_true c19
          have c19b1 : decide (t226.size + a1_6.size ≤ 9223372036854775807) = true := decide_eq_true c19
          try have c19b2 : (9223372036854775807 < t226.size + a1_6.size) = False := eq_false (Nat.not_lt.2 c19)
          simp only [Option.some.injEq, Prod.mk.injEq] at H
          obtain ⟨rfl, rfl⟩ := H
          go_enter Try.func26, Try.ntmps26
          go_wp2_with (first | ((with_reducible refine publish_Body.gl rfl ?_); (try (refine gate_guard (by first | rfl | (simp [*]; done) | fail) ?_; dsimp only)); refine wpList_load_row rfl 48 _ rfl _ (by rfl) 48 _ _ _ (by first | exact Aside0.out (by with_reducible assumption) | ((with_reducible repeat (first | refine blk_drewN ?_ _ | refine blk_drew ?_ | refine blk_alloc ?_ _)); exact Aside0.out (by with_reducible assumption)) | (refine blk_put (Aside0.out (by with_reducible assumption)) 24 _ ?_; simp only [List.setIfInBounds_toArray, List.set_cons_zero, List.set_cons_succ]; rfl) | (apply blk_put (i := 24); (case h => exact Aside0.out (by with_reducible assumption)); (case e => (simp only [List.setIfInBounds_toArray, List.set_cons_zero, List.set_cons_succ]; rfl)))) Try.underlying48 rfl (by kernel_rfl) ?_) | ((with_reducible refine gate_dst (N := 3) rfl ?_); refine box_event ?hg (N := 3) ?hd (cs := #[.int .i64 a1_0, .bool a1_1, .bool a1_2, .int .i64 a1_3, .int .i64 a1_4, .string a1_5, .string a1_6, .bool a1_7, .int .i64 a1_8, .string a1_9, .bool a1_10, .string a1_11, .bool a1_12, .string a1_13, .bool a1_14, .string a1_15, .string a1_16, .int .i64 a1_17, .bool a1_18, .slice A1_19 l1_19.length c1_19, .bool a1_20, .int .i64 a1_21, .slice A1_22 l1_22.length c1_22, .slice A1_23 l1_23.length c1_23, .slice A1_24 l1_24.length c1_24]) (t := 48) ?hr ?_; (case hd => rfl); (case hg => rfl); (case hr => first | (go_simp; done) | (go_simp; rfl)); intro gb224 hg w20 hbox hb; have n0_ := Aside0.mk (below_step (by repeat (first | (with_reducible first | exact HB.out | apply below_alloc | apply pw_below_drewN | apply below_drew1) | exact HB.out)) hb); have n1_ := Aside0.mk (hbox); have n2_ := Aside0.mk ((by rw [hg]; exact (below_size (by repeat (first | (with_reducible first | exact HB.out | apply below_alloc | apply pw_below_drewN | apply below_drew1) | exact HB.out))) : w.heap.size ≤ gb224)); have n3_ := Aside0.mk ((by rw [hg]; exact (below_size (by repeat (first | (with_reducible first | exact HB.out | apply below_alloc | apply pw_below_drewN | apply below_drew1) | exact HB.out))) : w.heap.size ≤ gb224)); clear HB; have HB := n0_; have BK224 := n1_; have GW224 := n2_; have GE224 := n3_; clear n0_ n1_ n2_ n3_; clear hb hbox hg; have hcz21_0 : w20.cell? ⟨gb224, 0, none⟩ = some (.int .i64 a1_0) := (blk_cell BK224.out 0).trans rfl; have hcz21_1 : w20.cell? ⟨gb224, 1, none⟩ = some (.bool a1_1) := (blk_cell BK224.out 1).trans rfl; have hcz21_2 : w20.cell? ⟨gb224, 2, none⟩ = some (.bool a1_2) := (blk_cell BK224.out 2).trans rfl; have hcz21_3 : w20.cell? ⟨gb224, 3, none⟩ = some (.int .i64 a1_3) := (blk_cell BK224.out 3).trans rfl; have hcz21_4 : w20.cell? ⟨gb224, 4, none⟩ = some (.int .i64 a1_4) := (blk_cell BK224.out 4).trans rfl; have hcz21_5 : w20.cell? ⟨gb224, 5, none⟩ = some (.string a1_5) := (blk_cell BK224.out 5).trans rfl; have hcz21_6 : w20.cell? ⟨gb224, 6, none⟩ = some (.string a1_6) := (blk_cell BK224.out 6).trans rfl; have hcz21_7 : w20.cell? ⟨gb224, 7, none⟩ = some (.bool a1_7) := (blk_cell BK224.out 7).trans rfl; have hcz21_8 : w20.cell? ⟨gb224, 8, none⟩ = some (.int .i64 a1_8) := (blk_cell BK224.out 8).trans rfl; have hcz21_9 : w20.cell? ⟨gb224, 9, none⟩ = some (.string a1_9) := (blk_cell BK224.out 9).trans rfl; have hcz21_10 : w20.cell? ⟨gb224, 10, none⟩ = some (.bool a1_10) := (blk_cell BK224.out 10).trans rfl; have hcz21_11 : w20.cell? ⟨gb224, 11, none⟩ = some (.string a1_11) := (blk_cell BK224.out 11).trans rfl; have hcz21_12 : w20.cell? ⟨gb224, 12, none⟩ = some (.bool a1_12) := (blk_cell BK224.out 12).trans rfl; have hcz21_13 : w20.cell? ⟨gb224, 13, none⟩ = some (.string a1_13) := (blk_cell BK224.out 13).trans rfl; have hcz21_14 : w20.cell? ⟨gb224, 14, none⟩ = some (.bool a1_14) := (blk_cell BK224.out 14).trans rfl; have hcz21_15 : w20.cell? ⟨gb224, 15, none⟩ = some (.string a1_15) := (blk_cell BK224.out 15).trans rfl; have hcz21_16 : w20.cell? ⟨gb224, 16, none⟩ = some (.string a1_16) := (blk_cell BK224.out 16).trans rfl; have hcz21_17 : w20.cell? ⟨gb224, 17, none⟩ = some (.int .i64 a1_17) := (blk_cell BK224.out 17).trans rfl; have hcz21_18 : w20.cell? ⟨gb224, 18, none⟩ = some (.bool a1_18) := (blk_cell BK224.out 18).trans rfl; have hcz21_19 : w20.cell? ⟨gb224, 19, none⟩ = some (.slice A1_19 l1_19.length c1_19) := (blk_cell BK224.out 19).trans rfl; have hcz21_20 : w20.cell? ⟨gb224, 20, none⟩ = some (.bool a1_20) := (blk_cell BK224.out 20).trans rfl; have hcz21_21 : w20.cell? ⟨gb224, 21, none⟩ = some (.int .i64 a1_21) := (blk_cell BK224.out 21).trans rfl; have hcz21_22 : w20.cell? ⟨gb224, 22, none⟩ = some (.slice A1_22 l1_22.length c1_22) := (blk_cell BK224.out 22).trans rfl; have hcz21_23 : w20.cell? ⟨gb224, 23, none⟩ = some (.slice A1_23 l1_23.length c1_23) := (blk_cell BK224.out 23).trans rfl; have hcz21_24 : w20.cell? ⟨gb224, 24, none⟩ = some (.slice A1_24 l1_24.length c1_24) := (blk_cell BK224.out 24).trans rfl; have hfz21_0 := blk_frozen BK224.out 0; have hfz21_1 := blk_frozen BK224.out 1; have hfz21_2 := blk_frozen BK224.out 2; have hfz21_3 := blk_frozen BK224.out 3; have hfz21_4 := blk_frozen BK224.out 4; have hfz21_5 := blk_frozen BK224.out 5; have hfz21_6 := blk_frozen BK224.out 6; have hfz21_7 := blk_frozen BK224.out 7; have hfz21_8 := blk_frozen BK224.out 8; have hfz21_9 := blk_frozen BK224.out 9; have hfz21_10 := blk_frozen BK224.out 10; have hfz21_11 := blk_frozen BK224.out 11; have hfz21_12 := blk_frozen BK224.out 12; have hfz21_13 := blk_frozen BK224.out 13; have hfz21_14 := blk_frozen BK224.out 14; have hfz21_15 := blk_frozen BK224.out 15; have hfz21_16 := blk_frozen BK224.out 16; have hfz21_17 := blk_frozen BK224.out 17; have hfz21_18 := blk_frozen BK224.out 18; have hfz21_19 := blk_frozen BK224.out 19; have hfz21_20 := blk_frozen BK224.out 20; have hfz21_21 := blk_frozen BK224.out 21; have hfz21_22 := blk_frozen BK224.out 22; have hfz21_23 := blk_frozen BK224.out 23; have hfz21_24 := blk_frozen BK224.out 24) | ((with_reducible refine gate_callee (f := 24) rfl ?_); refine goesL_ (some 13) rfl rfl Try.func24 (by kernel_rfl) rfl #[.int .i64 a0, .agg #[.int .i64 a1_0, .bool a1_1, .bool a1_2, .int .i64 a1_3, .int .i64 a1_4, .string a1_5, .string a1_6, .bool a1_7, .int .i64 a1_8, .string a1_9, .bool a1_10, .string a1_11, .bool a1_12, .string a1_13, .bool a1_14, .string a1_15, .string a1_16, .int .i64 a1_17, .bool a1_18, .slice A1_19 l1_19.length c1_19, .bool a1_20, .int .i64 a1_21, .slice A1_22 l1_22.length c1_22, .slice A1_23 l1_23.length c1_23, .slice A1_24 l1_24.length c1_24]] rfl (by (try simp only [List.map_toArray, List.map_cons, List.map_nil]); first | done | rfl | (simp only [List.length_drop, List.length_take]; rfl)) ?_; (with_reducible refine (publish_Valid.calls k a0 a1_0 a1_1 a1_2 a1_3 a1_4 a1_5 a1_6 a1_7 a1_8 a1_9 a1_10 a1_11 a1_12 a1_13 a1_14 a1_15 a1_16 a1_17 a1_18 _ _ l1_19 a1_20 a1_21 _ _ l1_22 _ _ l1_23 _ _ l1_24 t225 _ ?side1 ?side2 ?side3 ?side4 ?side5 ?side6 ?side7 ?side8 A3.out).mono ?_); (case side1 => repeat (first | exact (Kd.C_below HR1_19.out HB.out) | (with_reducible refine Kd.C_alloc ?_ _) | (with_reducible refine Kd.C_drewN ?_ _) | (with_reducible refine Kd.C_drew ?_))); (case side2 => exact HC1_19.out); (case side3 => repeat (first | exact (Kd.C_below HR1_22.out HB.out) | (with_reducible refine Kd.C_alloc ?_ _) | (with_reducible refine Kd.C_drewN ?_ _) | (with_reducible refine Kd.C_drew ?_))); (case side4 => exact HC1_22.out); (case side5 => repeat (first | exact (Kd.C_below HR1_23.out HB.out) | (with_reducible refine Kd.C_alloc ?_ _) | (with_reducible refine Kd.C_drewN ?_ _) | (with_reducible refine Kd.C_drew ?_))); (case side6 => exact HC1_23.out); (case side7 => repeat (first | exact (Kd.C_below HR1_24.out HB.out) | (with_reducible refine Kd.C_alloc ?_ _) | (with_reducible refine Kd.C_drewN ?_ _) | (with_reducible refine Kd.C_drew ?_))); (case side8 => exact HC1_24.out); rintro e w22 ⟨rfl, hb⟩; refine ⟨_, rfl, ?_⟩; have n0_ := Aside0.mk (blk_below (g := gb224) (o := .cells #[.int .i64 a1_0, .bool a1_1, .bool a1_2, .int .i64 a1_3, .int .i64 a1_4, .string a1_5, .string a1_6, .bool a1_7, .int .i64 a1_8, .string a1_9, .bool a1_10, .string a1_11, .bool a1_12, .string a1_13, .bool a1_14, .string a1_15, .string a1_16, .int .i64 a1_17, .bool a1_18, .slice A1_19 l1_19.length c1_19, .bool a1_20, .int .i64 a1_21, .slice A1_22 l1_22.length c1_22, .slice A1_23 l1_23.length c1_23, .slice A1_24 l1_24.length c1_24] 48 (0, 0)) (by (with_reducible repeat (first | refine blk_drewN ?_ _ | refine blk_drew ?_ | refine blk_alloc ?_ _)); exact BK224.out) hb); have n1_ := Aside0.mk (below_step (by repeat (first | (with_reducible first | exact HB.out | apply below_alloc | apply pw_below_drewN | apply below_drew1 | refine below_set ?_ GE224.out) | exact HB.out)) hb); clear BK224; clear HB; have BK224 := n0_; have HB := n1_; clear n0_ n1_; (try clear hb); (try clear hb2); (try clear hk); (try clear hi); have hcz23_0 : w22.cell? ⟨gb224, 0, none⟩ = some (.int .i64 a1_0) := (blk_cell BK224.out 0).trans rfl; have hcz23_1 : w22.cell? ⟨gb224, 1, none⟩ = some (.bool a1_1) := (blk_cell BK224.out 1).trans rfl; have hcz23_2 : w22.cell? ⟨gb224, 2, none⟩ = some (.bool a1_2) := (blk_cell BK224.out 2).trans rfl; have hcz23_3 : w22.cell? ⟨gb224, 3, none⟩ = some (.int .i64 a1_3) := (blk_cell BK224.out 3).trans rfl; have hcz23_4 : w22.cell? ⟨gb224, 4, none⟩ = some (.int .i64 a1_4) := (blk_cell BK224.out 4).trans rfl; have hcz23_5 : w22.cell? ⟨gb224, 5, none⟩ = some (.string a1_5) := (blk_cell BK224.out 5).trans rfl; have hcz23_6 : w22.cell? ⟨gb224, 6, none⟩ = some (.string a1_6) := (blk_cell BK224.out 6).trans rfl; have hcz23_7 : w22.cell? ⟨gb224, 7, none⟩ = some (.bool a1_7) := (blk_cell BK224.out 7).trans rfl; have hcz23_8 : w22.cell? ⟨gb224, 8, none⟩ = some (.int .i64 a1_8) := (blk_cell BK224.out 8).trans rfl; have hcz23_9 : w22.cell? ⟨gb224, 9, none⟩ = some (.string a1_9) := (blk_cell BK224.out 9).trans rfl; have hcz23_10 : w22.cell? ⟨gb224, 10, none⟩ = some (.bool a1_10) := (blk_cell BK224.out 10).trans rfl; have hcz23_11 : w22.cell? ⟨gb224, 11, none⟩ = some (.string a1_11) := (blk_cell BK224.out 11).trans rfl; have hcz23_12 : w22.cell? ⟨gb224, 12, none⟩ = some (.bool a1_12) := (blk_cell BK224.out 12).trans rfl; have hcz23_13 : w22.cell? ⟨gb224, 13, none⟩ = some (.string a1_13) := (blk_cell BK224.out 13).trans rfl; have hcz23_14 : w22.cell? ⟨gb224, 14, none⟩ = some (.bool a1_14) := (blk_cell BK224.out 14).trans rfl; have hcz23_15 : w22.cell? ⟨gb224, 15, none⟩ = some (.string a1_15) := (blk_cell BK224.out 15).trans rfl; have hcz23_16 : w22.cell? ⟨gb224, 16, none⟩ = some (.string a1_16) := (blk_cell BK224.out 16).trans rfl; have hcz23_17 : w22.cell? ⟨gb224, 17, none⟩ = some (.int .i64 a1_17) := (blk_cell BK224.out 17).trans rfl; have hcz23_18 : w22.cell? ⟨gb224, 18, none⟩ = some (.bool a1_18) := (blk_cell BK224.out 18).trans rfl; have hcz23_19 : w22.cell? ⟨gb224, 19, none⟩ = some (.slice A1_19 l1_19.length c1_19) := (blk_cell BK224.out 19).trans rfl; have hcz23_20 : w22.cell? ⟨gb224, 20, none⟩ = some (.bool a1_20) := (blk_cell BK224.out 20).trans rfl; have hcz23_21 : w22.cell? ⟨gb224, 21, none⟩ = some (.int .i64 a1_21) := (blk_cell BK224.out 21).trans rfl; have hcz23_22 : w22.cell? ⟨gb224, 22, none⟩ = some (.slice A1_22 l1_22.length c1_22) := (blk_cell BK224.out 22).trans rfl; have hcz23_23 : w22.cell? ⟨gb224, 23, none⟩ = some (.slice A1_23 l1_23.length c1_23) := (blk_cell BK224.out 23).trans rfl; have hcz23_24 : w22.cell? ⟨gb224, 24, none⟩ = some (.slice A1_24 l1_24.length c1_24) := (blk_cell BK224.out 24).trans rfl; have hfz23_0 := blk_frozen BK224.out 0; have hfz23_1 := blk_frozen BK224.out 1; have hfz23_2 := blk_frozen BK224.out 2; have hfz23_3 := blk_frozen BK224.out 3; have hfz23_4 := blk_frozen BK224.out 4; have hfz23_5 := blk_frozen BK224.out 5; have hfz23_6 := blk_frozen BK224.out 6; have hfz23_7 := blk_frozen BK224.out 7; have hfz23_8 := blk_frozen BK224.out 8; have hfz23_9 := blk_frozen BK224.out 9; have hfz23_10 := blk_frozen BK224.out 10; have hfz23_11 := blk_frozen BK224.out 11; have hfz23_12 := blk_frozen BK224.out 12; have hfz23_13 := blk_frozen BK224.out 13; have hfz23_14 := blk_frozen BK224.out 14; have hfz23_15 := blk_frozen BK224.out 15; have hfz23_16 := blk_frozen BK224.out 16; have hfz23_17 := blk_frozen BK224.out 17; have hfz23_18 := blk_frozen BK224.out 18; have hfz23_19 := blk_frozen BK224.out 19; have hfz23_20 := blk_frozen BK224.out 20; have hfz23_21 := blk_frozen BK224.out 21; have hfz23_22 := blk_frozen BK224.out 22; have hfz23_23 := blk_frozen BK224.out 23; have hfz23_24 := blk_frozen BK224.out 24) | ((with_reducible refine gate_callee (f := 55) rfl ?_); refine goesL_ (some 20) rfl rfl Try.func55 (by kernel_rfl) rfl #[.string a1_5] rfl (by (try simp only [List.map_toArray, List.map_cons, List.map_nil]); first | done | rfl | (simp only [List.length_drop, List.length_take]; rfl)) ?_; (with_reducible refine (ustring_Text.calls k a1_5 t226 t227 _ A5.out).mono ?_); rintro e w24 ⟨rfl, hb⟩; refine ⟨_, rfl, ?_⟩; have n0_ := Aside0.mk (blk_below (g := gb224) (o := .cells #[.int .i64 a1_0, .bool a1_1, .bool a1_2, .int .i64 a1_3, .int .i64 a1_4, .string a1_5, .string a1_6, .bool a1_7, .int .i64 a1_8, .string a1_9, .bool a1_10, .string a1_11, .bool a1_12, .string a1_13, .bool a1_14, .string a1_15, .string a1_16, .int .i64 a1_17, .bool a1_18, .slice A1_19 l1_19.length c1_19, .bool a1_20, .int .i64 a1_21, .slice A1_22 l1_22.length c1_22, .slice A1_23 l1_23.length c1_23, .slice A1_24 l1_24.length c1_24] 48 (0, 0)) (by (with_reducible repeat (first | refine blk_drewN ?_ _ | refine blk_drew ?_ | refine blk_alloc ?_ _)); exact BK224.out) hb); have n1_ := Aside0.mk (below_step (by repeat (first | (with_reducible first | exact HB.out | apply below_alloc | apply pw_below_drewN | apply below_drew1 | refine below_set ?_ GE224.out) | exact HB.out)) hb); clear BK224; clear HB; have BK224 := n0_; have HB := n1_; clear n0_ n1_; (try clear hb); (try clear hb2); (try clear hk); (try clear hi); have hcz25_0 : w24.cell? ⟨gb224, 0, none⟩ = some (.int .i64 a1_0) := (blk_cell BK224.out 0).trans rfl; have hcz25_1 : w24.cell? ⟨gb224, 1, none⟩ = some (.bool a1_1) := (blk_cell BK224.out 1).trans rfl; have hcz25_2 : w24.cell? ⟨gb224, 2, none⟩ = some (.bool a1_2) := (blk_cell BK224.out 2).trans rfl; have hcz25_3 : w24.cell? ⟨gb224, 3, none⟩ = some (.int .i64 a1_3) := (blk_cell BK224.out 3).trans rfl; have hcz25_4 : w24.cell? ⟨gb224, 4, none⟩ = some (.int .i64 a1_4) := (blk_cell BK224.out 4).trans rfl; have hcz25_5 : w24.cell? ⟨gb224, 5, none⟩ = some (.string a1_5) := (blk_cell BK224.out 5).trans rfl; have hcz25_6 : w24.cell? ⟨gb224, 6, none⟩ = some (.string a1_6) := (blk_cell BK224.out 6).trans rfl; have hcz25_7 : w24.cell? ⟨gb224, 7, none⟩ = some (.bool a1_7) := (blk_cell BK224.out 7).trans rfl; have hcz25_8 : w24.cell? ⟨gb224, 8, none⟩ = some (.int .i64 a1_8) := (blk_cell BK224.out 8).trans rfl; have hcz25_9 : w24.cell? ⟨gb224, 9, none⟩ = some (.string a1_9) := (blk_cell BK224.out 9).trans rfl; have hcz25_10 : w24.cell? ⟨gb224, 10, none⟩ = some (.bool a1_10) := (blk_cell BK224.out 10).trans rfl; have hcz25_11 : w24.cell? ⟨gb224, 11, none⟩ = some (.string a1_11) := (blk_cell BK224.out 11).trans rfl; have hcz25_12 : w24.cell? ⟨gb224, 12, none⟩ = some (.bool a1_12) := (blk_cell BK224.out 12).trans rfl; have hcz25_13 : w24.cell? ⟨gb224, 13, none⟩ = some (.string a1_13) := (blk_cell BK224.out 13).trans rfl; have hcz25_14 : w24.cell? ⟨gb224, 14, none⟩ = some (.bool a1_14) := (blk_cell BK224.out 14).trans rfl; have hcz25_15 : w24.cell? ⟨gb224, 15, none⟩ = some (.string a1_15) := (blk_cell BK224.out 15).trans rfl; have hcz25_16 : w24.cell? ⟨gb224, 16, none⟩ = some (.string a1_16) := (blk_cell BK224.out 16).trans rfl; have hcz25_17 : w24.cell? ⟨gb224, 17, none⟩ = some (.int .i64 a1_17) := (blk_cell BK224.out 17).trans rfl; have hcz25_18 : w24.cell? ⟨gb224, 18, none⟩ = some (.bool a1_18) := (blk_cell BK224.out 18).trans rfl; have hcz25_19 : w24.cell? ⟨gb224, 19, none⟩ = some (.slice A1_19 l1_19.length c1_19) := (blk_cell BK224.out 19).trans rfl; have hcz25_20 : w24.cell? ⟨gb224, 20, none⟩ = some (.bool a1_20) := (blk_cell BK224.out 20).trans rfl; have hcz25_21 : w24.cell? ⟨gb224, 21, none⟩ = some (.int .i64 a1_21) := (blk_cell BK224.out 21).trans rfl; have hcz25_22 : w24.cell? ⟨gb224, 22, none⟩ = some (.slice A1_22 l1_22.length c1_22) := (blk_cell BK224.out 22).trans rfl; have hcz25_23 : w24.cell? ⟨gb224, 23, none⟩ = some (.slice A1_23 l1_23.length c1_23) := (blk_cell BK224.out 23).trans rfl; have hcz25_24 : w24.cell? ⟨gb224, 24, none⟩ = some (.slice A1_24 l1_24.length c1_24) := (blk_cell BK224.out 24).trans rfl; have hfz25_0 := blk_frozen BK224.out 0; have hfz25_1 := blk_frozen BK224.out 1; have hfz25_2 := blk_frozen BK224.out 2; have hfz25_3 := blk_frozen BK224.out 3; have hfz25_4 := blk_frozen BK224.out 4; have hfz25_5 := blk_frozen BK224.out 5; have hfz25_6 := blk_frozen BK224.out 6; have hfz25_7 := blk_frozen BK224.out 7; have hfz25_8 := blk_frozen BK224.out 8; have hfz25_9 := blk_frozen BK224.out 9; have hfz25_10 := blk_frozen BK224.out 10; have hfz25_11 := blk_frozen BK224.out 11; have hfz25_12 := blk_frozen BK224.out 12; have hfz25_13 := blk_frozen BK224.out 13; have hfz25_14 := blk_frozen BK224.out 14; have hfz25_15 := blk_frozen BK224.out 15; have hfz25_16 := blk_frozen BK224.out 16; have hfz25_17 := blk_frozen BK224.out 17; have hfz25_18 := blk_frozen BK224.out 18; have hfz25_19 := blk_frozen BK224.out 19; have hfz25_20 := blk_frozen BK224.out 20; have hfz25_21 := blk_frozen BK224.out 21; have hfz25_22 := blk_frozen BK224.out 22; have hfz25_23 := blk_frozen BK224.out 23; have hfz25_24 := blk_frozen BK224.out 24))
          go_ret2
          exact ⟨by first | rfl | (simp [errW_none, errW_some] <;> rfl) | (simp [*, errW_none, errW_some] <;> rfl), by repeat (first | (with_reducible first | exact HB.out | apply below_alloc | apply pw_below_drewN | apply below_drew1 | refine below_set ?_ GE224.out) | exact HB.out)⟩
        · rw [if_neg c19] at H
          exact absurd H (by simp)
    · rw [if_neg c6] at H
      have c6b0 : (a1_3 == 0) = false := beq_eq_false_iff_ne.mpr c6
      have c6b1 : (a1_3 != 0) = true := bne_iff_ne.mpr c6
      replace H := Option.bind_eq_some_iff.mp H
      obtain ⟨t230, A260, H⟩ := H
      replace H : (if t226.size + t230.size ≤ 9223372036854775807 then (if a0 = 5 then ((prop_Bytes.f a1_0 l1_24).bind fun bt231 => (if (t226 ++ t230).size + bt231.1.size ≤ 9223372036854775807 then (if ((t226 ++ t230) ++ bt231.1).size + a1_6.size ≤ 9223372036854775807 then (some (((t226 ++ t230) ++ bt231.1) ++ a1_6, 0)) else (none)) else (none))) else (if (t226 ++ t230).size + a1_6.size ≤ 9223372036854775807 then (some ((t226 ++ t230) ++ a1_6, 0)) else (none))) else (none)) = some (r1, r2) := H
      have A26 := Aside0.mk A260
      clear A260
      by_cases c27 : t226.size + t230.size ≤ 9223372036854775807
      · rw [if_pos c27] at H
        have c27b0 := eq_true c27
        have c27b1 : decide (t226.size + t230.size ≤ 9223372036854775807) = true := decide_eq_true c27
        try have c27b2 : (9223372036854775807 < t226.size + t230.size) = False := eq_false (Nat.not_lt.2 c27)
        by_cases c28 : a0 = 5
        · rw [if_pos c28] at H
          have c28b0 : (a0 == 5) = true := beq_iff_eq.mpr c28
          have c28b1 : (a0 != 5) = false := bne_eq_false_iff_eq.mpr c28
          clear c28
          replace H := Option.bind_eq_some_iff.mp H
          obtain ⟨⟨t231, t232⟩, A290, H⟩ := H
          replace H : (if (t226 ++ t230).size + t231.size ≤ 9223372036854775807 then (if ((t226 ++ t230) ++ t231).size + a1_6.size ≤ 9223372036854775807 then (some (((t226 ++ t230) ++ t231) ++ a1_6, 0)) else (none)) else (none)) = some (r1, r2) := H
          have A29 := Aside0.mk A290
          clear A290
          by_cases c30 : (t226 ++ t230).size + t231.size ≤ 9223372036854775807
          · rw [if_pos c30] at H
            have c30b0 := eq_true c30
            have c30b1 : decide ((t226 ++ t230).size + t231.size ≤ 9223372036854775807) = true := decide_eq_true c30
            try have c30b2 : (9223372036854775807 < (t226 ++ t230).size + t231.size) = False := eq_false (Nat.not_lt.2 c30)
            by_cases c31 : ((t226 ++ t230) ++ t231).size + a1_6.size ≤ 9223372036854775807
            · rw [if_pos c31] at H
              have c31b0 := eq_true c31
              have c31b1 : decide (((t226 ++ t230) ++ t231).size + a1_6.size ≤ 9223372036854775807) = true := decide_eq_true c31
              try have c31b2 : (9223372036854775807 < ((t226 ++ t230) ++ t231).size + a1_6.size) = False := eq_false (Nat.not_lt.2 c31)
              simp only [Option.some.injEq, Prod.mk.injEq] at H
              obtain ⟨rfl, rfl⟩ := H
              go_enter Try.func26, Try.ntmps26
              go_wp2_with (first | ((with_reducible refine publish_Body.gl rfl ?_); (try (refine gate_guard (by first | rfl | (simp [*]; done) | fail) ?_; dsimp only)); refine wpList_load_row rfl 48 _ rfl _ (by rfl) 48 _ _ _ (by first | exact Aside0.out (by with_reducible assumption) | ((with_reducible repeat (first | refine blk_drewN ?_ _ | refine blk_drew ?_ | refine blk_alloc ?_ _)); exact Aside0.out (by with_reducible assumption)) | (refine blk_put (Aside0.out (by with_reducible assumption)) 24 _ ?_; simp only [List.setIfInBounds_toArray, List.set_cons_zero, List.set_cons_succ]; rfl) | (apply blk_put (i := 24); (case h => exact Aside0.out (by with_reducible assumption)); (case e => (simp only [List.setIfInBounds_toArray, List.set_cons_zero, List.set_cons_succ]; rfl)))) Try.underlying48 rfl (by kernel_rfl) ?_) | ((with_reducible refine gate_dst (N := 3) rfl ?_); refine box_event ?hg (N := 3) ?hd (cs := #[.int .i64 a1_0, .bool a1_1, .bool a1_2, .int .i64 a1_3, .int .i64 a1_4, .string a1_5, .string a1_6, .bool a1_7, .int .i64 a1_8, .string a1_9, .bool a1_10, .string a1_11, .bool a1_12, .string a1_13, .bool a1_14, .string a1_15, .string a1_16, .int .i64 a1_17, .bool a1_18, .slice A1_19 l1_19.length c1_19, .bool a1_20, .int .i64 a1_21, .slice A1_22 l1_22.length c1_22, .slice A1_23 l1_23.length c1_23, .slice A1_24 l1_24.length c1_24]) (t := 48) ?hr ?_; (case hd => rfl); (case hg => rfl); (case hr => first | (go_simp; done) | (go_simp; rfl)); intro gb224 hg w32 hbox hb; have n0_ := Aside0.mk (below_step (by repeat (first | (with_reducible first | exact HB.out | apply below_alloc | apply pw_below_drewN | apply below_drew1) | exact HB.out)) hb); have n1_ := Aside0.mk (hbox); have n2_ := Aside0.mk ((by rw [hg]; exact (below_size (by repeat (first | (with_reducible first | exact HB.out | apply below_alloc | apply pw_below_drewN | apply below_drew1) | exact HB.out))) : w.heap.size ≤ gb224)); have n3_ := Aside0.mk ((by rw [hg]; exact (below_size (by repeat (first | (with_reducible first | exact HB.out | apply below_alloc | apply pw_below_drewN | apply below_drew1) | exact HB.out))) : w.heap.size ≤ gb224)); clear HB; have HB := n0_; have BK224 := n1_; have GW224 := n2_; have GE224 := n3_; clear n0_ n1_ n2_ n3_; clear hb hbox hg; have hcz33_0 : w32.cell? ⟨gb224, 0, none⟩ = some (.int .i64 a1_0) := (blk_cell BK224.out 0).trans rfl; have hcz33_1 : w32.cell? ⟨gb224, 1, none⟩ = some (.bool a1_1) := (blk_cell BK224.out 1).trans rfl; have hcz33_2 : w32.cell? ⟨gb224, 2, none⟩ = some (.bool a1_2) := (blk_cell BK224.out 2).trans rfl; have hcz33_3 : w32.cell? ⟨gb224, 3, none⟩ = some (.int .i64 a1_3) := (blk_cell BK224.out 3).trans rfl; have hcz33_4 : w32.cell? ⟨gb224, 4, none⟩ = some (.int .i64 a1_4) := (blk_cell BK224.out 4).trans rfl; have hcz33_5 : w32.cell? ⟨gb224, 5, none⟩ = some (.string a1_5) := (blk_cell BK224.out 5).trans rfl; have hcz33_6 : w32.cell? ⟨gb224, 6, none⟩ = some (.string a1_6) := (blk_cell BK224.out 6).trans rfl; have hcz33_7 : w32.cell? ⟨gb224, 7, none⟩ = some (.bool a1_7) := (blk_cell BK224.out 7).trans rfl; have hcz33_8 : w32.cell? ⟨gb224, 8, none⟩ = some (.int .i64 a1_8) := (blk_cell BK224.out 8).trans rfl; have hcz33_9 : w32.cell? ⟨gb224, 9, none⟩ = some (.string a1_9) := (blk_cell BK224.out 9).trans rfl; have hcz33_10 : w32.cell? ⟨gb224, 10, none⟩ = some (.bool a1_10) := (blk_cell BK224.out 10).trans rfl; have hcz33_11 : w32.cell? ⟨gb224, 11, none⟩ = some (.string a1_11) := (blk_cell BK224.out 11).trans rfl; have hcz33_12 : w32.cell? ⟨gb224, 12, none⟩ = some (.bool a1_12) := (blk_cell BK224.out 12).trans rfl; have hcz33_13 : w32.cell? ⟨gb224, 13, none⟩ = some (.string a1_13) := (blk_cell BK224.out 13).trans rfl; have hcz33_14 : w32.cell? ⟨gb224, 14, none⟩ = some (.bool a1_14) := (blk_cell BK224.out 14).trans rfl; have hcz33_15 : w32.cell? ⟨gb224, 15, none⟩ = some (.string a1_15) := (blk_cell BK224.out 15).trans rfl; have hcz33_16 : w32.cell? ⟨gb224, 16, none⟩ = some (.string a1_16) := (blk_cell BK224.out 16).trans rfl; have hcz33_17 : w32.cell? ⟨gb224, 17, none⟩ = some (.int .i64 a1_17) := (blk_cell BK224.out 17).trans rfl; have hcz33_18 : w32.cell? ⟨gb224, 18, none⟩ = some (.bool a1_18) := (blk_cell BK224.out 18).trans rfl; have hcz33_19 : w32.cell? ⟨gb224, 19, none⟩ = some (.slice A1_19 l1_19.length c1_19) := (blk_cell BK224.out 19).trans rfl; have hcz33_20 : w32.cell? ⟨gb224, 20, none⟩ = some (.bool a1_20) := (blk_cell BK224.out 20).trans rfl; have hcz33_21 : w32.cell? ⟨gb224, 21, none⟩ = some (.int .i64 a1_21) := (blk_cell BK224.out 21).trans rfl; have hcz33_22 : w32.cell? ⟨gb224, 22, none⟩ = some (.slice A1_22 l1_22.length c1_22) := (blk_cell BK224.out 22).trans rfl; have hcz33_23 : w32.cell? ⟨gb224, 23, none⟩ = some (.slice A1_23 l1_23.length c1_23) := (blk_cell BK224.out 23).trans rfl; have hcz33_24 : w32.cell? ⟨gb224, 24, none⟩ = some (.slice A1_24 l1_24.length c1_24) := (blk_cell BK224.out 24).trans rfl; have hfz33_0 := blk_frozen BK224.out 0; have hfz33_1 := blk_frozen BK224.out 1; have hfz33_2 := blk_frozen BK224.out 2; have hfz33_3 := blk_frozen BK224.out 3; have hfz33_4 := blk_frozen BK224.out 4; have hfz33_5 := blk_frozen BK224.out 5; have hfz33_6 := blk_frozen BK224.out 6; have hfz33_7 := blk_frozen BK224.out 7; have hfz33_8 := blk_frozen BK224.out 8; have hfz33_9 := blk_frozen BK224.out 9; have hfz33_10 := blk_frozen BK224.out 10; have hfz33_11 := blk_frozen BK224.out 11; have hfz33_12 := blk_frozen BK224.out 12; have hfz33_13 := blk_frozen BK224.out 13; have hfz33_14 := blk_frozen BK224.out 14; have hfz33_15 := blk_frozen BK224.out 15; have hfz33_16 := blk_frozen BK224.out 16; have hfz33_17 := blk_frozen BK224.out 17; have hfz33_18 := blk_frozen BK224.out 18; have hfz33_19 := blk_frozen BK224.out 19; have hfz33_20 := blk_frozen BK224.out 20; have hfz33_21 := blk_frozen BK224.out 21; have hfz33_22 := blk_frozen BK224.out 22; have hfz33_23 := blk_frozen BK224.out 23; have hfz33_24 := blk_frozen BK224.out 24) | ((with_reducible refine gate_callee (f := 24) rfl ?_); refine goesL_ (some 13) rfl rfl Try.func24 (by kernel_rfl) rfl #[.int .i64 a0, .agg #[.int .i64 a1_0, .bool a1_1, .bool a1_2, .int .i64 a1_3, .int .i64 a1_4, .string a1_5, .string a1_6, .bool a1_7, .int .i64 a1_8, .string a1_9, .bool a1_10, .string a1_11, .bool a1_12, .string a1_13, .bool a1_14, .string a1_15, .string a1_16, .int .i64 a1_17, .bool a1_18, .slice A1_19 l1_19.length c1_19, .bool a1_20, .int .i64 a1_21, .slice A1_22 l1_22.length c1_22, .slice A1_23 l1_23.length c1_23, .slice A1_24 l1_24.length c1_24]] rfl (by (try simp only [List.map_toArray, List.map_cons, List.map_nil]); first | done | rfl | (simp only [List.length_drop, List.length_take]; rfl)) ?_; (with_reducible refine (publish_Valid.calls k a0 a1_0 a1_1 a1_2 a1_3 a1_4 a1_5 a1_6 a1_7 a1_8 a1_9 a1_10 a1_11 a1_12 a1_13 a1_14 a1_15 a1_16 a1_17 a1_18 _ _ l1_19 a1_20 a1_21 _ _ l1_22 _ _ l1_23 _ _ l1_24 t225 _ ?side1 ?side2 ?side3 ?side4 ?side5 ?side6 ?side7 ?side8 A3.out).mono ?_); (case side1 => repeat (first | exact (Kd.C_below HR1_19.out HB.out) | (with_reducible refine Kd.C_alloc ?_ _) | (with_reducible refine Kd.C_drewN ?_ _) | (with_reducible refine Kd.C_drew ?_))); (case side2 => exact HC1_19.out); (case side3 => repeat (first | exact (Kd.C_below HR1_22.out HB.out) | (with_reducible refine Kd.C_alloc ?_ _) | (with_reducible refine Kd.C_drewN ?_ _) | (with_reducible refine Kd.C_drew ?_))); (case side4 => exact HC1_22.out); (case side5 => repeat (first | exact (Kd.C_below HR1_23.out HB.out) | (with_reducible refine Kd.C_alloc ?_ _) | (with_reducible refine Kd.C_drewN ?_ _) | (with_reducible refine Kd.C_drew ?_))); (case side6 => exact HC1_23.out); (case side7 => repeat (first | exact (Kd.C_below HR1_24.out HB.out) | (with_reducible refine Kd.C_alloc ?_ _) | (with_reducible refine Kd.C_drewN ?_ _) | (with_reducible refine Kd.C_drew ?_))); (case side8 => exact HC1_24.out); rintro e w34 ⟨rfl, hb⟩; refine ⟨_, rfl, ?_⟩; have n0_ := Aside0.mk (blk_below (g := gb224) (o := .cells #[.int .i64 a1_0, .bool a1_1, .bool a1_2, .int .i64 a1_3, .int .i64 a1_4, .string a1_5, .string a1_6, .bool a1_7, .int .i64 a1_8, .string a1_9, .bool a1_10, .string a1_11, .bool a1_12, .string a1_13, .bool a1_14, .string a1_15, .string a1_16, .int .i64 a1_17, .bool a1_18, .slice A1_19 l1_19.length c1_19, .bool a1_20, .int .i64 a1_21, .slice A1_22 l1_22.length c1_22, .slice A1_23 l1_23.length c1_23, .slice A1_24 l1_24.length c1_24] 48 (0, 0)) (by (with_reducible repeat (first | refine blk_drewN ?_ _ | refine blk_drew ?_ | refine blk_alloc ?_ _)); exact BK224.out) hb); have n1_ := Aside0.mk (below_step (by repeat (first | (with_reducible first | exact HB.out | apply below_alloc | apply pw_below_drewN | apply below_drew1 | refine below_set ?_ GE224.out) | exact HB.out)) hb); clear BK224; clear HB; have BK224 := n0_; have HB := n1_; clear n0_ n1_; (try clear hb); (try clear hb2); (try clear hk); (try clear hi); have hcz35_0 : w34.cell? ⟨gb224, 0, none⟩ = some (.int .i64 a1_0) := (blk_cell BK224.out 0).trans rfl; have hcz35_1 : w34.cell? ⟨gb224, 1, none⟩ = some (.bool a1_1) := (blk_cell BK224.out 1).trans rfl; have hcz35_2 : w34.cell? ⟨gb224, 2, none⟩ = some (.bool a1_2) := (blk_cell BK224.out 2).trans rfl; have hcz35_3 : w34.cell? ⟨gb224, 3, none⟩ = some (.int .i64 a1_3) := (blk_cell BK224.out 3).trans rfl; have hcz35_4 : w34.cell? ⟨gb224, 4, none⟩ = some (.int .i64 a1_4) := (blk_cell BK224.out 4).trans rfl; have hcz35_5 : w34.cell? ⟨gb224, 5, none⟩ = some (.string a1_5) := (blk_cell BK224.out 5).trans rfl; have hcz35_6 : w34.cell? ⟨gb224, 6, none⟩ = some (.string a1_6) := (blk_cell BK224.out 6).trans rfl; have hcz35_7 : w34.cell? ⟨gb224, 7, none⟩ = some (.bool a1_7) := (blk_cell BK224.out 7).trans rfl; have hcz35_8 : w34.cell? ⟨gb224, 8, none⟩ = some (.int .i64 a1_8) := (blk_cell BK224.out 8).trans rfl; have hcz35_9 : w34.cell? ⟨gb224, 9, none⟩ = some (.string a1_9) := (blk_cell BK224.out 9).trans rfl; have hcz35_10 : w34.cell? ⟨gb224, 10, none⟩ = some (.bool a1_10) := (blk_cell BK224.out 10).trans rfl; have hcz35_11 : w34.cell? ⟨gb224, 11, none⟩ = some (.string a1_11) := (blk_cell BK224.out 11).trans rfl; have hcz35_12 : w34.cell? ⟨gb224, 12, none⟩ = some (.bool a1_12) := (blk_cell BK224.out 12).trans rfl; have hcz35_13 : w34.cell? ⟨gb224, 13, none⟩ = some (.string a1_13) := (blk_cell BK224.out 13).trans rfl; have hcz35_14 : w34.cell? ⟨gb224, 14, none⟩ = some (.bool a1_14) := (blk_cell BK224.out 14).trans rfl; have hcz35_15 : w34.cell? ⟨gb224, 15, none⟩ = some (.string a1_15) := (blk_cell BK224.out 15).trans rfl; have hcz35_16 : w34.cell? ⟨gb224, 16, none⟩ = some (.string a1_16) := (blk_cell BK224.out 16).trans rfl; have hcz35_17 : w34.cell? ⟨gb224, 17, none⟩ = some (.int .i64 a1_17) := (blk_cell BK224.out 17).trans rfl; have hcz35_18 : w34.cell? ⟨gb224, 18, none⟩ = some (.bool a1_18) := (blk_cell BK224.out 18).trans rfl; have hcz35_19 : w34.cell? ⟨gb224, 19, none⟩ = some (.slice A1_19 l1_19.length c1_19) := (blk_cell BK224.out 19).trans rfl; have hcz35_20 : w34.cell? ⟨gb224, 20, none⟩ = some (.bool a1_20) := (blk_cell BK224.out 20).trans rfl; have hcz35_21 : w34.cell? ⟨gb224, 21, none⟩ = some (.int .i64 a1_21) := (blk_cell BK224.out 21).trans rfl; have hcz35_22 : w34.cell? ⟨gb224, 22, none⟩ = some (.slice A1_22 l1_22.length c1_22) := (blk_cell BK224.out 22).trans rfl; have hcz35_23 : w34.cell? ⟨gb224, 23, none⟩ = some (.slice A1_23 l1_23.length c1_23) := (blk_cell BK224.out 23).trans rfl; have hcz35_24 : w34.cell? ⟨gb224, 24, none⟩ = some (.slice A1_24 l1_24.length c1_24) := (blk_cell BK224.out 24).trans rfl; have hfz35_0 := blk_frozen BK224.out 0; have hfz35_1 := blk_frozen BK224.out 1; have hfz35_2 := blk_frozen BK224.out 2; have hfz35_3 := blk_frozen BK224.out 3; have hfz35_4 := blk_frozen BK224.out 4; have hfz35_5 := blk_frozen BK224.out 5; have hfz35_6 := blk_frozen BK224.out 6; have hfz35_7 := blk_frozen BK224.out 7; have hfz35_8 := blk_frozen BK224.out 8; have hfz35_9 := blk_frozen BK224.out 9; have hfz35_10 := blk_frozen BK224.out 10; have hfz35_11 := blk_frozen BK224.out 11; have hfz35_12 := blk_frozen BK224.out 12; have hfz35_13 := blk_frozen BK224.out 13; have hfz35_14 := blk_frozen BK224.out 14; have hfz35_15 := blk_frozen BK224.out 15; have hfz35_16 := blk_frozen BK224.out 16; have hfz35_17 := blk_frozen BK224.out 17; have hfz35_18 := blk_frozen BK224.out 18; have hfz35_19 := blk_frozen BK224.out 19; have hfz35_20 := blk_frozen BK224.out 20; have hfz35_21 := blk_frozen BK224.out 21; have hfz35_22 := blk_frozen BK224.out 22; have hfz35_23 := blk_frozen BK224.out 23; have hfz35_24 := blk_frozen BK224.out 24) | ((with_reducible refine gate_callee (f := 55) rfl ?_); refine goesL_ (some 20) rfl rfl Try.func55 (by kernel_rfl) rfl #[.string a1_5] rfl (by (try simp only [List.map_toArray, List.map_cons, List.map_nil]); first | done | rfl | (simp only [List.length_drop, List.length_take]; rfl)) ?_; (with_reducible refine (ustring_Text.calls k a1_5 t226 t227 _ A5.out).mono ?_); rintro e w36 ⟨rfl, hb⟩; refine ⟨_, rfl, ?_⟩; have n0_ := Aside0.mk (blk_below (g := gb224) (o := .cells #[.int .i64 a1_0, .bool a1_1, .bool a1_2, .int .i64 a1_3, .int .i64 a1_4, .string a1_5, .string a1_6, .bool a1_7, .int .i64 a1_8, .string a1_9, .bool a1_10, .string a1_11, .bool a1_12, .string a1_13, .bool a1_14, .string a1_15, .string a1_16, .int .i64 a1_17, .bool a1_18, .slice A1_19 l1_19.length c1_19, .bool a1_20, .int .i64 a1_21, .slice A1_22 l1_22.length c1_22, .slice A1_23 l1_23.length c1_23, .slice A1_24 l1_24.length c1_24] 48 (0, 0)) (by (with_reducible repeat (first | refine blk_drewN ?_ _ | refine blk_drew ?_ | refine blk_alloc ?_ _)); exact BK224.out) hb); have n1_ := Aside0.mk (below_step (by repeat (first | (with_reducible first | exact HB.out | apply below_alloc | apply pw_below_drewN | apply below_drew1 | refine below_set ?_ GE224.out) | exact HB.out)) hb); clear BK224; clear HB; have BK224 := n0_; have HB := n1_; clear n0_ n1_; (try clear hb); (try clear hb2); (try clear hk); (try clear hi); have hcz37_0 : w36.cell? ⟨gb224, 0, none⟩ = some (.int .i64 a1_0) := (blk_cell BK224.out 0).trans rfl; have hcz37_1 : w36.cell? ⟨gb224, 1, none⟩ = some (.bool a1_1) := (blk_cell BK224.out 1).trans rfl; have hcz37_2 : w36.cell? ⟨gb224, 2, none⟩ = some (.bool a1_2) := (blk_cell BK224.out 2).trans rfl; have hcz37_3 : w36.cell? ⟨gb224, 3, none⟩ = some (.int .i64 a1_3) := (blk_cell BK224.out 3).trans rfl; have hcz37_4 : w36.cell? ⟨gb224, 4, none⟩ = some (.int .i64 a1_4) := (blk_cell BK224.out 4).trans rfl; have hcz37_5 : w36.cell? ⟨gb224, 5, none⟩ = some (.string a1_5) := (blk_cell BK224.out 5).trans rfl; have hcz37_6 : w36.cell? ⟨gb224, 6, none⟩ = some (.string a1_6) := (blk_cell BK224.out 6).trans rfl; have hcz37_7 : w36.cell? ⟨gb224, 7, none⟩ = some (.bool a1_7) := (blk_cell BK224.out 7).trans rfl; have hcz37_8 : w36.cell? ⟨gb224, 8, none⟩ = some (.int .i64 a1_8) := (blk_cell BK224.out 8).trans rfl; have hcz37_9 : w36.cell? ⟨gb224, 9, none⟩ = some (.string a1_9) := (blk_cell BK224.out 9).trans rfl; have hcz37_10 : w36.cell? ⟨gb224, 10, none⟩ = some (.bool a1_10) := (blk_cell BK224.out 10).trans rfl; have hcz37_11 : w36.cell? ⟨gb224, 11, none⟩ = some (.string a1_11) := (blk_cell BK224.out 11).trans rfl; have hcz37_12 : w36.cell? ⟨gb224, 12, none⟩ = some (.bool a1_12) := (blk_cell BK224.out 12).trans rfl; have hcz37_13 : w36.cell? ⟨gb224, 13, none⟩ = some (.string a1_13) := (blk_cell BK224.out 13).trans rfl; have hcz37_14 : w36.cell? ⟨gb224, 14, none⟩ = some (.bool a1_14) := (blk_cell BK224.out 14).trans rfl; have hcz37_15 : w36.cell? ⟨gb224, 15, none⟩ = some (.string a1_15) := (blk_cell BK224.out 15).trans rfl; have hcz37_16 : w36.cell? ⟨gb224, 16, none⟩ = some (.string a1_16) := (blk_cell BK224.out 16).trans rfl; have hcz37_17 : w36.cell? ⟨gb224, 17, none⟩ = some (.int .i64 a1_17) := (blk_cell BK224.out 17).trans rfl; have hcz37_18 : w36.cell? ⟨gb224, 18, none⟩ = some (.bool a1_18) := (blk_cell BK224.out 18).trans rfl; have hcz37_19 : w36.cell? ⟨gb224, 19, none⟩ = some (.slice A1_19 l1_19.length c1_19) := (blk_cell BK224.out 19).trans rfl; have hcz37_20 : w36.cell? ⟨gb224, 20, none⟩ = some (.bool a1_20) := (blk_cell BK224.out 20).trans rfl; have hcz37_21 : w36.cell? ⟨gb224, 21, none⟩ = some (.int .i64 a1_21) := (blk_cell BK224.out 21).trans rfl; have hcz37_22 : w36.cell? ⟨gb224, 22, none⟩ = some (.slice A1_22 l1_22.length c1_22) := (blk_cell BK224.out 22).trans rfl; have hcz37_23 : w36.cell? ⟨gb224, 23, none⟩ = some (.slice A1_23 l1_23.length c1_23) := (blk_cell BK224.out 23).trans rfl; have hcz37_24 : w36.cell? ⟨gb224, 24, none⟩ = some (.slice A1_24 l1_24.length c1_24) := (blk_cell BK224.out 24).trans rfl; have hfz37_0 := blk_frozen BK224.out 0; have hfz37_1 := blk_frozen BK224.out 1; have hfz37_2 := blk_frozen BK224.out 2; have hfz37_3 := blk_frozen BK224.out 3; have hfz37_4 := blk_frozen BK224.out 4; have hfz37_5 := blk_frozen BK224.out 5; have hfz37_6 := blk_frozen BK224.out 6; have hfz37_7 := blk_frozen BK224.out 7; have hfz37_8 := blk_frozen BK224.out 8; have hfz37_9 := blk_frozen BK224.out 9; have hfz37_10 := blk_frozen BK224.out 10; have hfz37_11 := blk_frozen BK224.out 11; have hfz37_12 := blk_frozen BK224.out 12; have hfz37_13 := blk_frozen BK224.out 13; have hfz37_14 := blk_frozen BK224.out 14; have hfz37_15 := blk_frozen BK224.out 15; have hfz37_16 := blk_frozen BK224.out 16; have hfz37_17 := blk_frozen BK224.out 17; have hfz37_18 := blk_frozen BK224.out 18; have hfz37_19 := blk_frozen BK224.out 19; have hfz37_20 := blk_frozen BK224.out 20; have hfz37_21 := blk_frozen BK224.out 21; have hfz37_22 := blk_frozen BK224.out 22; have hfz37_23 := blk_frozen BK224.out 23; have hfz37_24 := blk_frozen BK224.out 24) | ((with_reducible refine gate_callee (f := 56) rfl ?_); refine goesL_ (some 30) rfl rfl Try.func56 (by kernel_rfl) rfl #[.int .u64 (IntKind.u64.wrap (a1_4)), .int .i64 2] rfl (by (try simp only [List.map_toArray, List.map_cons, List.map_nil]); first | done | rfl | (simp only [List.length_drop, List.length_take]; rfl)) ?_; (with_reducible refine (octet_Put.calls k (IntKind.u64.wrap (a1_4)) 2 t230 _ A26.out).mono ?_); rintro e w38 ⟨rfl, hb⟩; refine ⟨_, rfl, ?_⟩; have n0_ := Aside0.mk (blk_below (g := gb224) (o := .cells #[.int .i64 a1_0, .bool a1_1, .bool a1_2, .int .i64 a1_3, .int .i64 a1_4, .string a1_5, .string a1_6, .bool a1_7, .int .i64 a1_8, .string a1_9, .bool a1_10, .string a1_11, .bool a1_12, .string a1_13, .bool a1_14, .string a1_15, .string a1_16, .int .i64 a1_17, .bool a1_18, .slice A1_19 l1_19.length c1_19, .bool a1_20, .int .i64 a1_21, .slice A1_22 l1_22.length c1_22, .slice A1_23 l1_23.length c1_23, .slice A1_24 l1_24.length c1_24] 48 (0, 0)) (by (with_reducible repeat (first | refine blk_drewN ?_ _ | refine blk_drew ?_ | refine blk_alloc ?_ _)); exact BK224.out) hb); have n1_ := Aside0.mk (below_step (by repeat (first | (with_reducible first | exact HB.out | apply below_alloc | apply pw_below_drewN | apply below_drew1 | refine below_set ?_ GE224.out) | exact HB.out)) hb); clear BK224; clear HB; have BK224 := n0_; have HB := n1_; clear n0_ n1_; (try clear hb); (try clear hb2); (try clear hk); (try clear hi); have hcz39_0 : w38.cell? ⟨gb224, 0, none⟩ = some (.int .i64 a1_0) := (blk_cell BK224.out 0).trans rfl; have hcz39_1 : w38.cell? ⟨gb224, 1, none⟩ = some (.bool a1_1) := (blk_cell BK224.out 1).trans rfl; have hcz39_2 : w38.cell? ⟨gb224, 2, none⟩ = some (.bool a1_2) := (blk_cell BK224.out 2).trans rfl; have hcz39_3 : w38.cell? ⟨gb224, 3, none⟩ = some (.int .i64 a1_3) := (blk_cell BK224.out 3).trans rfl; have hcz39_4 : w38.cell? ⟨gb224, 4, none⟩ = some (.int .i64 a1_4) := (blk_cell BK224.out 4).trans rfl; have hcz39_5 : w38.cell? ⟨gb224, 5, none⟩ = some (.string a1_5) := (blk_cell BK224.out 5).trans rfl; have hcz39_6 : w38.cell? ⟨gb224, 6, none⟩ = some (.string a1_6) := (blk_cell BK224.out 6).trans rfl; have hcz39_7 : w38.cell? ⟨gb224, 7, none⟩ = some (.bool a1_7) := (blk_cell BK224.out 7).trans rfl; have hcz39_8 : w38.cell? ⟨gb224, 8, none⟩ = some (.int .i64 a1_8) := (blk_cell BK224.out 8).trans rfl; have hcz39_9 : w38.cell? ⟨gb224, 9, none⟩ = some (.string a1_9) := (blk_cell BK224.out 9).trans rfl; have hcz39_10 : w38.cell? ⟨gb224, 10, none⟩ = some (.bool a1_10) := (blk_cell BK224.out 10).trans rfl; have hcz39_11 : w38.cell? ⟨gb224, 11, none⟩ = some (.string a1_11) := (blk_cell BK224.out 11).trans rfl; have hcz39_12 : w38.cell? ⟨gb224, 12, none⟩ = some (.bool a1_12) := (blk_cell BK224.out 12).trans rfl; have hcz39_13 : w38.cell? ⟨gb224, 13, none⟩ = some (.string a1_13) := (blk_cell BK224.out 13).trans rfl; have hcz39_14 : w38.cell? ⟨gb224, 14, none⟩ = some (.bool a1_14) := (blk_cell BK224.out 14).trans rfl; have hcz39_15 : w38.cell? ⟨gb224, 15, none⟩ = some (.string a1_15) := (blk_cell BK224.out 15).trans rfl; have hcz39_16 : w38.cell? ⟨gb224, 16, none⟩ = some (.string a1_16) := (blk_cell BK224.out 16).trans rfl; have hcz39_17 : w38.cell? ⟨gb224, 17, none⟩ = some (.int .i64 a1_17) := (blk_cell BK224.out 17).trans rfl; have hcz39_18 : w38.cell? ⟨gb224, 18, none⟩ = some (.bool a1_18) := (blk_cell BK224.out 18).trans rfl; have hcz39_19 : w38.cell? ⟨gb224, 19, none⟩ = some (.slice A1_19 l1_19.length c1_19) := (blk_cell BK224.out 19).trans rfl; have hcz39_20 : w38.cell? ⟨gb224, 20, none⟩ = some (.bool a1_20) := (blk_cell BK224.out 20).trans rfl; have hcz39_21 : w38.cell? ⟨gb224, 21, none⟩ = some (.int .i64 a1_21) := (blk_cell BK224.out 21).trans rfl; have hcz39_22 : w38.cell? ⟨gb224, 22, none⟩ = some (.slice A1_22 l1_22.length c1_22) := (blk_cell BK224.out 22).trans rfl; have hcz39_23 : w38.cell? ⟨gb224, 23, none⟩ = some (.slice A1_23 l1_23.length c1_23) := (blk_cell BK224.out 23).trans rfl; have hcz39_24 : w38.cell? ⟨gb224, 24, none⟩ = some (.slice A1_24 l1_24.length c1_24) := (blk_cell BK224.out 24).trans rfl; have hfz39_0 := blk_frozen BK224.out 0; have hfz39_1 := blk_frozen BK224.out 1; have hfz39_2 := blk_frozen BK224.out 2; have hfz39_3 := blk_frozen BK224.out 3; have hfz39_4 := blk_frozen BK224.out 4; have hfz39_5 := blk_frozen BK224.out 5; have hfz39_6 := blk_frozen BK224.out 6; have hfz39_7 := blk_frozen BK224.out 7; have hfz39_8 := blk_frozen BK224.out 8; have hfz39_9 := blk_frozen BK224.out 9; have hfz39_10 := blk_frozen BK224.out 10; have hfz39_11 := blk_frozen BK224.out 11; have hfz39_12 := blk_frozen BK224.out 12; have hfz39_13 := blk_frozen BK224.out 13; have hfz39_14 := blk_frozen BK224.out 14; have hfz39_15 := blk_frozen BK224.out 15; have hfz39_16 := blk_frozen BK224.out 16; have hfz39_17 := blk_frozen BK224.out 17; have hfz39_18 := blk_frozen BK224.out 18; have hfz39_19 := blk_frozen BK224.out 19; have hfz39_20 := blk_frozen BK224.out 20; have hfz39_21 := blk_frozen BK224.out 21; have hfz39_22 := blk_frozen BK224.out 22; have hfz39_23 := blk_frozen BK224.out 23; have hfz39_24 := blk_frozen BK224.out 24) | ((with_reducible refine gate_callee (f := 18) rfl ?_); refine goesL_ (some 39) rfl rfl Try.func18 (by kernel_rfl) rfl #[.int .i64 a1_0, .slice A1_24 l1_24.length c1_24] rfl (by (try simp only [List.map_toArray, List.map_cons, List.map_nil]); first | done | rfl | (simp only [List.length_drop, List.length_take]; rfl)) ?_; (with_reducible refine (prop_Bytes.calls a1_0 _ _ l1_24 t231 t232 _ ?side1 ?side2 A29.out).mono ?_); (case side1 => repeat (first | exact (Kd.C_below HR1_24.out HB.out) | (with_reducible refine Kd.C_alloc ?_ _) | (with_reducible refine Kd.C_drewN ?_ _) | (with_reducible refine Kd.C_drew ?_))); (case side2 => exact HC1_24.out); rintro e w40 ⟨rfl, hb⟩; refine ⟨_, rfl, ?_⟩; have n0_ := Aside0.mk (blk_below (g := gb224) (o := .cells #[.int .i64 a1_0, .bool a1_1, .bool a1_2, .int .i64 a1_3, .int .i64 a1_4, .string a1_5, .string a1_6, .bool a1_7, .int .i64 a1_8, .string a1_9, .bool a1_10, .string a1_11, .bool a1_12, .string a1_13, .bool a1_14, .string a1_15, .string a1_16, .int .i64 a1_17, .bool a1_18, .slice A1_19 l1_19.length c1_19, .bool a1_20, .int .i64 a1_21, .slice A1_22 l1_22.length c1_22, .slice A1_23 l1_23.length c1_23, .slice A1_24 l1_24.length c1_24] 48 (0, 0)) (by (with_reducible repeat (first | refine blk_drewN ?_ _ | refine blk_drew ?_ | refine blk_alloc ?_ _)); exact BK224.out) hb); have n1_ := Aside0.mk (below_step (by repeat (first | (with_reducible first | exact HB.out | apply below_alloc | apply pw_below_drewN | apply below_drew1 | refine below_set ?_ GE224.out) | exact HB.out)) hb); clear BK224; clear HB; have BK224 := n0_; have HB := n1_; clear n0_ n1_; (try clear hb); (try clear hb2); (try clear hk); (try clear hi); have hcz41_0 : w40.cell? ⟨gb224, 0, none⟩ = some (.int .i64 a1_0) := (blk_cell BK224.out 0).trans rfl; have hcz41_1 : w40.cell? ⟨gb224, 1, none⟩ = some (.bool a1_1) := (blk_cell BK224.out 1).trans rfl; have hcz41_2 : w40.cell? ⟨gb224, 2, none⟩ = some (.bool a1_2) := (blk_cell BK224.out 2).trans rfl; have hcz41_3 : w40.cell? ⟨gb224, 3, none⟩ = some (.int .i64 a1_3) := (blk_cell BK224.out 3).trans rfl; have hcz41_4 : w40.cell? ⟨gb224, 4, none⟩ = some (.int .i64 a1_4) := (blk_cell BK224.out 4).trans rfl; have hcz41_5 : w40.cell? ⟨gb224, 5, none⟩ = some (.string a1_5) := (blk_cell BK224.out 5).trans rfl; have hcz41_6 : w40.cell? ⟨gb224, 6, none⟩ = some (.string a1_6) := (blk_cell BK224.out 6).trans rfl; have hcz41_7 : w40.cell? ⟨gb224, 7, none⟩ = some (.bool a1_7) := (blk_cell BK224.out 7).trans rfl; have hcz41_8 : w40.cell? ⟨gb224, 8, none⟩ = some (.int .i64 a1_8) := (blk_cell BK224.out 8).trans rfl; have hcz41_9 : w40.cell? ⟨gb224, 9, none⟩ = some (.string a1_9) := (blk_cell BK224.out 9).trans rfl; have hcz41_10 : w40.cell? ⟨gb224, 10, none⟩ = some (.bool a1_10) := (blk_cell BK224.out 10).trans rfl; have hcz41_11 : w40.cell? ⟨gb224, 11, none⟩ = some (.string a1_11) := (blk_cell BK224.out 11).trans rfl; have hcz41_12 : w40.cell? ⟨gb224, 12, none⟩ = some (.bool a1_12) := (blk_cell BK224.out 12).trans rfl; have hcz41_13 : w40.cell? ⟨gb224, 13, none⟩ = some (.string a1_13) := (blk_cell BK224.out 13).trans rfl; have hcz41_14 : w40.cell? ⟨gb224, 14, none⟩ = some (.bool a1_14) := (blk_cell BK224.out 14).trans rfl; have hcz41_15 : w40.cell? ⟨gb224, 15, none⟩ = some (.string a1_15) := (blk_cell BK224.out 15).trans rfl; have hcz41_16 : w40.cell? ⟨gb224, 16, none⟩ = some (.string a1_16) := (blk_cell BK224.out 16).trans rfl; have hcz41_17 : w40.cell? ⟨gb224, 17, none⟩ = some (.int .i64 a1_17) := (blk_cell BK224.out 17).trans rfl; have hcz41_18 : w40.cell? ⟨gb224, 18, none⟩ = some (.bool a1_18) := (blk_cell BK224.out 18).trans rfl; have hcz41_19 : w40.cell? ⟨gb224, 19, none⟩ = some (.slice A1_19 l1_19.length c1_19) := (blk_cell BK224.out 19).trans rfl; have hcz41_20 : w40.cell? ⟨gb224, 20, none⟩ = some (.bool a1_20) := (blk_cell BK224.out 20).trans rfl; have hcz41_21 : w40.cell? ⟨gb224, 21, none⟩ = some (.int .i64 a1_21) := (blk_cell BK224.out 21).trans rfl; have hcz41_22 : w40.cell? ⟨gb224, 22, none⟩ = some (.slice A1_22 l1_22.length c1_22) := (blk_cell BK224.out 22).trans rfl; have hcz41_23 : w40.cell? ⟨gb224, 23, none⟩ = some (.slice A1_23 l1_23.length c1_23) := (blk_cell BK224.out 23).trans rfl; have hcz41_24 : w40.cell? ⟨gb224, 24, none⟩ = some (.slice A1_24 l1_24.length c1_24) := (blk_cell BK224.out 24).trans rfl; have hfz41_0 := blk_frozen BK224.out 0; have hfz41_1 := blk_frozen BK224.out 1; have hfz41_2 := blk_frozen BK224.out 2; have hfz41_3 := blk_frozen BK224.out 3; have hfz41_4 := blk_frozen BK224.out 4; have hfz41_5 := blk_frozen BK224.out 5; have hfz41_6 := blk_frozen BK224.out 6; have hfz41_7 := blk_frozen BK224.out 7; have hfz41_8 := blk_frozen BK224.out 8; have hfz41_9 := blk_frozen BK224.out 9; have hfz41_10 := blk_frozen BK224.out 10; have hfz41_11 := blk_frozen BK224.out 11; have hfz41_12 := blk_frozen BK224.out 12; have hfz41_13 := blk_frozen BK224.out 13; have hfz41_14 := blk_frozen BK224.out 14; have hfz41_15 := blk_frozen BK224.out 15; have hfz41_16 := blk_frozen BK224.out 16; have hfz41_17 := blk_frozen BK224.out 17; have hfz41_18 := blk_frozen BK224.out 18; have hfz41_19 := blk_frozen BK224.out 19; have hfz41_20 := blk_frozen BK224.out 20; have hfz41_21 := blk_frozen BK224.out 21; have hfz41_22 := blk_frozen BK224.out 22; have hfz41_23 := blk_frozen BK224.out 23; have hfz41_24 := blk_frozen BK224.out 24))
              go_ret2
              exact ⟨by first | rfl | (simp [errW_none, errW_some] <;> rfl) | (simp [*, errW_none, errW_some] <;> rfl), by repeat (first | (with_reducible first | exact HB.out | apply below_alloc | apply pw_below_drewN | apply below_drew1 | refine below_set ?_ GE224.out) | exact HB.out)⟩
            · rw [if_neg c31] at H
              exact absurd H (by simp)
          · rw [if_neg c30] at H
            exact absurd H (by simp)
        · rw [if_neg c28] at H
          have c28b0 : (a0 == 5) = false := beq_eq_false_iff_ne.mpr c28
          have c28b1 : (a0 != 5) = true := bne_iff_ne.mpr c28
          by_cases c42 : (t226 ++ t230).size + a1_6.size ≤ 9223372036854775807
          · rw [if_pos c42] at H
            have c42b0 := eq_true c42
            have c42b1 : decide ((t226 ++ t230).size + a1_6.size ≤ 9223372036854775807) = true := decide_eq_true c42
            try have c42b2 : (9223372036854775807 < (t226 ++ t230).size + a1_6.size) = False := eq_false (Nat.not_lt.2 c42)
            simp only [Option.some.injEq, Prod.mk.injEq] at H
            obtain ⟨rfl, rfl⟩ := H
            go_enter Try.func26, Try.ntmps26
            go_wp2_with (first | ((with_reducible refine publish_Body.gl rfl ?_); (try (refine gate_guard (by first | rfl | (simp [*]; done) | fail) ?_; dsimp only)); refine wpList_load_row rfl 48 _ rfl _ (by rfl) 48 _ _ _ (by first | exact Aside0.out (by with_reducible assumption) | ((with_reducible repeat (first | refine blk_drewN ?_ _ | refine blk_drew ?_ | refine blk_alloc ?_ _)); exact Aside0.out (by with_reducible assumption)) | (refine blk_put (Aside0.out (by with_reducible assumption)) 24 _ ?_; simp only [List.setIfInBounds_toArray, List.set_cons_zero, List.set_cons_succ]; rfl) | (apply blk_put (i := 24); (case h => exact Aside0.out (by with_reducible assumption)); (case e => (simp only [List.setIfInBounds_toArray, List.set_cons_zero, List.set_cons_succ]; rfl)))) Try.underlying48 rfl (by kernel_rfl) ?_) | ((with_reducible refine gate_dst (N := 3) rfl ?_); refine box_event ?hg (N := 3) ?hd (cs := #[.int .i64 a1_0, .bool a1_1, .bool a1_2, .int .i64 a1_3, .int .i64 a1_4, .string a1_5, .string a1_6, .bool a1_7, .int .i64 a1_8, .string a1_9, .bool a1_10, .string a1_11, .bool a1_12, .string a1_13, .bool a1_14, .string a1_15, .string a1_16, .int .i64 a1_17, .bool a1_18, .slice A1_19 l1_19.length c1_19, .bool a1_20, .int .i64 a1_21, .slice A1_22 l1_22.length c1_22, .slice A1_23 l1_23.length c1_23, .slice A1_24 l1_24.length c1_24]) (t := 48) ?hr ?_; (case hd => rfl); (case hg => rfl); (case hr => first | (go_simp; done) | (go_simp; rfl)); intro gb224 hg w43 hbox hb; have n0_ := Aside0.mk (below_step (by repeat (first | (with_reducible first | exact HB.out | apply below_alloc | apply pw_below_drewN | apply below_drew1) | exact HB.out)) hb); have n1_ := Aside0.mk (hbox); have n2_ := Aside0.mk ((by rw [hg]; exact (below_size (by repeat (first | (with_reducible first | exact HB.out | apply below_alloc | apply pw_below_drewN | apply below_drew1) | exact HB.out))) : w.heap.size ≤ gb224)); have n3_ := Aside0.mk ((by rw [hg]; exact (below_size (by repeat (first | (with_reducible first | exact HB.out | apply below_alloc | apply pw_below_drewN | apply below_drew1) | exact HB.out))) : w.heap.size ≤ gb224)); clear HB; have HB := n0_; have BK224 := n1_; have GW224 := n2_; have GE224 := n3_; clear n0_ n1_ n2_ n3_; clear hb hbox hg; have hcz44_0 : w43.cell? ⟨gb224, 0, none⟩ = some (.int .i64 a1_0) := (blk_cell BK224.out 0).trans rfl; have hcz44_1 : w43.cell? ⟨gb224, 1, none⟩ = some (.bool a1_1) := (blk_cell BK224.out 1).trans rfl; have hcz44_2 : w43.cell? ⟨gb224, 2, none⟩ = some (.bool a1_2) := (blk_cell BK224.out 2).trans rfl; have hcz44_3 : w43.cell? ⟨gb224, 3, none⟩ = some (.int .i64 a1_3) := (blk_cell BK224.out 3).trans rfl; have hcz44_4 : w43.cell? ⟨gb224, 4, none⟩ = some (.int .i64 a1_4) := (blk_cell BK224.out 4).trans rfl; have hcz44_5 : w43.cell? ⟨gb224, 5, none⟩ = some (.string a1_5) := (blk_cell BK224.out 5).trans rfl; have hcz44_6 : w43.cell? ⟨gb224, 6, none⟩ = some (.string a1_6) := (blk_cell BK224.out 6).trans rfl; have hcz44_7 : w43.cell? ⟨gb224, 7, none⟩ = some (.bool a1_7) := (blk_cell BK224.out 7).trans rfl; have hcz44_8 : w43.cell? ⟨gb224, 8, none⟩ = some (.int .i64 a1_8) := (blk_cell BK224.out 8).trans rfl; have hcz44_9 : w43.cell? ⟨gb224, 9, none⟩ = some (.string a1_9) := (blk_cell BK224.out 9).trans rfl; have hcz44_10 : w43.cell? ⟨gb224, 10, none⟩ = some (.bool a1_10) := (blk_cell BK224.out 10).trans rfl; have hcz44_11 : w43.cell? ⟨gb224, 11, none⟩ = some (.string a1_11) := (blk_cell BK224.out 11).trans rfl; have hcz44_12 : w43.cell? ⟨gb224, 12, none⟩ = some (.bool a1_12) := (blk_cell BK224.out 12).trans rfl; have hcz44_13 : w43.cell? ⟨gb224, 13, none⟩ = some (.string a1_13) := (blk_cell BK224.out 13).trans rfl; have hcz44_14 : w43.cell? ⟨gb224, 14, none⟩ = some (.bool a1_14) := (blk_cell BK224.out 14).trans rfl; have hcz44_15 : w43.cell? ⟨gb224, 15, none⟩ = some (.string a1_15) := (blk_cell BK224.out 15).trans rfl; have hcz44_16 : w43.cell? ⟨gb224, 16, none⟩ = some (.string a1_16) := (blk_cell BK224.out 16).trans rfl; have hcz44_17 : w43.cell? ⟨gb224, 17, none⟩ = some (.int .i64 a1_17) := (blk_cell BK224.out 17).trans rfl; have hcz44_18 : w43.cell? ⟨gb224, 18, none⟩ = some (.bool a1_18) := (blk_cell BK224.out 18).trans rfl; have hcz44_19 : w43.cell? ⟨gb224, 19, none⟩ = some (.slice A1_19 l1_19.length c1_19) := (blk_cell BK224.out 19).trans rfl; have hcz44_20 : w43.cell? ⟨gb224, 20, none⟩ = some (.bool a1_20) := (blk_cell BK224.out 20).trans rfl; have hcz44_21 : w43.cell? ⟨gb224, 21, none⟩ = some (.int .i64 a1_21) := (blk_cell BK224.out 21).trans rfl; have hcz44_22 : w43.cell? ⟨gb224, 22, none⟩ = some (.slice A1_22 l1_22.length c1_22) := (blk_cell BK224.out 22).trans rfl; have hcz44_23 : w43.cell? ⟨gb224, 23, none⟩ = some (.slice A1_23 l1_23.length c1_23) := (blk_cell BK224.out 23).trans rfl; have hcz44_24 : w43.cell? ⟨gb224, 24, none⟩ = some (.slice A1_24 l1_24.length c1_24) := (blk_cell BK224.out 24).trans rfl; have hfz44_0 := blk_frozen BK224.out 0; have hfz44_1 := blk_frozen BK224.out 1; have hfz44_2 := blk_frozen BK224.out 2; have hfz44_3 := blk_frozen BK224.out 3; have hfz44_4 := blk_frozen BK224.out 4; have hfz44_5 := blk_frozen BK224.out 5; have hfz44_6 := blk_frozen BK224.out 6; have hfz44_7 := blk_frozen BK224.out 7; have hfz44_8 := blk_frozen BK224.out 8; have hfz44_9 := blk_frozen BK224.out 9; have hfz44_10 := blk_frozen BK224.out 10; have hfz44_11 := blk_frozen BK224.out 11; have hfz44_12 := blk_frozen BK224.out 12; have hfz44_13 := blk_frozen BK224.out 13; have hfz44_14 := blk_frozen BK224.out 14; have hfz44_15 := blk_frozen BK224.out 15; have hfz44_16 := blk_frozen BK224.out 16; have hfz44_17 := blk_frozen BK224.out 17; have hfz44_18 := blk_frozen BK224.out 18; have hfz44_19 := blk_frozen BK224.out 19; have hfz44_20 := blk_frozen BK224.out 20; have hfz44_21 := blk_frozen BK224.out 21; have hfz44_22 := blk_frozen BK224.out 22; have hfz44_23 := blk_frozen BK224.out 23; have hfz44_24 := blk_frozen BK224.out 24) | ((with_reducible refine gate_callee (f := 24) rfl ?_); refine goesL_ (some 13) rfl rfl Try.func24 (by kernel_rfl) rfl #[.int .i64 a0, .agg #[.int .i64 a1_0, .bool a1_1, .bool a1_2, .int .i64 a1_3, .int .i64 a1_4, .string a1_5, .string a1_6, .bool a1_7, .int .i64 a1_8, .string a1_9, .bool a1_10, .string a1_11, .bool a1_12, .string a1_13, .bool a1_14, .string a1_15, .string a1_16, .int .i64 a1_17, .bool a1_18, .slice A1_19 l1_19.length c1_19, .bool a1_20, .int .i64 a1_21, .slice A1_22 l1_22.length c1_22, .slice A1_23 l1_23.length c1_23, .slice A1_24 l1_24.length c1_24]] rfl (by (try simp only [List.map_toArray, List.map_cons, List.map_nil]); first | done | rfl | (simp only [List.length_drop, List.length_take]; rfl)) ?_; (with_reducible refine (publish_Valid.calls k a0 a1_0 a1_1 a1_2 a1_3 a1_4 a1_5 a1_6 a1_7 a1_8 a1_9 a1_10 a1_11 a1_12 a1_13 a1_14 a1_15 a1_16 a1_17 a1_18 _ _ l1_19 a1_20 a1_21 _ _ l1_22 _ _ l1_23 _ _ l1_24 t225 _ ?side1 ?side2 ?side3 ?side4 ?side5 ?side6 ?side7 ?side8 A3.out).mono ?_); (case side1 => repeat (first | exact (Kd.C_below HR1_19.out HB.out) | (with_reducible refine Kd.C_alloc ?_ _) | (with_reducible refine Kd.C_drewN ?_ _) | (with_reducible refine Kd.C_drew ?_))); (case side2 => exact HC1_19.out); (case side3 => repeat (first | exact (Kd.C_below HR1_22.out HB.out) | (with_reducible refine Kd.C_alloc ?_ _) | (with_reducible refine Kd.C_drewN ?_ _) | (with_reducible refine Kd.C_drew ?_))); (case side4 => exact HC1_22.out); (case side5 => repeat (first | exact (Kd.C_below HR1_23.out HB.out) | (with_reducible refine Kd.C_alloc ?_ _) | (with_reducible refine Kd.C_drewN ?_ _) | (with_reducible refine Kd.C_drew ?_))); (case side6 => exact HC1_23.out); (case side7 => repeat (first | exact (Kd.C_below HR1_24.out HB.out) | (with_reducible refine Kd.C_alloc ?_ _) | (with_reducible refine Kd.C_drewN ?_ _) | (with_reducible refine Kd.C_drew ?_))); (case side8 => exact HC1_24.out); rintro e w45 ⟨rfl, hb⟩; refine ⟨_, rfl, ?_⟩; have n0_ := Aside0.mk (blk_below (g := gb224) (o := .cells #[.int .i64 a1_0, .bool a1_1, .bool a1_2, .int .i64 a1_3, .int .i64 a1_4, .string a1_5, .string a1_6, .bool a1_7, .int .i64 a1_8, .string a1_9, .bool a1_10, .string a1_11, .bool a1_12, .string a1_13, .bool a1_14, .string a1_15, .string a1_16, .int .i64 a1_17, .bool a1_18, .slice A1_19 l1_19.length c1_19, .bool a1_20, .int .i64 a1_21, .slice A1_22 l1_22.length c1_22, .slice A1_23 l1_23.length c1_23, .slice A1_24 l1_24.length c1_24] 48 (0, 0)) (by (with_reducible repeat (first | refine blk_drewN ?_ _ | refine blk_drew ?_ | refine blk_alloc ?_ _)); exact BK224.out) hb); have n1_ := Aside0.mk (below_step (by repeat (first | (with_reducible first | exact HB.out | apply below_alloc | apply pw_below_drewN | apply below_drew1 | refine below_set ?_ GE224.out) | exact HB.out)) hb); clear BK224; clear HB; have BK224 := n0_; have HB := n1_; clear n0_ n1_; (try clear hb); (try clear hb2); (try clear hk); (try clear hi); have hcz46_0 : w45.cell? ⟨gb224, 0, none⟩ = some (.int .i64 a1_0) := (blk_cell BK224.out 0).trans rfl; have hcz46_1 : w45.cell? ⟨gb224, 1, none⟩ = some (.bool a1_1) := (blk_cell BK224.out 1).trans rfl; have hcz46_2 : w45.cell? ⟨gb224, 2, none⟩ = some (.bool a1_2) := (blk_cell BK224.out 2).trans rfl; have hcz46_3 : w45.cell? ⟨gb224, 3, none⟩ = some (.int .i64 a1_3) := (blk_cell BK224.out 3).trans rfl; have hcz46_4 : w45.cell? ⟨gb224, 4, none⟩ = some (.int .i64 a1_4) := (blk_cell BK224.out 4).trans rfl; have hcz46_5 : w45.cell? ⟨gb224, 5, none⟩ = some (.string a1_5) := (blk_cell BK224.out 5).trans rfl; have hcz46_6 : w45.cell? ⟨gb224, 6, none⟩ = some (.string a1_6) := (blk_cell BK224.out 6).trans rfl; have hcz46_7 : w45.cell? ⟨gb224, 7, none⟩ = some (.bool a1_7) := (blk_cell BK224.out 7).trans rfl; have hcz46_8 : w45.cell? ⟨gb224, 8, none⟩ = some (.int .i64 a1_8) := (blk_cell BK224.out 8).trans rfl; have hcz46_9 : w45.cell? ⟨gb224, 9, none⟩ = some (.string a1_9) := (blk_cell BK224.out 9).trans rfl; have hcz46_10 : w45.cell? ⟨gb224, 10, none⟩ = some (.bool a1_10) := (blk_cell BK224.out 10).trans rfl; have hcz46_11 : w45.cell? ⟨gb224, 11, none⟩ = some (.string a1_11) := (blk_cell BK224.out 11).trans rfl; have hcz46_12 : w45.cell? ⟨gb224, 12, none⟩ = some (.bool a1_12) := (blk_cell BK224.out 12).trans rfl; have hcz46_13 : w45.cell? ⟨gb224, 13, none⟩ = some (.string a1_13) := (blk_cell BK224.out 13).trans rfl; have hcz46_14 : w45.cell? ⟨gb224, 14, none⟩ = some (.bool a1_14) := (blk_cell BK224.out 14).trans rfl; have hcz46_15 : w45.cell? ⟨gb224, 15, none⟩ = some (.string a1_15) := (blk_cell BK224.out 15).trans rfl; have hcz46_16 : w45.cell? ⟨gb224, 16, none⟩ = some (.string a1_16) := (blk_cell BK224.out 16).trans rfl; have hcz46_17 : w45.cell? ⟨gb224, 17, none⟩ = some (.int .i64 a1_17) := (blk_cell BK224.out 17).trans rfl; have hcz46_18 : w45.cell? ⟨gb224, 18, none⟩ = some (.bool a1_18) := (blk_cell BK224.out 18).trans rfl; have hcz46_19 : w45.cell? ⟨gb224, 19, none⟩ = some (.slice A1_19 l1_19.length c1_19) := (blk_cell BK224.out 19).trans rfl; have hcz46_20 : w45.cell? ⟨gb224, 20, none⟩ = some (.bool a1_20) := (blk_cell BK224.out 20).trans rfl; have hcz46_21 : w45.cell? ⟨gb224, 21, none⟩ = some (.int .i64 a1_21) := (blk_cell BK224.out 21).trans rfl; have hcz46_22 : w45.cell? ⟨gb224, 22, none⟩ = some (.slice A1_22 l1_22.length c1_22) := (blk_cell BK224.out 22).trans rfl; have hcz46_23 : w45.cell? ⟨gb224, 23, none⟩ = some (.slice A1_23 l1_23.length c1_23) := (blk_cell BK224.out 23).trans rfl; have hcz46_24 : w45.cell? ⟨gb224, 24, none⟩ = some (.slice A1_24 l1_24.length c1_24) := (blk_cell BK224.out 24).trans rfl; have hfz46_0 := blk_frozen BK224.out 0; have hfz46_1 := blk_frozen BK224.out 1; have hfz46_2 := blk_frozen BK224.out 2; have hfz46_3 := blk_frozen BK224.out 3; have hfz46_4 := blk_frozen BK224.out 4; have hfz46_5 := blk_frozen BK224.out 5; have hfz46_6 := blk_frozen BK224.out 6; have hfz46_7 := blk_frozen BK224.out 7; have hfz46_8 := blk_frozen BK224.out 8; have hfz46_9 := blk_frozen BK224.out 9; have hfz46_10 := blk_frozen BK224.out 10; have hfz46_11 := blk_frozen BK224.out 11; have hfz46_12 := blk_frozen BK224.out 12; have hfz46_13 := blk_frozen BK224.out 13; have hfz46_14 := blk_frozen BK224.out 14; have hfz46_15 := blk_frozen BK224.out 15; have hfz46_16 := blk_frozen BK224.out 16; have hfz46_17 := blk_frozen BK224.out 17; have hfz46_18 := blk_frozen BK224.out 18; have hfz46_19 := blk_frozen BK224.out 19; have hfz46_20 := blk_frozen BK224.out 20; have hfz46_21 := blk_frozen BK224.out 21; have hfz46_22 := blk_frozen BK224.out 22; have hfz46_23 := blk_frozen BK224.out 23; have hfz46_24 := blk_frozen BK224.out 24) | ((with_reducible refine gate_callee (f := 55) rfl ?_); refine goesL_ (some 20) rfl rfl Try.func55 (by kernel_rfl) rfl #[.string a1_5] rfl (by (try simp only [List.map_toArray, List.map_cons, List.map_nil]); first | done | rfl | (simp only [List.length_drop, List.length_take]; rfl)) ?_; (with_reducible refine (ustring_Text.calls k a1_5 t226 t227 _ A5.out).mono ?_); rintro e w47 ⟨rfl, hb⟩; refine ⟨_, rfl, ?_⟩; have n0_ := Aside0.mk (blk_below (g := gb224) (o := .cells #[.int .i64 a1_0, .bool a1_1, .bool a1_2, .int .i64 a1_3, .int .i64 a1_4, .string a1_5, .string a1_6, .bool a1_7, .int .i64 a1_8, .string a1_9, .bool a1_10, .string a1_11, .bool a1_12, .string a1_13, .bool a1_14, .string a1_15, .string a1_16, .int .i64 a1_17, .bool a1_18, .slice A1_19 l1_19.length c1_19, .bool a1_20, .int .i64 a1_21, .slice A1_22 l1_22.length c1_22, .slice A1_23 l1_23.length c1_23, .slice A1_24 l1_24.length c1_24] 48 (0, 0)) (by (with_reducible repeat (first | refine blk_drewN ?_ _ | refine blk_drew ?_ | refine blk_alloc ?_ _)); exact BK224.out) hb); have n1_ := Aside0.mk (below_step (by repeat (first | (with_reducible first | exact HB.out | apply below_alloc | apply pw_below_drewN | apply below_drew1 | refine below_set ?_ GE224.out) | exact HB.out)) hb); clear BK224; clear HB; have BK224 := n0_; have HB := n1_; clear n0_ n1_; (try clear hb); (try clear hb2); (try clear hk); (try clear hi); have hcz48_0 : w47.cell? ⟨gb224, 0, none⟩ = some (.int .i64 a1_0) := (blk_cell BK224.out 0).trans rfl; have hcz48_1 : w47.cell? ⟨gb224, 1, none⟩ = some (.bool a1_1) := (blk_cell BK224.out 1).trans rfl; have hcz48_2 : w47.cell? ⟨gb224, 2, none⟩ = some (.bool a1_2) := (blk_cell BK224.out 2).trans rfl; have hcz48_3 : w47.cell? ⟨gb224, 3, none⟩ = some (.int .i64 a1_3) := (blk_cell BK224.out 3).trans rfl; have hcz48_4 : w47.cell? ⟨gb224, 4, none⟩ = some (.int .i64 a1_4) := (blk_cell BK224.out 4).trans rfl; have hcz48_5 : w47.cell? ⟨gb224, 5, none⟩ = some (.string a1_5) := (blk_cell BK224.out 5).trans rfl; have hcz48_6 : w47.cell? ⟨gb224, 6, none⟩ = some (.string a1_6) := (blk_cell BK224.out 6).trans rfl; have hcz48_7 : w47.cell? ⟨gb224, 7, none⟩ = some (.bool a1_7) := (blk_cell BK224.out 7).trans rfl; have hcz48_8 : w47.cell? ⟨gb224, 8, none⟩ = some (.int .i64 a1_8) := (blk_cell BK224.out 8).trans rfl; have hcz48_9 : w47.cell? ⟨gb224, 9, none⟩ = some (.string a1_9) := (blk_cell BK224.out 9).trans rfl; have hcz48_10 : w47.cell? ⟨gb224, 10, none⟩ = some (.bool a1_10) := (blk_cell BK224.out 10).trans rfl; have hcz48_11 : w47.cell? ⟨gb224, 11, none⟩ = some (.string a1_11) := (blk_cell BK224.out 11).trans rfl; have hcz48_12 : w47.cell? ⟨gb224, 12, none⟩ = some (.bool a1_12) := (blk_cell BK224.out 12).trans rfl; have hcz48_13 : w47.cell? ⟨gb224, 13, none⟩ = some (.string a1_13) := (blk_cell BK224.out 13).trans rfl; have hcz48_14 : w47.cell? ⟨gb224, 14, none⟩ = some (.bool a1_14) := (blk_cell BK224.out 14).trans rfl; have hcz48_15 : w47.cell? ⟨gb224, 15, none⟩ = some (.string a1_15) := (blk_cell BK224.out 15).trans rfl; have hcz48_16 : w47.cell? ⟨gb224, 16, none⟩ = some (.string a1_16) := (blk_cell BK224.out 16).trans rfl; have hcz48_17 : w47.cell? ⟨gb224, 17, none⟩ = some (.int .i64 a1_17) := (blk_cell BK224.out 17).trans rfl; have hcz48_18 : w47.cell? ⟨gb224, 18, none⟩ = some (.bool a1_18) := (blk_cell BK224.out 18).trans rfl; have hcz48_19 : w47.cell? ⟨gb224, 19, none⟩ = some (.slice A1_19 l1_19.length c1_19) := (blk_cell BK224.out 19).trans rfl; have hcz48_20 : w47.cell? ⟨gb224, 20, none⟩ = some (.bool a1_20) := (blk_cell BK224.out 20).trans rfl; have hcz48_21 : w47.cell? ⟨gb224, 21, none⟩ = some (.int .i64 a1_21) := (blk_cell BK224.out 21).trans rfl; have hcz48_22 : w47.cell? ⟨gb224, 22, none⟩ = some (.slice A1_22 l1_22.length c1_22) := (blk_cell BK224.out 22).trans rfl; have hcz48_23 : w47.cell? ⟨gb224, 23, none⟩ = some (.slice A1_23 l1_23.length c1_23) := (blk_cell BK224.out 23).trans rfl; have hcz48_24 : w47.cell? ⟨gb224, 24, none⟩ = some (.slice A1_24 l1_24.length c1_24) := (blk_cell BK224.out 24).trans rfl; have hfz48_0 := blk_frozen BK224.out 0; have hfz48_1 := blk_frozen BK224.out 1; have hfz48_2 := blk_frozen BK224.out 2; have hfz48_3 := blk_frozen BK224.out 3; have hfz48_4 := blk_frozen BK224.out 4; have hfz48_5 := blk_frozen BK224.out 5; have hfz48_6 := blk_frozen BK224.out 6; have hfz48_7 := blk_frozen BK224.out 7; have hfz48_8 := blk_frozen BK224.out 8; have hfz48_9 := blk_frozen BK224.out 9; have hfz48_10 := blk_frozen BK224.out 10; have hfz48_11 := blk_frozen BK224.out 11; have hfz48_12 := blk_frozen BK224.out 12; have hfz48_13 := blk_frozen BK224.out 13; have hfz48_14 := blk_frozen BK224.out 14; have hfz48_15 := blk_frozen BK224.out 15; have hfz48_16 := blk_frozen BK224.out 16; have hfz48_17 := blk_frozen BK224.out 17; have hfz48_18 := blk_frozen BK224.out 18; have hfz48_19 := blk_frozen BK224.out 19; have hfz48_20 := blk_frozen BK224.out 20; have hfz48_21 := blk_frozen BK224.out 21; have hfz48_22 := blk_frozen BK224.out 22; have hfz48_23 := blk_frozen BK224.out 23; have hfz48_24 := blk_frozen BK224.out 24) | ((with_reducible refine gate_callee (f := 56) rfl ?_); refine goesL_ (some 30) rfl rfl Try.func56 (by kernel_rfl) rfl #[.int .u64 (IntKind.u64.wrap (a1_4)), .int .i64 2] rfl (by (try simp only [List.map_toArray, List.map_cons, List.map_nil]); first | done | rfl | (simp only [List.length_drop, List.length_take]; rfl)) ?_; (with_reducible refine (octet_Put.calls k (IntKind.u64.wrap (a1_4)) 2 t230 _ A26.out).mono ?_); rintro e w49 ⟨rfl, hb⟩; refine ⟨_, rfl, ?_⟩; have n0_ := Aside0.mk (blk_below (g := gb224) (o := .cells #[.int .i64 a1_0, .bool a1_1, .bool a1_2, .int .i64 a1_3, .int .i64 a1_4, .string a1_5, .string a1_6, .bool a1_7, .int .i64 a1_8, .string a1_9, .bool a1_10, .string a1_11, .bool a1_12, .string a1_13, .bool a1_14, .string a1_15, .string a1_16, .int .i64 a1_17, .bool a1_18, .slice A1_19 l1_19.length c1_19, .bool a1_20, .int .i64 a1_21, .slice A1_22 l1_22.length c1_22, .slice A1_23 l1_23.length c1_23, .slice A1_24 l1_24.length c1_24] 48 (0, 0)) (by (with_reducible repeat (first | refine blk_drewN ?_ _ | refine blk_drew ?_ | refine blk_alloc ?_ _)); exact BK224.out) hb); have n1_ := Aside0.mk (below_step (by repeat (first | (with_reducible first | exact HB.out | apply below_alloc | apply pw_below_drewN | apply below_drew1 | refine below_set ?_ GE224.out) | exact HB.out)) hb); clear BK224; clear HB; have BK224 := n0_; have HB := n1_; clear n0_ n1_; (try clear hb); (try clear hb2); (try clear hk); (try clear hi); have hcz50_0 : w49.cell? ⟨gb224, 0, none⟩ = some (.int .i64 a1_0) := (blk_cell BK224.out 0).trans rfl; have hcz50_1 : w49.cell? ⟨gb224, 1, none⟩ = some (.bool a1_1) := (blk_cell BK224.out 1).trans rfl; have hcz50_2 : w49.cell? ⟨gb224, 2, none⟩ = some (.bool a1_2) := (blk_cell BK224.out 2).trans rfl; have hcz50_3 : w49.cell? ⟨gb224, 3, none⟩ = some (.int .i64 a1_3) := (blk_cell BK224.out 3).trans rfl; have hcz50_4 : w49.cell? ⟨gb224, 4, none⟩ = some (.int .i64 a1_4) := (blk_cell BK224.out 4).trans rfl; have hcz50_5 : w49.cell? ⟨gb224, 5, none⟩ = some (.string a1_5) := (blk_cell BK224.out 5).trans rfl; have hcz50_6 : w49.cell? ⟨gb224, 6, none⟩ = some (.string a1_6) := (blk_cell BK224.out 6).trans rfl; have hcz50_7 : w49.cell? ⟨gb224, 7, none⟩ = some (.bool a1_7) := (blk_cell BK224.out 7).trans rfl; have hcz50_8 : w49.cell? ⟨gb224, 8, none⟩ = some (.int .i64 a1_8) := (blk_cell BK224.out 8).trans rfl; have hcz50_9 : w49.cell? ⟨gb224, 9, none⟩ = some (.string a1_9) := (blk_cell BK224.out 9).trans rfl; have hcz50_10 : w49.cell? ⟨gb224, 10, none⟩ = some (.bool a1_10) := (blk_cell BK224.out 10).trans rfl; have hcz50_11 : w49.cell? ⟨gb224, 11, none⟩ = some (.string a1_11) := (blk_cell BK224.out 11).trans rfl; have hcz50_12 : w49.cell? ⟨gb224, 12, none⟩ = some (.bool a1_12) := (blk_cell BK224.out 12).trans rfl; have hcz50_13 : w49.cell? ⟨gb224, 13, none⟩ = some (.string a1_13) := (blk_cell BK224.out 13).trans rfl; have hcz50_14 : w49.cell? ⟨gb224, 14, none⟩ = some (.bool a1_14) := (blk_cell BK224.out 14).trans rfl; have hcz50_15 : w49.cell? ⟨gb224, 15, none⟩ = some (.string a1_15) := (blk_cell BK224.out 15).trans rfl; have hcz50_16 : w49.cell? ⟨gb224, 16, none⟩ = some (.string a1_16) := (blk_cell BK224.out 16).trans rfl; have hcz50_17 : w49.cell? ⟨gb224, 17, none⟩ = some (.int .i64 a1_17) := (blk_cell BK224.out 17).trans rfl; have hcz50_18 : w49.cell? ⟨gb224, 18, none⟩ = some (.bool a1_18) := (blk_cell BK224.out 18).trans rfl; have hcz50_19 : w49.cell? ⟨gb224, 19, none⟩ = some (.slice A1_19 l1_19.length c1_19) := (blk_cell BK224.out 19).trans rfl; have hcz50_20 : w49.cell? ⟨gb224, 20, none⟩ = some (.bool a1_20) := (blk_cell BK224.out 20).trans rfl; have hcz50_21 : w49.cell? ⟨gb224, 21, none⟩ = some (.int .i64 a1_21) := (blk_cell BK224.out 21).trans rfl; have hcz50_22 : w49.cell? ⟨gb224, 22, none⟩ = some (.slice A1_22 l1_22.length c1_22) := (blk_cell BK224.out 22).trans rfl; have hcz50_23 : w49.cell? ⟨gb224, 23, none⟩ = some (.slice A1_23 l1_23.length c1_23) := (blk_cell BK224.out 23).trans rfl; have hcz50_24 : w49.cell? ⟨gb224, 24, none⟩ = some (.slice A1_24 l1_24.length c1_24) := (blk_cell BK224.out 24).trans rfl; have hfz50_0 := blk_frozen BK224.out 0; have hfz50_1 := blk_frozen BK224.out 1; have hfz50_2 := blk_frozen BK224.out 2; have hfz50_3 := blk_frozen BK224.out 3; have hfz50_4 := blk_frozen BK224.out 4; have hfz50_5 := blk_frozen BK224.out 5; have hfz50_6 := blk_frozen BK224.out 6; have hfz50_7 := blk_frozen BK224.out 7; have hfz50_8 := blk_frozen BK224.out 8; have hfz50_9 := blk_frozen BK224.out 9; have hfz50_10 := blk_frozen BK224.out 10; have hfz50_11 := blk_frozen BK224.out 11; have hfz50_12 := blk_frozen BK224.out 12; have hfz50_13 := blk_frozen BK224.out 13; have hfz50_14 := blk_frozen BK224.out 14; have hfz50_15 := blk_frozen BK224.out 15; have hfz50_16 := blk_frozen BK224.out 16; have hfz50_17 := blk_frozen BK224.out 17; have hfz50_18 := blk_frozen BK224.out 18; have hfz50_19 := blk_frozen BK224.out 19; have hfz50_20 := blk_frozen BK224.out 20; have hfz50_21 := blk_frozen BK224.out 21; have hfz50_22 := blk_frozen BK224.out 22; have hfz50_23 := blk_frozen BK224.out 23; have hfz50_24 := blk_frozen BK224.out 24))
            go_ret2
            exact ⟨by first | rfl | (simp [errW_none, errW_some] <;> rfl) | (simp [*, errW_none, errW_some] <;> rfl), by repeat (first | (with_reducible first | exact HB.out | apply below_alloc | apply pw_below_drewN | apply below_drew1 | refine below_set ?_ GE224.out) | exact HB.out)⟩
          · rw [if_neg c42] at H
            exact absurd H (by simp)
      · rw [if_neg c27] at H
        exact absurd H (by simp)
  · rw [if_neg c4] at H
    have c4b0 : (t225 == 0) = false := beq_eq_false_iff_ne.mpr c4
    have c4b1 : (t225 != 0) = true := bne_iff_ne.mpr c4
    simp only [Option.some.injEq, Prod.mk.injEq] at H
    obtain ⟨rfl, rfl⟩ := H
    go_enter Try.func26, Try.ntmps26
    go_wp2_with (first | ((with_reducible refine publish_Body.gl rfl ?_); (try (refine gate_guard (by first | rfl | (simp [*]; done) | fail) ?_; dsimp only)); refine wpList_load_row rfl 48 _ rfl _ (by rfl) 48 _ _ _ (by first | exact Aside0.out (by with_reducible assumption) | ((with_reducible repeat (first | refine blk_drewN ?_ _ | refine blk_drew ?_ | refine blk_alloc ?_ _)); exact Aside0.out (by with_reducible assumption)) | (refine blk_put (Aside0.out (by with_reducible assumption)) 24 _ ?_; simp only [List.setIfInBounds_toArray, List.set_cons_zero, List.set_cons_succ]; rfl) | (apply blk_put (i := 24); (case h => exact Aside0.out (by with_reducible assumption)); (case e => (simp only [List.setIfInBounds_toArray, List.set_cons_zero, List.set_cons_succ]; rfl)))) Try.underlying48 rfl (by kernel_rfl) ?_) | ((with_reducible refine gate_dst (N := 3) rfl ?_); refine box_event ?hg (N := 3) ?hd (cs := #[.int .i64 a1_0, .bool a1_1, .bool a1_2, .int .i64 a1_3, .int .i64 a1_4, .string a1_5, .string a1_6, .bool a1_7, .int .i64 a1_8, .string a1_9, .bool a1_10, .string a1_11, .bool a1_12, .string a1_13, .bool a1_14, .string a1_15, .string a1_16, .int .i64 a1_17, .bool a1_18, .slice A1_19 l1_19.length c1_19, .bool a1_20, .int .i64 a1_21, .slice A1_22 l1_22.length c1_22, .slice A1_23 l1_23.length c1_23, .slice A1_24 l1_24.length c1_24]) (t := 48) ?hr ?_; (case hd => rfl); (case hg => rfl); (case hr => first | (go_simp; done) | (go_simp; rfl)); intro gb224 hg w51 hbox hb; have n0_ := Aside0.mk (below_step (by repeat (first | (with_reducible first | exact HB.out | apply below_alloc | apply pw_below_drewN | apply below_drew1) | exact HB.out)) hb); have n1_ := Aside0.mk (hbox); have n2_ := Aside0.mk ((by rw [hg]; exact (below_size (by repeat (first | (with_reducible first | exact HB.out | apply below_alloc | apply pw_below_drewN | apply below_drew1) | exact HB.out))) : w.heap.size ≤ gb224)); have n3_ := Aside0.mk ((by rw [hg]; exact (below_size (by repeat (first | (with_reducible first | exact HB.out | apply below_alloc | apply pw_below_drewN | apply below_drew1) | exact HB.out))) : w.heap.size ≤ gb224)); clear HB; have HB := n0_; have BK224 := n1_; have GW224 := n2_; have GE224 := n3_; clear n0_ n1_ n2_ n3_; clear hb hbox hg; have hcz52_0 : w51.cell? ⟨gb224, 0, none⟩ = some (.int .i64 a1_0) := (blk_cell BK224.out 0).trans rfl; have hcz52_1 : w51.cell? ⟨gb224, 1, none⟩ = some (.bool a1_1) := (blk_cell BK224.out 1).trans rfl; have hcz52_2 : w51.cell? ⟨gb224, 2, none⟩ = some (.bool a1_2) := (blk_cell BK224.out 2).trans rfl; have hcz52_3 : w51.cell? ⟨gb224, 3, none⟩ = some (.int .i64 a1_3) := (blk_cell BK224.out 3).trans rfl; have hcz52_4 : w51.cell? ⟨gb224, 4, none⟩ = some (.int .i64 a1_4) := (blk_cell BK224.out 4).trans rfl; have hcz52_5 : w51.cell? ⟨gb224, 5, none⟩ = some (.string a1_5) := (blk_cell BK224.out 5).trans rfl; have hcz52_6 : w51.cell? ⟨gb224, 6, none⟩ = some (.string a1_6) := (blk_cell BK224.out 6).trans rfl; have hcz52_7 : w51.cell? ⟨gb224, 7, none⟩ = some (.bool a1_7) := (blk_cell BK224.out 7).trans rfl; have hcz52_8 : w51.cell? ⟨gb224, 8, none⟩ = some (.int .i64 a1_8) := (blk_cell BK224.out 8).trans rfl; have hcz52_9 : w51.cell? ⟨gb224, 9, none⟩ = some (.string a1_9) := (blk_cell BK224.out 9).trans rfl; have hcz52_10 : w51.cell? ⟨gb224, 10, none⟩ = some (.bool a1_10) := (blk_cell BK224.out 10).trans rfl; have hcz52_11 : w51.cell? ⟨gb224, 11, none⟩ = some (.string a1_11) := (blk_cell BK224.out 11).trans rfl; have hcz52_12 : w51.cell? ⟨gb224, 12, none⟩ = some (.bool a1_12) := (blk_cell BK224.out 12).trans rfl; have hcz52_13 : w51.cell? ⟨gb224, 13, none⟩ = some (.string a1_13) := (blk_cell BK224.out 13).trans rfl; have hcz52_14 : w51.cell? ⟨gb224, 14, none⟩ = some (.bool a1_14) := (blk_cell BK224.out 14).trans rfl; have hcz52_15 : w51.cell? ⟨gb224, 15, none⟩ = some (.string a1_15) := (blk_cell BK224.out 15).trans rfl; have hcz52_16 : w51.cell? ⟨gb224, 16, none⟩ = some (.string a1_16) := (blk_cell BK224.out 16).trans rfl; have hcz52_17 : w51.cell? ⟨gb224, 17, none⟩ = some (.int .i64 a1_17) := (blk_cell BK224.out 17).trans rfl; have hcz52_18 : w51.cell? ⟨gb224, 18, none⟩ = some (.bool a1_18) := (blk_cell BK224.out 18).trans rfl; have hcz52_19 : w51.cell? ⟨gb224, 19, none⟩ = some (.slice A1_19 l1_19.length c1_19) := (blk_cell BK224.out 19).trans rfl; have hcz52_20 : w51.cell? ⟨gb224, 20, none⟩ = some (.bool a1_20) := (blk_cell BK224.out 20).trans rfl; have hcz52_21 : w51.cell? ⟨gb224, 21, none⟩ = some (.int .i64 a1_21) := (blk_cell BK224.out 21).trans rfl; have hcz52_22 : w51.cell? ⟨gb224, 22, none⟩ = some (.slice A1_22 l1_22.length c1_22) := (blk_cell BK224.out 22).trans rfl; have hcz52_23 : w51.cell? ⟨gb224, 23, none⟩ = some (.slice A1_23 l1_23.length c1_23) := (blk_cell BK224.out 23).trans rfl; have hcz52_24 : w51.cell? ⟨gb224, 24, none⟩ = some (.slice A1_24 l1_24.length c1_24) := (blk_cell BK224.out 24).trans rfl; have hfz52_0 := blk_frozen BK224.out 0; have hfz52_1 := blk_frozen BK224.out 1; have hfz52_2 := blk_frozen BK224.out 2; have hfz52_3 := blk_frozen BK224.out 3; have hfz52_4 := blk_frozen BK224.out 4; have hfz52_5 := blk_frozen BK224.out 5; have hfz52_6 := blk_frozen BK224.out 6; have hfz52_7 := blk_frozen BK224.out 7; have hfz52_8 := blk_frozen BK224.out 8; have hfz52_9 := blk_frozen BK224.out 9; have hfz52_10 := blk_frozen BK224.out 10; have hfz52_11 := blk_frozen BK224.out 11; have hfz52_12 := blk_frozen BK224.out 12; have hfz52_13 := blk_frozen BK224.out 13; have hfz52_14 := blk_frozen BK224.out 14; have hfz52_15 := blk_frozen BK224.out 15; have hfz52_16 := blk_frozen BK224.out 16; have hfz52_17 := blk_frozen BK224.out 17; have hfz52_18 := blk_frozen BK224.out 18; have hfz52_19 := blk_frozen BK224.out 19; have hfz52_20 := blk_frozen BK224.out 20; have hfz52_21 := blk_frozen BK224.out 21; have hfz52_22 := blk_frozen BK224.out 22; have hfz52_23 := blk_frozen BK224.out 23; have hfz52_24 := blk_frozen BK224.out 24) | ((with_reducible refine gate_callee (f := 24) rfl ?_); refine goesL_ (some 13) rfl rfl Try.func24 (by kernel_rfl) rfl #[.int .i64 a0, .agg #[.int .i64 a1_0, .bool a1_1, .bool a1_2, .int .i64 a1_3, .int .i64 a1_4, .string a1_5, .string a1_6, .bool a1_7, .int .i64 a1_8, .string a1_9, .bool a1_10, .string a1_11, .bool a1_12, .string a1_13, .bool a1_14, .string a1_15, .string a1_16, .int .i64 a1_17, .bool a1_18, .slice A1_19 l1_19.length c1_19, .bool a1_20, .int .i64 a1_21, .slice A1_22 l1_22.length c1_22, .slice A1_23 l1_23.length c1_23, .slice A1_24 l1_24.length c1_24]] rfl (by (try simp only [List.map_toArray, List.map_cons, List.map_nil]); first | done | rfl | (simp only [List.length_drop, List.length_take]; rfl)) ?_; (with_reducible refine (publish_Valid.calls k a0 a1_0 a1_1 a1_2 a1_3 a1_4 a1_5 a1_6 a1_7 a1_8 a1_9 a1_10 a1_11 a1_12 a1_13 a1_14 a1_15 a1_16 a1_17 a1_18 _ _ l1_19 a1_20 a1_21 _ _ l1_22 _ _ l1_23 _ _ l1_24 t225 _ ?side1 ?side2 ?side3 ?side4 ?side5 ?side6 ?side7 ?side8 A3.out).mono ?_); (case side1 => repeat (first | exact (Kd.C_below HR1_19.out HB.out) | (with_reducible refine Kd.C_alloc ?_ _) | (with_reducible refine Kd.C_drewN ?_ _) | (with_reducible refine Kd.C_drew ?_))); (case side2 => exact HC1_19.out); (case side3 => repeat (first | exact (Kd.C_below HR1_22.out HB.out) | (with_reducible refine Kd.C_alloc ?_ _) | (with_reducible refine Kd.C_drewN ?_ _) | (with_reducible refine Kd.C_drew ?_))); (case side4 => exact HC1_22.out); (case side5 => repeat (first | exact (Kd.C_below HR1_23.out HB.out) | (with_reducible refine Kd.C_alloc ?_ _) | (with_reducible refine Kd.C_drewN ?_ _) | (with_reducible refine Kd.C_drew ?_))); (case side6 => exact HC1_23.out); (case side7 => repeat (first | exact (Kd.C_below HR1_24.out HB.out) | (with_reducible refine Kd.C_alloc ?_ _) | (with_reducible refine Kd.C_drewN ?_ _) | (with_reducible refine Kd.C_drew ?_))); (case side8 => exact HC1_24.out); rintro e w53 ⟨rfl, hb⟩; refine ⟨_, rfl, ?_⟩; have n0_ := Aside0.mk (blk_below (g := gb224) (o := .cells #[.int .i64 a1_0, .bool a1_1, .bool a1_2, .int .i64 a1_3, .int .i64 a1_4, .string a1_5, .string a1_6, .bool a1_7, .int .i64 a1_8, .string a1_9, .bool a1_10, .string a1_11, .bool a1_12, .string a1_13, .bool a1_14, .string a1_15, .string a1_16, .int .i64 a1_17, .bool a1_18, .slice A1_19 l1_19.length c1_19, .bool a1_20, .int .i64 a1_21, .slice A1_22 l1_22.length c1_22, .slice A1_23 l1_23.length c1_23, .slice A1_24 l1_24.length c1_24] 48 (0, 0)) (by (with_reducible repeat (first | refine blk_drewN ?_ _ | refine blk_drew ?_ | refine blk_alloc ?_ _)); exact BK224.out) hb); have n1_ := Aside0.mk (below_step (by repeat (first | (with_reducible first | exact HB.out | apply below_alloc | apply pw_below_drewN | apply below_drew1 | refine below_set ?_ GE224.out) | exact HB.out)) hb); clear BK224; clear HB; have BK224 := n0_; have HB := n1_; clear n0_ n1_; (try clear hb); (try clear hb2); (try clear hk); (try clear hi)))
    go_ret2
    exact ⟨by first | rfl | (simp [errW_none, errW_some] <;> rfl) | (simp [*, errW_none, errW_some] <;> rfl), by repeat (first | (with_reducible first | exact HB.out | apply below_alloc | apply pw_below_drewN | apply below_drew1 | refine below_set ?_ GE224.out) | exact HB.out)⟩

end Go.Proofs.Ytngmipfobcaojaa.HA
end

-- YtngmipfobcaojaaHAhOne9
section
namespace Go.Proofs.Ytngmipfobcaojaa.HA
open Go.RowKit Go.Proofs.YtngmipfobcaojaaW.PrintWords Go.Proofs.YtngmipfobcaojaaW.PrintLast Go.Proofs.YtngmipfobcaojaaW.PrintMore
theorem store_one {P : Program} {ops : Array Oper} {rest : List Oper} {o : Oper} {a : Act} {Q : Exit → Act → World → Prop} {w w0 : World} (hgd : o.guard = none) (ty : TypeId) (x y : Operand) (ho : o.op = .store ty x y)
    (g : Nat) (cells : Array Value) (hx : a.eval x = .pointer (some ⟨g, 0, none⟩)) (hy : a.eval y = .agg cells) (old : Array Value) (hg : w.heap[g]? = some (.cells old ty (0, 0))) (hlo : w0.heap.size ≤ g) (hB : Below w0.heap.size w0 w)
    (hi : (P.info? ty).map (·.size) = some cells.size) (hold : old.size = cells.size) (h1 : cells.all (·.oneCell') = true)
    (h : ∀ w1, w1.heap[g]? = some (.cells cells ty (0, 0)) → Below w0.heap.size w0 w1 → wpList P ops Q rest (a.put o.dst undef) w1) : wpList P ops Q (o :: rest) a w :=
  wpList_store_row hgd ty x y ho g cells hx hy ty old hg hi hold h1 (h _ (setRow_heap w g old cells ty (0, 0) hg) (below_setRow hB hlo cells))
def polyglotlaw09_one.f : Option (Int × Bool × Bool × Int × Int × ByteArray × ByteArray × Bool × Int × ByteArray × Bool × ByteArray × Bool × ByteArray × Bool × ByteArray × ByteArray × Int × Bool × (List S27) × Bool × Int × (List Int) × (List S119) × (List S27)) := some (3, false, false, 1, 10, (⟨#[97, 47, 98]⟩ : ByteArray), (⟨#[104, 105]⟩ : ByteArray), false, 0, (⟨#[]⟩ : ByteArray), false, (⟨#[]⟩ : ByteArray), false, (⟨#[]⟩ : ByteArray), false, (⟨#[]⟩ : ByteArray), (⟨#[]⟩ : ByteArray), 0, false, ([] : List S27), false, 0, ([] : List Int), ([] : List S119), ([] : List S27))
set_option maxHeartbeats 4000000 in
set_option maxRecDepth 100000 in
theorem polyglotlaw09_one.calls (r1 : Int) (r2 : Bool) (r3 : Bool) (r4 : Int) (r5 : Int) (r6 : ByteArray) (r7 : ByteArray) (r8 : Bool) (r9 : Int) (r10 : ByteArray) (r11 : Bool) (r12 : ByteArray) (r13 : Bool) (r14 : ByteArray) (r15 : Bool) (r16 : ByteArray) (r17 : ByteArray) (r18 : Int) (r19 : Bool) (r20 : List S27) (r21 : Bool) (r22 : Int) (r23 : List Int) (r24 : List S119) (r25 : List S27) (w : World) (h : polyglotlaw09_one.f = some (r1, r2, r3, r4, r5, r6, r7, r8, r9, r10, r11, r12, r13, r14, r15, r16, r17, r18, r19, r20, r21, r22, r23, r24, r25)) :
    Calls Try.prog 43 #[] w fun e w' => ∃ v19_ v22_ v23_ v24_ : Value, e = .returned (.agg #[.int .i64 r1, .bool r2, .bool r3, .int .i64 r4, .int .i64 r5, .string r6, .string r7, .bool r8, .int .i64 r9, .string r10, .bool r11, .string r12, .bool r13, .string r14, .bool r15, .string r16, .string r17, .int .i64 r18, .bool r19, v19_, .bool r21, .int .i64 r22, v22_, v23_, v24_]) ∧ Kd.R k27 27 w' w.heap.size (fun k_ => some k_ ≠ (v24_ : Value).ownBlock) v19_ r20 ∧ Kd.R (Kd.int .i64) 3 w' w.heap.size (fun _ => True) v22_ r23 ∧ Kd.R k119 119 w' w.heap.size (fun _ => True) v23_ r24 ∧ Kd.R k27 27 w' w.heap.size (fun k_ => some k_ ≠ (v19_ : Value).ownBlock) v24_ r25 ∧ Below w.heap.size w w' := by
  unfold polyglotlaw09_one.f at h
  simp only [Option.some.injEq, Prod.mk.injEq] at h
  obtain ⟨rfl, rfl, rfl, rfl, rfl, rfl, rfl, rfl, rfl, rfl, rfl, rfl, rfl, rfl, rfl, rfl, rfl, rfl, rfl, rfl, rfl, rfl, rfl, rfl, rfl⟩ := h
  have HB := Aside0.mk (Below.refl w.heap.size w)
  go_enter Try.func43, Try.ntmps43
  go_wp2_with (first | ((with_reducible refine gate_dst (N := 0) rfl ?_); refine box_event ?hg2 (N := 0) ?hd2 (cs := #[.int .i64 0, .bool false, .bool false, .int .i64 0, .int .i64 0, .string ⟨#[]⟩, .string ⟨#[]⟩, .bool false, .int .i64 0, .string ⟨#[]⟩, .bool false, .string ⟨#[]⟩, .bool false, .string ⟨#[]⟩, .bool false, .string ⟨#[]⟩, .string ⟨#[]⟩, .int .i64 0, .bool false, .slice none 0 0, .bool false, .int .i64 0, .slice none 0 0, .slice none 0 0, .slice none 0 0]) (t := 48) ?hr2 ?_; (case hd2 => rfl); (case hg2 => rfl); (case hr2 => first | (go_simp; done) | (go_simp; rfl)); intro gq hgq w2 hbox hb; have BKq := Aside0.mk hbox; have GQ := Aside0.mk (show w.heap.size ≤ gq by rw [hgq]; exact HB.out.size); have n_ := Aside0.mk (below_step HB.out hb); clear HB; have HB := n_; clear n_ hb hbox hgq) | ((with_reducible refine gate_packet_store rfl ?_); refine store_one (w0 := w) rfl 48 _ _ rfl gq #[.int .i64 3, .bool false, .bool false, .int .i64 1, .int .i64 10, .string ⟨#[97, 47, 98]⟩, .string ⟨#[104, 105]⟩, .bool false, .int .i64 0, .string ⟨#[]⟩, .bool false, .string ⟨#[]⟩, .bool false, .string ⟨#[]⟩, .bool false, .string ⟨#[]⟩, .string ⟨#[]⟩, .int .i64 0, .bool false, .slice none 0 0, .bool false, .int .i64 0, .slice none 0 0, .slice none 0 0, .slice none 0 0] (by rfl) (by rfl) _ BKq.out GQ.out HB.out (by kernel_rfl) (by rfl) (by simp [Value.oneCell']) ?_; intro w3 hq hb; clear BKq HB; have BKq := Aside0.mk hq; have HB := Aside0.mk hb; clear hq hb))
  refine bodyPost_ret (results_cell_row rfl _ _ gq 48 #[.int .i64 3, .bool false, .bool false, .int .i64 1, .int .i64 10, .string ⟨#[97, 47, 98]⟩, .string ⟨#[104, 105]⟩, .bool false, .int .i64 0, .string ⟨#[]⟩, .bool false, .string ⟨#[]⟩, .bool false, .string ⟨#[]⟩, .bool false, .string ⟨#[]⟩, .string ⟨#[]⟩, .int .i64 0, .bool false, .slice none 0 0, .bool false, .int .i64 0, .slice none 0 0, .slice none 0 0, .slice none 0 0] (0, 0) _ rfl BKq.out Try.underlying48 rfl (by kernel_rfl)) rfl ?_
  exact ⟨_, _, _, _, rfl, Kd.R_nil _ _ _ _ _, Kd.R_nil _ _ _ _ _, Kd.R_nil _ _ _ _ _, Kd.R_nil _ _ _ _ _, HB.out⟩
end Go.Proofs.Ytngmipfobcaojaa.HA
end

-- YtngmipfobcaojaaHA62
section
namespace Go.Proofs.Ytngmipfobcaojaa.HA
open Go.RowKit Go.Proofs.YtngmipfobcaojaaW.PrintWords Go.Proofs.YtngmipfobcaojaaW.PrintLast Go.Proofs.YtngmipfobcaojaaW.PrintMore
attribute [local go_sem] max2_int min2_int max_two min_two max_three min_three max_four min_four

def polyglotlaw09_lives.f (k : Nat)  : Option (Bool) := (polyglotlaw09_one.f).bind fun bt233 => ((publish_Body.f k 4 bt233.1 bt233.2.1 bt233.2.2.1 bt233.2.2.2.1 bt233.2.2.2.2.1 bt233.2.2.2.2.2.1 bt233.2.2.2.2.2.2.1 bt233.2.2.2.2.2.2.2.1 bt233.2.2.2.2.2.2.2.2.1 bt233.2.2.2.2.2.2.2.2.2.1 bt233.2.2.2.2.2.2.2.2.2.2.1 bt233.2.2.2.2.2.2.2.2.2.2.2.1 bt233.2.2.2.2.2.2.2.2.2.2.2.2.1 bt233.2.2.2.2.2.2.2.2.2.2.2.2.2.1 bt233.2.2.2.2.2.2.2.2.2.2.2.2.2.2.1 bt233.2.2.2.2.2.2.2.2.2.2.2.2.2.2.2.1 bt233.2.2.2.2.2.2.2.2.2.2.2.2.2.2.2.2.1 bt233.2.2.2.2.2.2.2.2.2.2.2.2.2.2.2.2.2.1 bt233.2.2.2.2.2.2.2.2.2.2.2.2.2.2.2.2.2.2.1 bt233.2.2.2.2.2.2.2.2.2.2.2.2.2.2.2.2.2.2.2.1 bt233.2.2.2.2.2.2.2.2.2.2.2.2.2.2.2.2.2.2.2.2.1 bt233.2.2.2.2.2.2.2.2.2.2.2.2.2.2.2.2.2.2.2.2.2.1 bt233.2.2.2.2.2.2.2.2.2.2.2.2.2.2.2.2.2.2.2.2.2.2.1 bt233.2.2.2.2.2.2.2.2.2.2.2.2.2.2.2.2.2.2.2.2.2.2.2.1 bt233.2.2.2.2.2.2.2.2.2.2.2.2.2.2.2.2.2.2.2.2.2.2.2.2).bind fun bt266 => (if bt266.2 = 0 then (some (bt266.1.toList == ([0, 3, 97, 47, 98, 0, 10, 104, 105] : List UInt8))) else (some false)))
set_option maxHeartbeats 8000000 in
set_option maxRecDepth 100000 in
theorem polyglotlaw09_lives.calls (k : Nat)  (r : Bool) (w : World) (h : polyglotlaw09_lives.f k  = some r) :
    Calls Try.prog 22 #[] w fun e w' => e = .returned (.bool r) ∧ Below w.heap.size w w' := by
  have HB := Aside0.mk (Below.refl w.heap.size w)
  have H : ((polyglotlaw09_one.f).bind fun bt233 => ((publish_Body.f k 4 bt233.1 bt233.2.1 bt233.2.2.1 bt233.2.2.2.1 bt233.2.2.2.2.1 bt233.2.2.2.2.2.1 bt233.2.2.2.2.2.2.1 bt233.2.2.2.2.2.2.2.1 bt233.2.2.2.2.2.2.2.2.1 bt233.2.2.2.2.2.2.2.2.2.1 bt233.2.2.2.2.2.2.2.2.2.2.1 bt233.2.2.2.2.2.2.2.2.2.2.2.1 bt233.2.2.2.2.2.2.2.2.2.2.2.2.1 bt233.2.2.2.2.2.2.2.2.2.2.2.2.2.1 bt233.2.2.2.2.2.2.2.2.2.2.2.2.2.2.1 bt233.2.2.2.2.2.2.2.2.2.2.2.2.2.2.2.1 bt233.2.2.2.2.2.2.2.2.2.2.2.2.2.2.2.2.1 bt233.2.2.2.2.2.2.2.2.2.2.2.2.2.2.2.2.2.1 bt233.2.2.2.2.2.2.2.2.2.2.2.2.2.2.2.2.2.2.1 bt233.2.2.2.2.2.2.2.2.2.2.2.2.2.2.2.2.2.2.2.1 bt233.2.2.2.2.2.2.2.2.2.2.2.2.2.2.2.2.2.2.2.2.1 bt233.2.2.2.2.2.2.2.2.2.2.2.2.2.2.2.2.2.2.2.2.2.1 bt233.2.2.2.2.2.2.2.2.2.2.2.2.2.2.2.2.2.2.2.2.2.2.1 bt233.2.2.2.2.2.2.2.2.2.2.2.2.2.2.2.2.2.2.2.2.2.2.2.1 bt233.2.2.2.2.2.2.2.2.2.2.2.2.2.2.2.2.2.2.2.2.2.2.2.2).bind fun bt266 => (if bt266.2 = 0 then (some (bt266.1.toList == ([0, 3, 97, 47, 98, 0, 10, 104, 105] : List UInt8))) else (some false)))) = some r := h
  clear h
  replace H := Option.bind_eq_some_iff.mp H
  obtain ⟨⟨t233, t234, t235, t236, t237, t238, t239, t240, t241, t242, t243, t244, t245, t246, t247, t248, t249, t250, t251, t252, t255, t256, t257, t260, t263⟩, A10, H⟩ := H
  replace H : ((publish_Body.f k 4 t233 t234 t235 t236 t237 t238 t239 t240 t241 t242 t243 t244 t245 t246 t247 t248 t249 t250 t251 t252 t255 t256 t257 t260 t263).bind fun bt266 => (if bt266.2 = 0 then (some (bt266.1.toList == ([0, 3, 97, 47, 98, 0, 10, 104, 105] : List UInt8))) else (some false))) = some r := H
  have A1 := Aside0.mk A10
  clear A10
  replace H := Option.bind_eq_some_iff.mp H
  obtain ⟨⟨t266, t267⟩, A20, H⟩ := H
  replace H : (if t267 = 0 then (some (t266.toList == ([0, 3, 97, 47, 98, 0, 10, 104, 105] : List UInt8))) else (some false)) = some r := H
  have A2 := Aside0.mk A20
  clear A20
  by_cases c3 : t267 = 0
  · rw [if_pos c3] at H
    have c3b0 : (t267 == 0) = true := beq_iff_eq.mpr c3
    have c3b1 : (t267 != 0) = false := bne_eq_false_iff_eq.mpr c3
    clear c3
    obtain rfl := Option.some.inj H
    go_enter Try.func22, Try.ntmps22
    go_wp2_with (first | ((with_reducible refine gate_callee (f := 43) rfl ?_); refine goesL_ (some 4) rfl rfl Try.func43 (by kernel_rfl) rfl #[] rfl (by (try simp only [List.map_toArray, List.map_cons, List.map_nil]); first | done | rfl | (simp only [List.length_drop, List.length_take]; rfl)) ?_; (with_reducible refine (polyglotlaw09_one.calls  t233 t234 t235 t236 t237 t238 t239 t240 t241 t242 t243 t244 t245 t246 t247 t248 t249 t250 t251 t252 t255 t256 t257 t260 t263 _ A1.out).mono ?_); rintro e w4 ⟨v253, v258, v261, v264, rfl, ho0, ho1, ho2, ho3, hb⟩; refine ⟨_, rfl, ?_⟩; have n0_ := Aside0.mk (Kd.R_lower ho0 (below_size (by repeat (first | (with_reducible first | exact HB.out | apply below_alloc | apply pw_below_drewN | apply below_drew1) | exact HB.out)))); have n1_ := Aside0.mk (Kd.R_lower ho1 (below_size (by repeat (first | (with_reducible first | exact HB.out | apply below_alloc | apply pw_below_drewN | apply below_drew1) | exact HB.out)))); have n2_ := Aside0.mk (Kd.R_lower ho2 (below_size (by repeat (first | (with_reducible first | exact HB.out | apply below_alloc | apply pw_below_drewN | apply below_drew1) | exact HB.out)))); have n3_ := Aside0.mk (Kd.R_lower ho3 (below_size (by repeat (first | (with_reducible first | exact HB.out | apply below_alloc | apply pw_below_drewN | apply below_drew1) | exact HB.out)))); have n4_ := Aside0.mk (below_step (by repeat (first | (with_reducible first | exact HB.out | apply below_alloc | apply pw_below_drewN | apply below_drew1) | exact HB.out)) hb); clear HB; have HO254 := n0_; have HO259 := n1_; have HO262 := n2_; have HO265 := n3_; have HB := n4_; clear n0_ n1_ n2_ n3_ n4_; (try clear hb); (try clear hb2); (try clear hk); (try clear hi); (try clear ho0); (try clear ho1); (try clear ho2); (try clear ho3); obtain ⟨Ao5, co5, eo5⟩ := Kd.R_slice HO254.out; subst eo5; obtain ⟨Ao6, co6, eo6⟩ := Kd.R_slice HO259.out; subst eo6; obtain ⟨Ao7, co7, eo7⟩ := Kd.R_slice HO262.out; subst eo7; obtain ⟨Ao8, co8, eo8⟩ := Kd.R_slice HO265.out; subst eo8) | ((with_reducible refine gate_callee (f := 26) rfl ?_); refine goesL_ (some 5) rfl rfl Try.func26 (by kernel_rfl) rfl #[.int .i64 4, .agg #[.int .i64 t233, .bool t234, .bool t235, .int .i64 t236, .int .i64 t237, .string t238, .string t239, .bool t240, .int .i64 t241, .string t242, .bool t243, .string t244, .bool t245, .string t246, .bool t247, .string t248, .string t249, .int .i64 t250, .bool t251, .slice Ao5 t252.length co5, .bool t255, .int .i64 t256, .slice Ao6 t257.length co6, .slice Ao7 t260.length co7, .slice Ao8 t263.length co8]] rfl (by (try simp only [List.map_toArray, List.map_cons, List.map_nil]); first | done | rfl | (simp only [List.length_drop, List.length_take]; rfl)) ?_; (with_reducible refine (publish_Body.calls k 4 t233 t234 t235 t236 t237 t238 t239 t240 t241 t242 t243 t244 t245 t246 t247 t248 t249 t250 t251 _ _ t252 t255 t256 _ _ t257 _ _ t260 _ _ t263 t266 t267 _ ?side1 ?side2 ?side3 ?side4 ?side5 ?side6 ?side7 ?side8 A2.out).mono ?_); (case side1 => repeat (first | exact (Kd.R_reads' HO254.out).2.2 | (with_reducible refine Kd.C_alloc ?_ _) | (with_reducible refine Kd.C_drewN ?_ _) | (with_reducible refine Kd.C_drew ?_))); (case side2 => exact (Kd.R_reads' HO254.out).2.1); (case side3 => repeat (first | exact (Kd.R_reads' HO259.out).2.2 | (with_reducible refine Kd.C_alloc ?_ _) | (with_reducible refine Kd.C_drewN ?_ _) | (with_reducible refine Kd.C_drew ?_))); (case side4 => exact (Kd.R_reads' HO259.out).2.1); (case side5 => repeat (first | exact (Kd.R_reads' HO262.out).2.2 | (with_reducible refine Kd.C_alloc ?_ _) | (with_reducible refine Kd.C_drewN ?_ _) | (with_reducible refine Kd.C_drew ?_))); (case side6 => exact (Kd.R_reads' HO262.out).2.1); (case side7 => repeat (first | exact (Kd.R_reads' HO265.out).2.2 | (with_reducible refine Kd.C_alloc ?_ _) | (with_reducible refine Kd.C_drewN ?_ _) | (with_reducible refine Kd.C_drew ?_))); (case side8 => exact (Kd.R_reads' HO265.out).2.1); rintro e w9 ⟨rfl, hb⟩; refine ⟨_, rfl, ?_⟩; have n0_ := Aside0.mk (Kd.R_below (by (with_reducible repeat (first | apply Kd.R_alloc | apply Kd.R_drewN | apply Kd.R_drew)); exact HO254.out) hb); have n1_ := Aside0.mk (Kd.R_below (by (with_reducible repeat (first | apply Kd.R_alloc | apply Kd.R_drewN | apply Kd.R_drew)); exact HO259.out) hb); have n2_ := Aside0.mk (Kd.R_below (by (with_reducible repeat (first | apply Kd.R_alloc | apply Kd.R_drewN | apply Kd.R_drew)); exact HO262.out) hb); have n3_ := Aside0.mk (Kd.R_below (by (with_reducible repeat (first | apply Kd.R_alloc | apply Kd.R_drewN | apply Kd.R_drew)); exact HO265.out) hb); have n4_ := Aside0.mk (below_step (by repeat (first | (with_reducible first | exact HB.out | apply below_alloc | apply pw_below_drewN | apply below_drew1) | exact HB.out)) hb); clear HO254; clear HO259; clear HO262; clear HO265; clear HB; have HO254 := n0_; have HO259 := n1_; have HO262 := n2_; have HO265 := n3_; have HB := n4_; clear n0_ n1_ n2_ n3_ n4_; (try clear hb); (try clear hb2); (try clear hk); (try clear hi)))
    go_ret
    exact ⟨by first | rfl | (simp [errW_none, errW_some] <;> rfl) | (simp [*, errW_none, errW_some] <;> rfl), by repeat (first | (with_reducible first | exact HB.out | apply below_alloc | apply pw_below_drewN | apply below_drew1) | exact HB.out)⟩
  · rw [if_neg c3] at H
    have c3b0 : (t267 == 0) = false := beq_eq_false_iff_ne.mpr c3
    have c3b1 : (t267 != 0) = true := bne_iff_ne.mpr c3
    obtain rfl := Option.some.inj H
    go_enter Try.func22, Try.ntmps22
    go_wp2_with (first | ((with_reducible refine gate_callee (f := 43) rfl ?_); refine goesL_ (some 4) rfl rfl Try.func43 (by kernel_rfl) rfl #[] rfl (by (try simp only [List.map_toArray, List.map_cons, List.map_nil]); first | done | rfl | (simp only [List.length_drop, List.length_take]; rfl)) ?_; (with_reducible refine (polyglotlaw09_one.calls  t233 t234 t235 t236 t237 t238 t239 t240 t241 t242 t243 t244 t245 t246 t247 t248 t249 t250 t251 t252 t255 t256 t257 t260 t263 _ A1.out).mono ?_); rintro e w10 ⟨v253, v258, v261, v264, rfl, ho0, ho1, ho2, ho3, hb⟩; refine ⟨_, rfl, ?_⟩; have n0_ := Aside0.mk (Kd.R_lower ho0 (below_size (by repeat (first | (with_reducible first | exact HB.out | apply below_alloc | apply pw_below_drewN | apply below_drew1) | exact HB.out)))); have n1_ := Aside0.mk (Kd.R_lower ho1 (below_size (by repeat (first | (with_reducible first | exact HB.out | apply below_alloc | apply pw_below_drewN | apply below_drew1) | exact HB.out)))); have n2_ := Aside0.mk (Kd.R_lower ho2 (below_size (by repeat (first | (with_reducible first | exact HB.out | apply below_alloc | apply pw_below_drewN | apply below_drew1) | exact HB.out)))); have n3_ := Aside0.mk (Kd.R_lower ho3 (below_size (by repeat (first | (with_reducible first | exact HB.out | apply below_alloc | apply pw_below_drewN | apply below_drew1) | exact HB.out)))); have n4_ := Aside0.mk (below_step (by repeat (first | (with_reducible first | exact HB.out | apply below_alloc | apply pw_below_drewN | apply below_drew1) | exact HB.out)) hb); clear HB; have HO254 := n0_; have HO259 := n1_; have HO262 := n2_; have HO265 := n3_; have HB := n4_; clear n0_ n1_ n2_ n3_ n4_; (try clear hb); (try clear hb2); (try clear hk); (try clear hi); (try clear ho0); (try clear ho1); (try clear ho2); (try clear ho3); obtain ⟨Ao11, co11, eo11⟩ := Kd.R_slice HO254.out; subst eo11; obtain ⟨Ao12, co12, eo12⟩ := Kd.R_slice HO259.out; subst eo12; obtain ⟨Ao13, co13, eo13⟩ := Kd.R_slice HO262.out; subst eo13; obtain ⟨Ao14, co14, eo14⟩ := Kd.R_slice HO265.out; subst eo14) | ((with_reducible refine gate_callee (f := 26) rfl ?_); refine goesL_ (some 5) rfl rfl Try.func26 (by kernel_rfl) rfl #[.int .i64 4, .agg #[.int .i64 t233, .bool t234, .bool t235, .int .i64 t236, .int .i64 t237, .string t238, .string t239, .bool t240, .int .i64 t241, .string t242, .bool t243, .string t244, .bool t245, .string t246, .bool t247, .string t248, .string t249, .int .i64 t250, .bool t251, .slice Ao11 t252.length co11, .bool t255, .int .i64 t256, .slice Ao12 t257.length co12, .slice Ao13 t260.length co13, .slice Ao14 t263.length co14]] rfl (by (try simp only [List.map_toArray, List.map_cons, List.map_nil]); first | done | rfl | (simp only [List.length_drop, List.length_take]; rfl)) ?_; (with_reducible refine (publish_Body.calls k 4 t233 t234 t235 t236 t237 t238 t239 t240 t241 t242 t243 t244 t245 t246 t247 t248 t249 t250 t251 _ _ t252 t255 t256 _ _ t257 _ _ t260 _ _ t263 t266 t267 _ ?side1 ?side2 ?side3 ?side4 ?side5 ?side6 ?side7 ?side8 A2.out).mono ?_); (case side1 => repeat (first | exact (Kd.R_reads' HO254.out).2.2 | (with_reducible refine Kd.C_alloc ?_ _) | (with_reducible refine Kd.C_drewN ?_ _) | (with_reducible refine Kd.C_drew ?_))); (case side2 => exact (Kd.R_reads' HO254.out).2.1); (case side3 => repeat (first | exact (Kd.R_reads' HO259.out).2.2 | (with_reducible refine Kd.C_alloc ?_ _) | (with_reducible refine Kd.C_drewN ?_ _) | (with_reducible refine Kd.C_drew ?_))); (case side4 => exact (Kd.R_reads' HO259.out).2.1); (case side5 => repeat (first | exact (Kd.R_reads' HO262.out).2.2 | (with_reducible refine Kd.C_alloc ?_ _) | (with_reducible refine Kd.C_drewN ?_ _) | (with_reducible refine Kd.C_drew ?_))); (case side6 => exact (Kd.R_reads' HO262.out).2.1); (case side7 => repeat (first | exact (Kd.R_reads' HO265.out).2.2 | (with_reducible refine Kd.C_alloc ?_ _) | (with_reducible refine Kd.C_drewN ?_ _) | (with_reducible refine Kd.C_drew ?_))); (case side8 => exact (Kd.R_reads' HO265.out).2.1); rintro e w15 ⟨rfl, hb⟩; refine ⟨_, rfl, ?_⟩; have n0_ := Aside0.mk (Kd.R_below (by (with_reducible repeat (first | apply Kd.R_alloc | apply Kd.R_drewN | apply Kd.R_drew)); exact HO254.out) hb); have n1_ := Aside0.mk (Kd.R_below (by (with_reducible repeat (first | apply Kd.R_alloc | apply Kd.R_drewN | apply Kd.R_drew)); exact HO259.out) hb); have n2_ := Aside0.mk (Kd.R_below (by (with_reducible repeat (first | apply Kd.R_alloc | apply Kd.R_drewN | apply Kd.R_drew)); exact HO262.out) hb); have n3_ := Aside0.mk (Kd.R_below (by (with_reducible repeat (first | apply Kd.R_alloc | apply Kd.R_drewN | apply Kd.R_drew)); exact HO265.out) hb); have n4_ := Aside0.mk (below_step (by repeat (first | (with_reducible first | exact HB.out | apply below_alloc | apply pw_below_drewN | apply below_drew1) | exact HB.out)) hb); clear HO254; clear HO259; clear HO262; clear HO265; clear HB; have HO254 := n0_; have HO259 := n1_; have HO262 := n2_; have HO265 := n3_; have HB := n4_; clear n0_ n1_ n2_ n3_ n4_; (try clear hb); (try clear hb2); (try clear hk); (try clear hi)))
    go_ret
    exact ⟨by first | rfl | (simp [errW_none, errW_some] <;> rfl) | (simp [*, errW_none, errW_some] <;> rfl), by repeat (first | (with_reducible first | exact HB.out | apply below_alloc | apply pw_below_drewN | apply below_drew1) | exact HB.out)⟩

end Go.Proofs.Ytngmipfobcaojaa.HA
end

-- YtngmipfobcaojaaHA63
section
namespace Go.Proofs.Ytngmipfobcaojaa.HA
open Go.RowKit Go.Proofs.YtngmipfobcaojaaW.PrintWords Go.Proofs.YtngmipfobcaojaaW.PrintLast Go.Proofs.YtngmipfobcaojaaW.PrintMore
attribute [local go_sem] max2_int min2_int max_two min_two max_three min_three max_four min_four

def polyglotref03_more.f (a0 : ByteArray) (a1 : Int) : Option (Int × Bool) := if a1 ≥ (a0.size : Int) then (some (0, false)) else (if 0 ≤ a1 then (if a1 < (a0.size : Int) then (if (bt a0 a1) < 128 then (some (0, false)) else (if (bt a0 a1) > 191 then (some (0, false)) else (some (wrap64 ((wrap64 (bt a0 a1)) - 128), true)))) else (none)) else (none))
set_option maxHeartbeats 8000000 in
set_option maxRecDepth 100000 in
theorem polyglotref03_more.calls (a0 : ByteArray) (a1 : Int) (r1 : Int) (r2 : Bool) (w : World) (h : polyglotref03_more.f a0 a1 = some (r1, r2)) :
    Calls Try.prog 82 #[.string a0, .int .i64 a1] w fun e w' => e = .returned (.tuple #[.int .i64 r1, .bool r2]) ∧ Drawn0 w w' := by
  have H : (if a1 ≥ (a0.size : Int) then (some (0, false)) else (if 0 ≤ a1 then (if a1 < (a0.size : Int) then (if (bt a0 a1) < 128 then (some (0, false)) else (if (bt a0 a1) > 191 then (some (0, false)) else (some (wrap64 ((wrap64 (bt a0 a1)) - 128), true)))) else (none)) else (none))) = some (r1, r2) := h
  clear h
  by_cases c3 : a1 ≥ (a0.size : Int)
  · rw [if_pos c3] at H
    have c3b0 : decide ((a0.size : Int) ≤ a1) = true := decide_eq_true c3
    clear c3
    simp only [Option.some.injEq, Prod.mk.injEq] at H
    obtain ⟨rfl, rfl⟩ := H
    go_enter Try.func82, Try.ntmps82
    go_wp2
    go_ret2
    exact ⟨by first | rfl | (simp; done) | (simp [*]; done) | (simp; exact bne_nil_isEmpty _) | exact bne_nil_isEmpty _ | (simp; exact (bne_nil_isEmpty _).symm) | (simp; exact bne_nil_isEmpty' _), by repeat (first | exact Drawn0.refl _ | apply Drawn0.step)⟩
  · rw [if_neg c3] at H
    have c3b0 : decide ((a0.size : Int) ≤ a1) = false := decide_eq_false c3
    clear c3
    by_cases c4 : 0 ≤ a1
    · rw [if_pos c4] at H
      have c4b0 : decide (0 ≤ a1) = true := decide_eq_true c4
      clear c4
      by_cases c5 : a1 < (a0.size : Int)
      · rw [if_pos c5] at H
        have c5b0 : decide (a1 < (a0.size : Int)) = true := decide_eq_true c5
        clear c5
        by_cases c7 : (bt a0 a1) < 128
        · rw [if_pos c7] at H
          have c7b0 : decide ((bt a0 a1) < 128) = true := decide_eq_true c7
          clear c7
          simp only [Option.some.injEq, Prod.mk.injEq] at H
          obtain ⟨rfl, rfl⟩ := H
          have p6 : 0 ≤ (a1 : Int) := of_decide_eq_true (by first | (with_reducible assumption) | assumption)
          have q6 : a1 < (a0.size : Int) := of_decide_eq_true (by first | (with_reducible assumption) | assumption)
          have hx6 := bt_at a0 a1
          replace p6 := eq_true p6
          replace q6 := eq_true q6
          go_enter Try.func82, Try.ntmps82
          go_wp2
          go_ret2
          exact ⟨by first | rfl | (simp; done) | (simp [*]; done) | (simp; exact bne_nil_isEmpty _) | exact bne_nil_isEmpty _ | (simp; exact (bne_nil_isEmpty _).symm) | (simp; exact bne_nil_isEmpty' _), by repeat (first | exact Drawn0.refl _ | apply Drawn0.step)⟩
        · rw [if_neg c7] at H
          have c7b0 : decide ((bt a0 a1) < 128) = false := decide_eq_false c7
          clear c7
          by_cases c9 : (bt a0 a1) > 191
          · rw [if_pos c9] at H
            have c9b0 : decide (191 < (bt a0 a1)) = true := decide_eq_true c9
            clear c9
            simp only [Option.some.injEq, Prod.mk.injEq] at H
            obtain ⟨rfl, rfl⟩ := H
            have p6 : 0 ≤ (a1 : Int) := of_decide_eq_true (by first | (with_reducible assumption) | assumption)
            have q6 : a1 < (a0.size : Int) := of_decide_eq_true (by first | (with_reducible assumption) | assumption)
            have hx6 := bt_at a0 a1
            replace p6 := eq_true p6
            replace q6 := eq_true q6
            have p8 : 0 ≤ (a1 : Int) := of_decide_eq_true (by first | (with_reducible assumption) | assumption)
            have q8 : a1 < (a0.size : Int) := of_decide_eq_true (by first | (with_reducible assumption) | assumption)
            have hx8 := bt_at a0 a1
            replace p8 := eq_true p8
            replace q8 := eq_true q8
            go_enter Try.func82, Try.ntmps82
            go_wp2
            go_ret2
            exact ⟨by first | rfl | (simp; done) | (simp [*]; done) | (simp; exact bne_nil_isEmpty _) | exact bne_nil_isEmpty _ | (simp; exact (bne_nil_isEmpty _).symm) | (simp; exact bne_nil_isEmpty' _), by repeat (first | exact Drawn0.refl _ | apply Drawn0.step)⟩
          · rw [if_neg c9] at H
            have c9b0 : decide (191 < (bt a0 a1)) = false := decide_eq_false c9
            clear c9
            simp only [Option.some.injEq, Prod.mk.injEq] at H
            obtain ⟨rfl, rfl⟩ := H
            have p6 : 0 ≤ (a1 : Int) := of_decide_eq_true (by first | (with_reducible assumption) | assumption)
            have q6 : a1 < (a0.size : Int) := of_decide_eq_true (by first | (with_reducible assumption) | assumption)
            have hx6 := bt_at a0 a1
            replace p6 := eq_true p6
            replace q6 := eq_true q6
            have p8 : 0 ≤ (a1 : Int) := of_decide_eq_true (by first | (with_reducible assumption) | assumption)
            have q8 : a1 < (a0.size : Int) := of_decide_eq_true (by first | (with_reducible assumption) | assumption)
            have hx8 := bt_at a0 a1
            replace p8 := eq_true p8
            replace q8 := eq_true q8
            have p10 : 0 ≤ (a1 : Int) := of_decide_eq_true (by first | (with_reducible assumption) | assumption)
            have q10 : a1 < (a0.size : Int) := of_decide_eq_true (by first | (with_reducible assumption) | assumption)
            have hx10 := bt_at a0 a1
            replace p10 := eq_true p10
            replace q10 := eq_true q10
            go_enter Try.func82, Try.ntmps82
            go_wp2
            go_ret2
            exact ⟨by first | rfl | (simp; done) | (simp [*]; done) | (simp; exact bne_nil_isEmpty _) | exact bne_nil_isEmpty _ | (simp; exact (bne_nil_isEmpty _).symm) | (simp; exact bne_nil_isEmpty' _), by repeat (first | exact Drawn0.refl _ | apply Drawn0.step)⟩
      · rw [if_neg c5] at H
        exact absurd H (by simp)
    · rw [if_neg c4] at H
      exact absurd H (by simp)

end Go.Proofs.Ytngmipfobcaojaa.HA
end

-- YtngmipfobcaojaaHA64
section
namespace Go.Proofs.Ytngmipfobcaojaa.HA
open Go.RowKit Go.Proofs.YtngmipfobcaojaaW.PrintWords Go.Proofs.YtngmipfobcaojaaW.PrintLast Go.Proofs.YtngmipfobcaojaaW.PrintMore
attribute [local go_sem] max2_int min2_int max_two min_two max_three min_three max_four min_four

mutual
def polyglotref03_Point.j2 : Nat → ByteArray → Int → Int → Int → Int → Option (Int × Int)
  | 0, _, _, _, _, _ => none
  | k + 1, x0, x1, x6, x7, x8 => polyglotref03_Point.l0 k x0 x1 x6 x7 x8 1
def polyglotref03_Point.l0 : Nat → ByteArray → Int → Int → Int → Int → Int → Option (Int × Int)
  | 0, _, _, _, _, _, _ => none
  | k + 1, x0, x1, x6, x7, x8, x9 => if x9 < x7 then ((polyglotref03_more.f x0 (wrap64 (x1 + x9))).bind fun bt268 => (if bt268.2 = true then (polyglotref03_Point.l0 k x0 x1 (wrap64 ((wrap64 (64 * x6)) + bt268.1)) x7 x8 (wrap64 (x9 + 1))) else (some (0, 0)))) else (if x6 < x8 then (some (0, 0)) else (if x6 > 1114111 then (some (0, 0)) else (if x6 ≥ 55296 then (if x6 ≤ 57343 then (some (0, 0)) else (some (x6, x7))) else (some (x6, x7)))))
def polyglotref03_Point.j0 : Nat → ByteArray → Int → Int → Bool → Option (Int × Int)
  | 0, _, _, _, _ => none
  | k + 1, x0, x1, x6, x20 => if x20 = true then (polyglotref03_Point.j2 k x0 x1 (wrap64 (x6 - 192)) 2 128) else (if x6 ≥ 224 then (polyglotref03_Point.j1 k x0 x1 x6 (decide (x6 < 240))) else (polyglotref03_Point.j1 k x0 x1 x6 false))
def polyglotref03_Point.j1 : Nat → ByteArray → Int → Int → Bool → Option (Int × Int)
  | 0, _, _, _, _ => none
  | k + 1, x0, x1, x6, x29 => if x29 = true then (polyglotref03_Point.j2 k x0 x1 (wrap64 (x6 - 224)) 3 2048) else (if x6 ≥ 240 then (if x6 < 248 then (polyglotref03_Point.j2 k x0 x1 (wrap64 (x6 - 240)) 4 65536) else (some (0, 0))) else (some (0, 0)))
end
def polyglotref03_Point.f (k : Nat) (a0 : ByteArray) (a1 : Int) : Option (Int × Int) := if 0 ≤ a1 then (if a1 < (a0.size : Int) then (if (wrap64 (bt a0 a1)) < 128 then (some (wrap64 (bt a0 a1), 1)) else (if (wrap64 (bt a0 a1)) ≥ 192 then (polyglotref03_Point.j0 k a0 a1 (wrap64 (bt a0 a1)) (decide ((wrap64 (bt a0 a1)) < 224))) else (polyglotref03_Point.j0 k a0 a1 (wrap64 (bt a0 a1)) false))) else (none)) else (none)
set_option maxHeartbeats 8000000 in
set_option maxRecDepth 100000 in
theorem polyglotref03_Point.calls (k : Nat) (a0 : ByteArray) (a1 : Int) (r1 : Int) (r2 : Int) (w : World) (h : polyglotref03_Point.f k a0 a1 = some (r1, r2)) :
    Calls Try.prog 64 #[.string a0, .int .i64 a1] w fun e w' => e = .returned (.tuple #[.int .i64 r1, .int .i64 r2]) ∧ Drawn0 w w' := by
  have H : (if 0 ≤ a1 then (if a1 < (a0.size : Int) then (if (wrap64 (bt a0 a1)) < 128 then (some (wrap64 (bt a0 a1), 1)) else (if (wrap64 (bt a0 a1)) ≥ 192 then (polyglotref03_Point.j0 k a0 a1 (wrap64 (bt a0 a1)) (decide ((wrap64 (bt a0 a1)) < 224))) else (polyglotref03_Point.j0 k a0 a1 (wrap64 (bt a0 a1)) false))) else (none)) else (none)) = some (r1, r2) := h
  clear h
  by_cases c3 : 0 ≤ a1
  · rw [if_pos c3] at H
    have c3b0 : decide (0 ≤ a1) = true := decide_eq_true c3
    clear c3
    by_cases c4 : a1 < (a0.size : Int)
    · rw [if_pos c4] at H
      have c4b0 : decide (a1 < (a0.size : Int)) = true := decide_eq_true c4
      clear c4
      have HC6 := Aside0.mk H
      clear H
      have p5 : 0 ≤ (a1 : Int) := of_decide_eq_true (by first | (with_reducible assumption) | assumption)
      have q5 : a1 < (a0.size : Int) := of_decide_eq_true (by first | (with_reducible assumption) | assumption)
      have hx5 := bt_at a0 a1
      replace p5 := eq_true p5
      replace q5 := eq_true q5
      go_enter Try.func64, Try.ntmps64
      go_upto_block 0 with (fail)
      go_cut [6, 7, 8] (fun v6 v7 v8 wc => ∃ (kq : Nat) (x6_5 : Int) (x7_5 : Int) (x8_5 : Int), v6 = .int .i64 x6_5 ∧ v7 = .int .i64 x7_5 ∧ v8 = .int .i64 x8_5 ∧ Aside0 (polyglotref03_Point.j2 kq a0 a1 x6_5 x7_5 x8_5 = some (r1, r2)) ∧ Aside0 (kq ≤ k) ∧ Drawn0 w wc)
      case first =>
        have H := HC6.out
        clear HC6
        by_cases c7 : (wrap64 (bt a0 a1)) < 128
        · rw [if_pos c7] at H
          have c7b0 : decide ((wrap64 (bt a0 a1)) < 128) = true := decide_eq_true c7
          clear c7
          (first | rw [c7b0] | (simp only [i64_w, i32_w]; rw [c7b0]) | skip)
          simp only [Option.some.injEq, Prod.mk.injEq] at H
          obtain ⟨rfl, rfl⟩ := H
          go_wp2
          go_ret2
          exact ⟨by first | rfl | (simp; done) | (simp [*]; done) | (simp; exact bne_nil_isEmpty _) | exact bne_nil_isEmpty _ | (simp; exact (bne_nil_isEmpty _).symm) | (simp; exact bne_nil_isEmpty' _), by repeat (first | exact Drawn0.refl _ | apply Drawn0.step)⟩
        · rw [if_neg c7] at H
          have c7b0 : decide ((wrap64 (bt a0 a1)) < 128) = false := decide_eq_false c7
          clear c7
          (first | rw [c7b0] | (simp only [i64_w, i32_w]; rw [c7b0]) | skip)
          have HC8 := Aside0.mk H
          clear H
          go_upto_region 5 with (fail)
          go_cut [20] (fun v20 wc => ∃ (kq : Nat) (x20_7 : Bool), v20 = .bool x20_7 ∧ Aside0 (polyglotref03_Point.j0 kq a0 a1 (wrap64 (bt a0 a1)) x20_7 = some (r1, r2)) ∧ Aside0 (kq ≤ k) ∧ Drawn0 w wc)
          case first =>
            have H := HC8.out
            clear HC8
            by_cases c9 : (wrap64 (bt a0 a1)) ≥ 192
            · rw [if_pos c9] at H
              have c9b0 : decide (192 ≤ (wrap64 (bt a0 a1))) = true := decide_eq_true c9
              clear c9
              (first | rw [c9b0] | (simp only [i64_w, i32_w]; rw [c9b0]) | skip)
              have H' := Aside0.mk H
              clear H
              go_wp2
              go_meet
              case rel => exact ⟨_, (decide ((wrap64 (bt a0 a1)) < 224)), (by first | rfl | (simp; done) | (simp [*]; done) | (simp; exact bne_nil_isEmpty _) | exact bne_nil_isEmpty _ | (simp; exact (bne_nil_isEmpty _).symm) | (simp; exact bne_nil_isEmpty' _)), H', ⟨by first | omega | exact Nat.le_refl _⟩, by repeat (first | exact Drawn0.refl _ | apply Drawn0.step)⟩
            · rw [if_neg c9] at H
              have c9b0 : decide (192 ≤ (wrap64 (bt a0 a1))) = false := decide_eq_false c9
              clear c9
              (first | rw [c9b0] | (simp only [i64_w, i32_w]; rw [c9b0]) | skip)
              have H' := Aside0.mk H
              clear H
              go_wp2
              go_meet
              case rel => exact ⟨_, (false), (by first | rfl | (simp; done) | (simp [*]; done) | (simp; exact bne_nil_isEmpty _) | exact bne_nil_isEmpty _ | (simp; exact (bne_nil_isEmpty _).symm) | (simp; exact bne_nil_isEmpty' _)), H', ⟨by first | omega | exact Nat.le_refl _⟩, by repeat (first | exact Drawn0.refl _ | apply Drawn0.step)⟩
          case rest =>
            clear HC8
            (try clear p2);(try clear c3);(try clear c3b0);(try clear c4);(try clear c4b0);(try clear p5);(try clear q5);(try clear hx5);(try clear c6);(try clear p6);(try clear c7);(try clear c7b0);(try clear c9);(try clear c9b0);(try clear p5);(try clear q5)
            obtain ⟨kq, x20_7, rfl, HA, HJ7, ⟨mc7, rfl⟩⟩ := hcut
            cases kq with
            | zero => exact absurd HA.out (by simp [polyglotref03_Point.j0])
            | succ kj7 =>
              have H := HA.out
              clear HA
              simp only [polyglotref03_Point.j0] at H
              by_cases c10 : x20_7 = true
              · subst c10
                have H1 : (polyglotref03_Point.j2 kj7 a0 a1 (wrap64 ((wrap64 (bt a0 a1)) - 192)) 2 128) = some (r1, r2) := by rw [if_pos rfl] at H; exact H
                clear H
                have H := H1
                clear H1
                have H' := Aside0.mk H
                clear H
                go_wp2
                go_meet
                case rel => exact ⟨_, (wrap64 ((wrap64 (bt a0 a1)) - 192)), (2), (128), (by first | rfl | (simp; done) | (simp [*]; done) | (simp; exact bne_nil_isEmpty _) | exact bne_nil_isEmpty _ | (simp; exact (bne_nil_isEmpty _).symm) | (simp; exact bne_nil_isEmpty' _)), (by first | rfl | (simp; done) | (simp [*]; done) | (simp; exact bne_nil_isEmpty _) | exact bne_nil_isEmpty _ | (simp; exact (bne_nil_isEmpty _).symm) | (simp; exact bne_nil_isEmpty' _)), (by first | rfl | (simp; done) | (simp [*]; done) | (simp; exact bne_nil_isEmpty _) | exact bne_nil_isEmpty _ | (simp; exact (bne_nil_isEmpty _).symm) | (simp; exact bne_nil_isEmpty' _)), H', ⟨by have := HJ7.out; first | omega | exact Nat.le_refl _⟩, by repeat (first | exact Drawn0.refl _ | apply Drawn0.step)⟩
              · replace c10 := Bool.eq_false_iff.mpr c10
                subst c10
                have H1 : (if (wrap64 (bt a0 a1)) ≥ 224 then (polyglotref03_Point.j1 kj7 a0 a1 (wrap64 (bt a0 a1)) (decide ((wrap64 (bt a0 a1)) < 240))) else (polyglotref03_Point.j1 kj7 a0 a1 (wrap64 (bt a0 a1)) false)) = some (r1, r2) := by rw [if_neg (show ¬ (false = true) by decide)] at H; exact H
                clear H
                have H := H1
                clear H1
                have HC11 := Aside0.mk H
                clear H
                go_upto_region 7 with (fail)
                go_cut [29] (fun v29 wc => ∃ (kq : Nat) (x29_10 : Bool), v29 = .bool x29_10 ∧ Aside0 (polyglotref03_Point.j1 kq a0 a1 (wrap64 (bt a0 a1)) x29_10 = some (r1, r2)) ∧ Aside0 (kq ≤ kj7) ∧ Drawn0 w wc)
                case first =>
                  have H := HC11.out
                  clear HC11
                  by_cases c12 : (wrap64 (bt a0 a1)) ≥ 224
                  · rw [if_pos c12] at H
                    have c12b0 : decide (224 ≤ (wrap64 (bt a0 a1))) = true := decide_eq_true c12
                    clear c12
                    (first | rw [c12b0] | (simp only [i64_w, i32_w]; rw [c12b0]) | skip)
                    have H' := Aside0.mk H
                    clear H
                    go_wp2
                    go_meet
                    case rel => exact ⟨_, (decide ((wrap64 (bt a0 a1)) < 240)), (by first | rfl | (simp; done) | (simp [*]; done) | (simp; exact bne_nil_isEmpty _) | exact bne_nil_isEmpty _ | (simp; exact (bne_nil_isEmpty _).symm) | (simp; exact bne_nil_isEmpty' _)), H', ⟨by have := HJ7.out; first | omega | exact Nat.le_refl _⟩, by repeat (first | exact Drawn0.refl _ | apply Drawn0.step)⟩
                  · rw [if_neg c12] at H
                    have c12b0 : decide (224 ≤ (wrap64 (bt a0 a1))) = false := decide_eq_false c12
                    clear c12
                    (first | rw [c12b0] | (simp only [i64_w, i32_w]; rw [c12b0]) | skip)
                    have H' := Aside0.mk H
                    clear H
                    go_wp2
                    go_meet
                    case rel => exact ⟨_, (false), (by first | rfl | (simp; done) | (simp [*]; done) | (simp; exact bne_nil_isEmpty _) | exact bne_nil_isEmpty _ | (simp; exact (bne_nil_isEmpty _).symm) | (simp; exact bne_nil_isEmpty' _)), H', ⟨by have := HJ7.out; first | omega | exact Nat.le_refl _⟩, by repeat (first | exact Drawn0.refl _ | apply Drawn0.step)⟩
                case rest =>
                  clear HC11
                  (try clear c1);(try clear p2);(try clear c3);(try clear c3b0);(try clear c4);(try clear c4b0);(try clear p5);(try clear q5);(try clear hx5);(try clear c6);(try clear p6);(try clear c7);(try clear c7b0);(try clear c9);(try clear c9b0);(try clear c10);(try clear c12);(try clear c12b0);(try clear p2);(try clear p5);(try clear p6);(try clear q5)
                  obtain ⟨kq, x29_10, rfl, HA, HJ10, ⟨mc10, rfl⟩⟩ := hcut
                  cases kq with
                  | zero => exact absurd HA.out (by simp [polyglotref03_Point.j1])
                  | succ kj10 =>
                    have H := HA.out
                    clear HA
                    simp only [polyglotref03_Point.j1] at H
                    by_cases c13 : x29_10 = true
                    · subst c13
                      have H1 : (polyglotref03_Point.j2 kj10 a0 a1 (wrap64 ((wrap64 (bt a0 a1)) - 224)) 3 2048) = some (r1, r2) := by rw [if_pos rfl] at H; exact H
                      clear H
                      have H := H1
                      clear H1
                      have H' := Aside0.mk H
                      clear H
                      go_wp2
                      go_meet
                      case rel => exact ⟨_, (wrap64 ((wrap64 (bt a0 a1)) - 224)), (3), (2048), (by first | rfl | (simp; done) | (simp [*]; done) | (simp; exact bne_nil_isEmpty _) | exact bne_nil_isEmpty _ | (simp; exact (bne_nil_isEmpty _).symm) | (simp; exact bne_nil_isEmpty' _)), (by first | rfl | (simp; done) | (simp [*]; done) | (simp; exact bne_nil_isEmpty _) | exact bne_nil_isEmpty _ | (simp; exact (bne_nil_isEmpty _).symm) | (simp; exact bne_nil_isEmpty' _)), (by first | rfl | (simp; done) | (simp [*]; done) | (simp; exact bne_nil_isEmpty _) | exact bne_nil_isEmpty _ | (simp; exact (bne_nil_isEmpty _).symm) | (simp; exact bne_nil_isEmpty' _)), H', ⟨by have := HJ7.out; have := HJ10.out; first | omega | exact Nat.le_refl _⟩, by repeat (first | exact Drawn0.refl _ | apply Drawn0.step)⟩
                    · replace c13 := Bool.eq_false_iff.mpr c13
                      subst c13
                      have H1 : (if (wrap64 (bt a0 a1)) ≥ 240 then (if (wrap64 (bt a0 a1)) < 248 then (polyglotref03_Point.j2 kj10 a0 a1 (wrap64 ((wrap64 (bt a0 a1)) - 240)) 4 65536) else (some (0, 0))) else (some (0, 0))) = some (r1, r2) := by rw [if_neg (show ¬ (false = true) by decide)] at H; exact H
                      clear H
                      have H := H1
                      clear H1
                      by_cases c14 : (wrap64 (bt a0 a1)) ≥ 240
                      · rw [if_pos c14] at H
                        have c14b0 : decide (240 ≤ (wrap64 (bt a0 a1))) = true := decide_eq_true c14
                        clear c14
                        by_cases c15 : (wrap64 (bt a0 a1)) < 248
                        · rw [if_pos c15] at H
                          have c15b0 : decide ((wrap64 (bt a0 a1)) < 248) = true := decide_eq_true c15
                          clear c15
                          have H' := Aside0.mk H
                          clear H
                          go_wp2
                          go_meet
                          case rel => exact ⟨_, (wrap64 ((wrap64 (bt a0 a1)) - 240)), (4), (65536), (by first | rfl | (simp; done) | (simp [*]; done) | (simp; exact bne_nil_isEmpty _) | exact bne_nil_isEmpty _ | (simp; exact (bne_nil_isEmpty _).symm) | (simp; exact bne_nil_isEmpty' _)), (by first | rfl | (simp; done) | (simp [*]; done) | (simp; exact bne_nil_isEmpty _) | exact bne_nil_isEmpty _ | (simp; exact (bne_nil_isEmpty _).symm) | (simp; exact bne_nil_isEmpty' _)), (by first | rfl | (simp; done) | (simp [*]; done) | (simp; exact bne_nil_isEmpty _) | exact bne_nil_isEmpty _ | (simp; exact (bne_nil_isEmpty _).symm) | (simp; exact bne_nil_isEmpty' _)), H', ⟨by have := HJ7.out; have := HJ10.out; first | omega | exact Nat.le_refl _⟩, by repeat (first | exact Drawn0.refl _ | apply Drawn0.step)⟩
                        · rw [if_neg c15] at H
                          have c15b0 : decide ((wrap64 (bt a0 a1)) < 248) = false := decide_eq_false c15
                          clear c15
                          simp only [Option.some.injEq, Prod.mk.injEq] at H
                          obtain ⟨rfl, rfl⟩ := H
                          go_wp2
                          go_ret2
                          exact ⟨by first | rfl | (simp; done) | (simp [*]; done) | (simp; exact bne_nil_isEmpty _) | exact bne_nil_isEmpty _ | (simp; exact (bne_nil_isEmpty _).symm) | (simp; exact bne_nil_isEmpty' _), by repeat (first | exact Drawn0.refl _ | apply Drawn0.step)⟩
                      · rw [if_neg c14] at H
                        have c14b0 : decide (240 ≤ (wrap64 (bt a0 a1))) = false := decide_eq_false c14
                        clear c14
                        simp only [Option.some.injEq, Prod.mk.injEq] at H
                        obtain ⟨rfl, rfl⟩ := H
                        go_wp2
                        go_ret2
                        exact ⟨by first | rfl | (simp; done) | (simp [*]; done) | (simp; exact bne_nil_isEmpty _) | exact bne_nil_isEmpty _ | (simp; exact (bne_nil_isEmpty _).symm) | (simp; exact bne_nil_isEmpty' _), by repeat (first | exact Drawn0.refl _ | apply Drawn0.step)⟩
      case rest =>
        clear HC6
        (try clear c1);(try clear p2);(try clear c3);(try clear c3b0);(try clear c4);(try clear c4b0);(try clear p5);(try clear q5);(try clear hx5);(try clear c6);(try clear p6);(try clear c7);(try clear c7b0);(try clear c9);(try clear c9b0);(try clear c10);(try clear c12);(try clear c12b0);(try clear c13);(try clear c14);(try clear c14b0);(try clear c15);(try clear c15b0);(try clear p2);(try clear p5);(try clear p6);(try clear q5)
        obtain ⟨kq, x6_5, x7_5, x8_5, rfl, rfl, rfl, HA, HJ5, ⟨mc5, rfl⟩⟩ := hcut
        cases kq with
        | zero => exact absurd HA.out (by simp [polyglotref03_Point.j2])
        | succ kj5 =>
          have H := HA.out
          clear HA
          simp only [polyglotref03_Point.j2] at H
          have H' := Aside0.mk H
          clear H
          go_wp2
          go_loopg [6, 9] kj5 (fun kq v6 v9 w' => ∃ (x6_2 : Int) (x9_2 : Int), v6 = .int .i64 x6_2 ∧ v9 = .int .i64 x9_2 ∧ Aside0 (polyglotref03_Point.l0 kq a0 a1 x6_2 x7_5 x8_5 x9_2 = some (r1, r2)) ∧ Aside0 (kq ≤ kj5) ∧ Drawn0 w w')
          case atStart => exact ⟨(x6_5), (1), (by first | rfl | (simp; done) | (simp [*]; done) | (simp; exact bne_nil_isEmpty _) | exact bne_nil_isEmpty _ | (simp; exact (bne_nil_isEmpty _).symm) | (simp; exact bne_nil_isEmpty' _)), (by first | rfl | (simp; done) | (simp [*]; done) | (simp; exact bne_nil_isEmpty _) | exact bne_nil_isEmpty _ | (simp; exact (bne_nil_isEmpty _).symm) | (simp; exact bne_nil_isEmpty' _)), H', ⟨Nat.le_refl _⟩, by repeat (first | exact Drawn0.refl _ | apply Drawn0.step)⟩
          case round =>
            clear H'
            (try clear c1);(try clear p2);(try clear c3);(try clear c3b0);(try clear c4);(try clear c4b0);(try clear c5);(try clear p5);(try clear q5);(try clear hx5);(try clear c6);(try clear p6);(try clear c7);(try clear c7b0);(try clear c9);(try clear c9b0);(try clear c10);(try clear c12);(try clear c12b0);(try clear c13);(try clear c14);(try clear c14b0);(try clear c15);(try clear c15b0);(try clear p2);(try clear p5);(try clear p6);(try clear q5)
            obtain ⟨x6_2, x9_2, rfl, rfl, HA, HK2, ⟨m2, rfl⟩⟩ := hrel
            cases gk with
            | zero => exact absurd HA.out (by simp [polyglotref03_Point.l0])
            | succ k2 =>
              have H := HA.out
              clear HA
              simp only [polyglotref03_Point.l0] at H
              by_cases c16 : x9_2 < x7_5
              · rw [if_pos c16] at H
                have c16b0 : decide (x9_2 < x7_5) = true := decide_eq_true c16
                clear c16
                replace H := Option.bind_eq_some_iff.mp H
                obtain ⟨⟨t268, t269⟩, A170, H⟩ := H
                replace H : (if t269 = true then (polyglotref03_Point.l0 k2 a0 a1 (wrap64 ((wrap64 (64 * x6_2)) + t268)) x7_5 x8_5 (wrap64 (x9_2 + 1))) else (some (0, 0))) = some (r1, r2) := H
                have A17 := Aside0.mk A170
                clear A170
                by_cases c18 : t269 = true
                · subst c18
                  have H1 : (polyglotref03_Point.l0 k2 a0 a1 (wrap64 ((wrap64 (64 * x6_2)) + t268)) x7_5 x8_5 (wrap64 (x9_2 + 1))) = some (r1, r2) := by rw [if_pos rfl] at H; exact H
                  clear H
                  have H := H1
                  clear H1
                  have H' := Aside0.mk H
                  clear H
                  go_wp2_with (first | ((with_reducible refine gate_callee (f := 82) rfl ?_); refine goesL_ (some 57) rfl rfl Try.func82 (by kernel_rfl) rfl #[.string a0, .int .i64 (wrap64 (a1 + x9_2))] rfl (by (try simp only [List.map_toArray, List.map_cons, List.map_nil]); first | done | rfl | (simp only [List.length_drop, List.length_take]; rfl)) ?_; (with_reducible refine (polyglotref03_more.calls a0 (wrap64 (a1 + x9_2)) t268 true _ A17.out).mono ?_); rintro e w' ⟨rfl, ⟨nd, rfl⟩⟩; refine ⟨_, rfl, ?_⟩))
                  go_roundg k2
                  case measure => have := HJ5.out; have := HK2.out; omega
                  case rel => exact ⟨(wrap64 ((wrap64 (64 * x6_2)) + t268)), (wrap64 (x9_2 + 1)), (by first | rfl | (simp; done) | (simp [*]; done) | (simp; exact bne_nil_isEmpty _) | exact bne_nil_isEmpty _ | (simp; exact (bne_nil_isEmpty _).symm) | (simp; exact bne_nil_isEmpty' _)), (by first | rfl | (simp; done) | (simp [*]; done) | (simp; exact bne_nil_isEmpty _) | exact bne_nil_isEmpty _ | (simp; exact (bne_nil_isEmpty _).symm) | (simp; exact bne_nil_isEmpty' _)), H', ⟨by have := HJ5.out; have := HK2.out; omega⟩, by repeat (first | exact Drawn0.refl _ | apply Drawn0.step)⟩
                · replace c18 := Bool.eq_false_iff.mpr c18
                  subst c18
                  have H1 : (some (0, 0)) = some (r1, r2) := by rw [if_neg (show ¬ (false = true) by decide)] at H; exact H
                  clear H
                  have H := H1
                  clear H1
                  simp only [Option.some.injEq, Prod.mk.injEq] at H
                  obtain ⟨rfl, rfl⟩ := H
                  go_wp2_with (first | ((with_reducible refine gate_callee (f := 82) rfl ?_); refine goesL_ (some 57) rfl rfl Try.func82 (by kernel_rfl) rfl #[.string a0, .int .i64 (wrap64 (a1 + x9_2))] rfl (by (try simp only [List.map_toArray, List.map_cons, List.map_nil]); first | done | rfl | (simp only [List.length_drop, List.length_take]; rfl)) ?_; (with_reducible refine (polyglotref03_more.calls a0 (wrap64 (a1 + x9_2)) t268 false _ A17.out).mono ?_); rintro e w' ⟨rfl, ⟨nd, rfl⟩⟩; refine ⟨_, rfl, ?_⟩))
                  go_ret2
                  exact ⟨by first | rfl | (simp; done) | (simp [*]; done) | (simp; exact bne_nil_isEmpty _) | exact bne_nil_isEmpty _ | (simp; exact (bne_nil_isEmpty _).symm) | (simp; exact bne_nil_isEmpty' _), by repeat (first | exact Drawn0.refl _ | apply Drawn0.step)⟩
              · rw [if_neg c16] at H
                have c16b0 : decide (x9_2 < x7_5) = false := decide_eq_false c16
                clear c16
                by_cases c19 : x6_2 < x8_5
                · rw [if_pos c19] at H
                  have c19b0 : decide (x6_2 < x8_5) = true := decide_eq_true c19
                  clear c19
                  simp only [Option.some.injEq, Prod.mk.injEq] at H
                  obtain ⟨rfl, rfl⟩ := H
                  go_wp2
                  go_ret2
                  exact ⟨by first | rfl | (simp; done) | (simp [*]; done) | (simp; exact bne_nil_isEmpty _) | exact bne_nil_isEmpty _ | (simp; exact (bne_nil_isEmpty _).symm) | (simp; exact bne_nil_isEmpty' _), by repeat (first | exact Drawn0.refl _ | apply Drawn0.step)⟩
                · rw [if_neg c19] at H
                  have c19b0 : decide (x6_2 < x8_5) = false := decide_eq_false c19
                  clear c19
                  by_cases c20 : x6_2 > 1114111
                  · rw [if_pos c20] at H
                    have c20b0 : decide (1114111 < x6_2) = true := decide_eq_true c20
                    clear c20
                    simp only [Option.some.injEq, Prod.mk.injEq] at H
                    obtain ⟨rfl, rfl⟩ := H
                    go_wp2
                    go_ret2
                    exact ⟨by first | rfl | (simp; done) | (simp [*]; done) | (simp; exact bne_nil_isEmpty _) | exact bne_nil_isEmpty _ | (simp; exact (bne_nil_isEmpty _).symm) | (simp; exact bne_nil_isEmpty' _), by repeat (first | exact Drawn0.refl _ | apply Drawn0.step)⟩
                  · rw [if_neg c20] at H
                    have c20b0 : decide (1114111 < x6_2) = false := decide_eq_false c20
                    clear c20
                    by_cases c21 : x6_2 ≥ 55296
                    · rw [if_pos c21] at H
                      have c21b0 : decide (55296 ≤ x6_2) = true := decide_eq_true c21
                      clear c21
                      by_cases c22 : x6_2 ≤ 57343
                      · rw [if_pos c22] at H
                        have c22b0 : decide (x6_2 ≤ 57343) = true := decide_eq_true c22
                        clear c22
                        simp only [Option.some.injEq, Prod.mk.injEq] at H
                        obtain ⟨rfl, rfl⟩ := H
                        go_wp2
                        go_ret2
                        exact ⟨by first | rfl | (simp; done) | (simp [*]; done) | (simp; exact bne_nil_isEmpty _) | exact bne_nil_isEmpty _ | (simp; exact (bne_nil_isEmpty _).symm) | (simp; exact bne_nil_isEmpty' _), by repeat (first | exact Drawn0.refl _ | apply Drawn0.step)⟩
                      · rw [if_neg c22] at H
                        have c22b0 : decide (x6_2 ≤ 57343) = false := decide_eq_false c22
                        clear c22
                        simp only [Option.some.injEq, Prod.mk.injEq] at H
                        obtain ⟨rfl, rfl⟩ := H
                        go_wp2
                        go_ret2
                        exact ⟨by first | rfl | (simp; done) | (simp [*]; done) | (simp; exact bne_nil_isEmpty _) | exact bne_nil_isEmpty _ | (simp; exact (bne_nil_isEmpty _).symm) | (simp; exact bne_nil_isEmpty' _), by repeat (first | exact Drawn0.refl _ | apply Drawn0.step)⟩
                    · rw [if_neg c21] at H
                      have c21b0 : decide (55296 ≤ x6_2) = false := decide_eq_false c21
                      clear c21
                      simp only [Option.some.injEq, Prod.mk.injEq] at H
                      obtain ⟨rfl, rfl⟩ := H
                      go_wp2
                      go_ret2
                      exact ⟨by first | rfl | (simp; done) | (simp [*]; done) | (simp; exact bne_nil_isEmpty _) | exact bne_nil_isEmpty _ | (simp; exact (bne_nil_isEmpty _).symm) | (simp; exact bne_nil_isEmpty' _), by repeat (first | exact Drawn0.refl _ | apply Drawn0.step)⟩
    · rw [if_neg c4] at H
      exact absurd H (by simp)
  · rw [if_neg c3] at H
    exact absurd H (by simp)

end Go.Proofs.Ytngmipfobcaojaa.HA
end

-- YtngmipfobcaojaaHA65
section
namespace Go.Proofs.Ytngmipfobcaojaa.HA
open Go.RowKit Go.Proofs.YtngmipfobcaojaaW.PrintWords Go.Proofs.YtngmipfobcaojaaW.PrintLast Go.Proofs.YtngmipfobcaojaaW.PrintMore
attribute [local go_sem] max2_int min2_int max_two min_two max_three min_three max_four min_four

def polyglotref03_Bad.l0 : Nat → ByteArray → Int → Option (Int)
  | 0, _, _ => none
  | k + 1, x0, x3 => if x3 < (x0.size : Int) then ((polyglotref03_Point.f k x0 x3).bind fun bt270 => (if bt270.2 = 0 then (some x3) else (if bt270.1 = 0 then (some x3) else (polyglotref03_Bad.l0 k x0 (wrap64 (x3 + bt270.2)))))) else (some (-1))
def polyglotref03_Bad.f (k : Nat) (a0 : ByteArray) : Option (Int) := polyglotref03_Bad.l0 k a0 0
set_option maxHeartbeats 8000000 in
set_option maxRecDepth 100000 in
theorem polyglotref03_Bad.calls (k : Nat) (a0 : ByteArray) (r : Int) (w : World) (h : polyglotref03_Bad.f k a0 = some r) :
    Calls Try.prog 35 #[.string a0] w fun e w' => e = .returned (.int .i64 r) ∧ Drawn0 w w' := by
  have H : (polyglotref03_Bad.l0 k a0 0) = some r := h
  clear h
  have H' := Aside0.mk H
  clear H
  go_enter Try.func35, Try.ntmps35
  go_wp2
  go_loopg [3] k (fun kq v3 w' => ∃ (x3_1 : Int), v3 = .int .i64 x3_1 ∧ Aside0 (polyglotref03_Bad.l0 kq a0 x3_1 = some r) ∧ Aside0 (kq ≤ k) ∧ Drawn0 w w')
  case atStart => exact ⟨(0), (by first | rfl | (simp; done) | (simp [*]; done) | (simp; exact bne_nil_isEmpty _) | exact bne_nil_isEmpty _ | (simp; exact (bne_nil_isEmpty _).symm) | (simp; exact bne_nil_isEmpty' _)), H', ⟨Nat.le_refl _⟩, by repeat (first | exact Drawn0.refl _ | apply Drawn0.step)⟩
  case round =>
    clear H'
    obtain ⟨x3_1, rfl, HA, HK1, ⟨m1, rfl⟩⟩ := hrel
    cases gk with
    | zero => exact absurd HA.out (by simp [polyglotref03_Bad.l0])
    | succ k1 =>
      have H := HA.out
      clear HA
      simp only [polyglotref03_Bad.l0] at H
      by_cases c2 : x3_1 < (a0.size : Int)
      · rw [if_pos c2] at H
        have c2b0 : decide (x3_1 < (a0.size : Int)) = true := decide_eq_true c2
        clear c2
        replace H := Option.bind_eq_some_iff.mp H
        obtain ⟨⟨t270, t271⟩, A30, H⟩ := H
        replace H : (if t271 = 0 then (some x3_1) else (if t270 = 0 then (some x3_1) else (polyglotref03_Bad.l0 k1 a0 (wrap64 (x3_1 + t271))))) = some r := H
        have A3 := Aside0.mk A30
        clear A30
        by_cases c4 : t271 = 0
        · rw [if_pos c4] at H
          have c4b0 : (t271 == 0) = true := beq_iff_eq.mpr c4
          have c4b1 : (t271 != 0) = false := bne_eq_false_iff_eq.mpr c4
          clear c4
          obtain rfl := Option.some.inj H
          go_wp2_with (first | ((with_reducible refine gate_callee (f := 64) rfl ?_); refine goesL_ (some 13) rfl rfl Try.func64 (by kernel_rfl) rfl #[.string a0, .int .i64 x3_1] rfl (by (try simp only [List.map_toArray, List.map_cons, List.map_nil]); first | done | rfl | (simp only [List.length_drop, List.length_take]; rfl)) ?_; (with_reducible refine (polyglotref03_Point.calls k1 a0 x3_1 t270 t271 _ A3.out).mono ?_); rintro e w' ⟨rfl, ⟨nd, rfl⟩⟩; refine ⟨_, rfl, ?_⟩))
          go_ret
          exact ⟨by first | rfl | (simp; done) | (simp [*]; done) | (simp; exact bne_nil_isEmpty _) | exact bne_nil_isEmpty _ | (simp; exact (bne_nil_isEmpty _).symm) | (simp; exact bne_nil_isEmpty' _), by repeat (first | exact Drawn0.refl _ | apply Drawn0.step)⟩
        · rw [if_neg c4] at H
          have c4b0 : (t271 == 0) = false := beq_eq_false_iff_ne.mpr c4
          have c4b1 : (t271 != 0) = true := bne_iff_ne.mpr c4
          by_cases c5 : t270 = 0
          · rw [if_pos c5] at H
            have c5b0 : (t270 == 0) = true := beq_iff_eq.mpr c5
            have c5b1 : (t270 != 0) = false := bne_eq_false_iff_eq.mpr c5
            clear c5
            obtain rfl := Option.some.inj H
            go_wp2_with (first | ((with_reducible refine gate_callee (f := 64) rfl ?_); refine goesL_ (some 13) rfl rfl Try.func64 (by kernel_rfl) rfl #[.string a0, .int .i64 x3_1] rfl (by (try simp only [List.map_toArray, List.map_cons, List.map_nil]); first | done | rfl | (simp only [List.length_drop, List.length_take]; rfl)) ?_; (with_reducible refine (polyglotref03_Point.calls k1 a0 x3_1 t270 t271 _ A3.out).mono ?_); rintro e w' ⟨rfl, ⟨nd, rfl⟩⟩; refine ⟨_, rfl, ?_⟩))
            go_ret
            exact ⟨by first | rfl | (simp; done) | (simp [*]; done) | (simp; exact bne_nil_isEmpty _) | exact bne_nil_isEmpty _ | (simp; exact (bne_nil_isEmpty _).symm) | (simp; exact bne_nil_isEmpty' _), by repeat (first | exact Drawn0.refl _ | apply Drawn0.step)⟩
          · rw [if_neg c5] at H
            have c5b0 : (t270 == 0) = false := beq_eq_false_iff_ne.mpr c5
            have c5b1 : (t270 != 0) = true := bne_iff_ne.mpr c5
            have H' := Aside0.mk H
            clear H
            go_wp2_with (first | ((with_reducible refine gate_callee (f := 64) rfl ?_); refine goesL_ (some 13) rfl rfl Try.func64 (by kernel_rfl) rfl #[.string a0, .int .i64 x3_1] rfl (by (try simp only [List.map_toArray, List.map_cons, List.map_nil]); first | done | rfl | (simp only [List.length_drop, List.length_take]; rfl)) ?_; (with_reducible refine (polyglotref03_Point.calls k1 a0 x3_1 t270 t271 _ A3.out).mono ?_); rintro e w' ⟨rfl, ⟨nd, rfl⟩⟩; refine ⟨_, rfl, ?_⟩))
            go_roundg k1
            case measure => have := HK1.out; omega
            case rel => exact ⟨(wrap64 (x3_1 + t271)), (by first | rfl | (simp; done) | (simp [*]; done) | (simp; exact bne_nil_isEmpty _) | exact bne_nil_isEmpty _ | (simp; exact (bne_nil_isEmpty _).symm) | (simp; exact bne_nil_isEmpty' _)), H', ⟨by have := HK1.out; omega⟩, by repeat (first | exact Drawn0.refl _ | apply Drawn0.step)⟩
      · rw [if_neg c2] at H
        have c2b0 : decide (x3_1 < (a0.size : Int)) = false := decide_eq_false c2
        clear c2
        obtain rfl := Option.some.inj H
        go_wp2
        go_ret
        exact ⟨by first | rfl | (simp; done) | (simp [*]; done) | (simp; exact bne_nil_isEmpty _) | exact bne_nil_isEmpty _ | (simp; exact (bne_nil_isEmpty _).symm) | (simp; exact bne_nil_isEmpty' _), by repeat (first | exact Drawn0.refl _ | apply Drawn0.step)⟩

end Go.Proofs.Ytngmipfobcaojaa.HA
end

-- YtngmipfobcaojaaHA66
section
namespace Go.Proofs.Ytngmipfobcaojaa.HA
open Go.RowKit Go.Proofs.YtngmipfobcaojaaW.PrintWords Go.Proofs.YtngmipfobcaojaaW.PrintLast Go.Proofs.YtngmipfobcaojaaW.PrintMore
attribute [local go_sem] max2_int min2_int max_two min_two max_three min_three max_four min_four

def polyglotref03_Valid.f (k : Nat) (a0 : ByteArray) : Option (Bool) := if (a0.size : Int) ≤ 65535 then ((polyglotref03_Bad.f k a0).bind fun t272 => (some (decide (t272 < 0)))) else (some false)
set_option maxHeartbeats 8000000 in
set_option maxRecDepth 100000 in
theorem polyglotref03_Valid.calls (k : Nat) (a0 : ByteArray) (r : Bool) (w : World) (h : polyglotref03_Valid.f k a0 = some r) :
    Calls Try.prog 14 #[.string a0] w fun e w' => e = .returned (.bool r) ∧ Drawn0 w w' := by
  have H : (if (a0.size : Int) ≤ 65535 then ((polyglotref03_Bad.f k a0).bind fun t272 => (some (decide (t272 < 0)))) else (some false)) = some r := h
  clear h
  by_cases c2 : (a0.size : Int) ≤ 65535
  · rw [if_pos c2] at H
    have c2b0 : decide ((a0.size : Int) ≤ 65535) = true := decide_eq_true c2
    have c2b1 : decide (a0.size ≤ 65535) = true := decide_eq_true (by omega)
    clear c2
    replace H := Option.bind_eq_some_iff.mp H
    obtain ⟨t272, A30, H⟩ := H
    replace H : (some (decide (t272 < 0))) = some r := H
    have A3 := Aside0.mk A30
    clear A30
    obtain rfl := Option.some.inj H
    go_enter Try.func14, Try.ntmps14
    go_wp2_with (first | (go_at_call 35; (with_reducible refine (polyglotref03_Bad.calls k a0 t272 _ A3.out).mono ?_); rintro e w' ⟨rfl, ⟨nd, rfl⟩⟩))
    go_ret
    exact ⟨by first | rfl | (simp; done) | (simp [*]; done) | (simp; exact bne_nil_isEmpty _) | exact bne_nil_isEmpty _ | (simp; exact (bne_nil_isEmpty _).symm) | (simp; exact bne_nil_isEmpty' _), by repeat (first | exact Drawn0.refl _ | apply Drawn0.step)⟩
  · rw [if_neg c2] at H
    have c2b0 : decide ((a0.size : Int) ≤ 65535) = false := decide_eq_false c2
    have c2b1 : decide (a0.size ≤ 65535) = false := decide_eq_false (by omega)
    clear c2
    obtain rfl := Option.some.inj H
    go_enter Try.func14, Try.ntmps14
    go_wp2
    go_ret
    exact ⟨by first | rfl | (simp; done) | (simp [*]; done) | (simp; exact bne_nil_isEmpty _) | exact bne_nil_isEmpty _ | (simp; exact (bne_nil_isEmpty _).symm) | (simp; exact bne_nil_isEmpty' _), by repeat (first | exact Drawn0.refl _ | apply Drawn0.step)⟩

end Go.Proofs.Ytngmipfobcaojaa.HA
end

-- YtngmipfobcaojaaHA67
section
namespace Go.Proofs.Ytngmipfobcaojaa.HA
open Go.RowKit Go.Proofs.YtngmipfobcaojaaW.PrintWords Go.Proofs.YtngmipfobcaojaaW.PrintLast Go.Proofs.YtngmipfobcaojaaW.PrintMore
attribute [local go_sem] max2_int min2_int max_two min_two max_three min_three max_four min_four

def polyglotref04_has.l0 : Nat → ByteArray → Int → Int → Option (Bool)
  | 0, _, _, _ => none
  | k + 1, x0, x1, x5 => if x5 < (x0.size : Int) then (if 0 ≤ x5 then (if (bt x0 x5) = x1 then (some true) else (polyglotref04_has.l0 k x0 x1 (wrap64 (x5 + 1)))) else (none)) else (some false)
def polyglotref04_has.f (k : Nat) (a0 : ByteArray) (a1 : Int) : Option (Bool) := polyglotref04_has.l0 k a0 a1 0
set_option maxHeartbeats 8000000 in
set_option maxRecDepth 100000 in
theorem polyglotref04_has.calls (k : Nat) (a0 : ByteArray) (a1 : Int) (r : Bool) (w : World) (h : polyglotref04_has.f k a0 a1 = some r) :
    Calls Try.prog 44 #[.string a0, .int .u8 a1] w fun e w' => e = .returned (.bool r) ∧ Drawn0 w w' := by
  have H : (polyglotref04_has.l0 k a0 a1 0) = some r := h
  clear h
  have H' := Aside0.mk H
  clear H
  go_enter Try.func44, Try.ntmps44
  go_wp2
  go_loopg [5] k (fun kq v5 w' => ∃ (x5_1 : Int), v5 = .int .i64 x5_1 ∧ Aside0 (polyglotref04_has.l0 kq a0 a1 x5_1 = some r) ∧ Aside0 (kq ≤ k) ∧ Drawn0 w w')
  case atStart => exact ⟨(0), (by first | rfl | (simp; done) | (simp [*]; done) | (simp; exact bne_nil_isEmpty _) | exact bne_nil_isEmpty _ | (simp; exact (bne_nil_isEmpty _).symm) | (simp; exact bne_nil_isEmpty' _)), H', ⟨Nat.le_refl _⟩, by repeat (first | exact Drawn0.refl _ | apply Drawn0.step)⟩
  case round =>
    clear H'
    try clear p2
    obtain ⟨x5_1, rfl, HA, HK1, ⟨m1, rfl⟩⟩ := hrel
    cases gk with
    | zero => exact absurd HA.out (by simp [polyglotref04_has.l0])
    | succ k1 =>
      have H := HA.out
      clear HA
      simp only [polyglotref04_has.l0] at H
      by_cases c3 : x5_1 < (a0.size : Int)
      · rw [if_pos c3] at H
        have c3b0 : decide (x5_1 < (a0.size : Int)) = true := decide_eq_true c3
        clear c3
        by_cases c4 : 0 ≤ x5_1
        · rw [if_pos c4] at H
          have c4b0 : decide (0 ≤ x5_1) = true := decide_eq_true c4
          clear c4
          by_cases c6 : (bt a0 x5_1) = a1
          · rw [if_pos c6] at H
            have c6b0 : ((bt a0 x5_1) == a1) = true := beq_iff_eq.mpr c6
            have c6b1 : ((bt a0 x5_1) != a1) = false := bne_eq_false_iff_eq.mpr c6
            clear c6
            obtain rfl := Option.some.inj H
            have p5 : 0 ≤ (x5_1 : Int) := of_decide_eq_true (by first | (with_reducible assumption) | assumption)
            have q5 : x5_1 < (a0.size : Int) := of_decide_eq_true (by first | (with_reducible assumption) | assumption)
            have hx5 := bt_at a0 x5_1
            replace p5 := eq_true p5
            replace q5 := eq_true q5
            go_wp2
            go_ret
            exact ⟨by first | rfl | (simp; done) | (simp [*]; done) | (simp; exact bne_nil_isEmpty _) | exact bne_nil_isEmpty _ | (simp; exact (bne_nil_isEmpty _).symm) | (simp; exact bne_nil_isEmpty' _), by repeat (first | exact Drawn0.refl _ | apply Drawn0.step)⟩
          · rw [if_neg c6] at H
            have c6b0 : ((bt a0 x5_1) == a1) = false := beq_eq_false_iff_ne.mpr c6
            have c6b1 : ((bt a0 x5_1) != a1) = true := bne_iff_ne.mpr c6
            have H' := Aside0.mk H
            clear H
            have p5 : 0 ≤ (x5_1 : Int) := of_decide_eq_true (by first | (with_reducible assumption) | assumption)
            have q5 : x5_1 < (a0.size : Int) := of_decide_eq_true (by first | (with_reducible assumption) | assumption)
            have hx5 := bt_at a0 x5_1
            replace p5 := eq_true p5
            replace q5 := eq_true q5
            go_wp2
            go_roundg k1
            case measure => have := HK1.out; omega
            case rel => exact ⟨(wrap64 (x5_1 + 1)), (by first | rfl | (simp; done) | (simp [*]; done) | (simp; exact bne_nil_isEmpty _) | exact bne_nil_isEmpty _ | (simp; exact (bne_nil_isEmpty _).symm) | (simp; exact bne_nil_isEmpty' _)), H', ⟨by have := HK1.out; omega⟩, by repeat (first | exact Drawn0.refl _ | apply Drawn0.step)⟩
        · rw [if_neg c4] at H
          exact absurd H (by simp)
      · rw [if_neg c3] at H
        have c3b0 : decide (x5_1 < (a0.size : Int)) = false := decide_eq_false c3
        clear c3
        obtain rfl := Option.some.inj H
        go_wp2
        go_ret
        exact ⟨by first | rfl | (simp; done) | (simp [*]; done) | (simp; exact bne_nil_isEmpty _) | exact bne_nil_isEmpty _ | (simp; exact (bne_nil_isEmpty _).symm) | (simp; exact bne_nil_isEmpty' _), by repeat (first | exact Drawn0.refl _ | apply Drawn0.step)⟩

end Go.Proofs.Ytngmipfobcaojaa.HA
end

-- YtngmipfobcaojaaHA68
section
namespace Go.Proofs.Ytngmipfobcaojaa.HA
open Go.RowKit Go.Proofs.YtngmipfobcaojaaW.PrintWords Go.Proofs.YtngmipfobcaojaaW.PrintLast Go.Proofs.YtngmipfobcaojaaW.PrintMore
attribute [local go_sem] max2_int min2_int max_two min_two max_three min_three max_four min_four

def polyglotref04_Name.f (k : Nat) (a0 : ByteArray) : Option (Bool) := if a0.toList = ([] : List UInt8) then (some false) else ((polyglotref03_Valid.f k a0).bind fun t273 => (if t273 = true then ((polyglotref04_has.f k a0 43).bind fun t274 => (if t274 = true then (some false) else ((polyglotref04_has.f k a0 35).bind fun t275 => (some (!t275))))) else (some false)))
set_option maxHeartbeats 8000000 in
set_option maxRecDepth 100000 in
theorem polyglotref04_Name.calls (k : Nat) (a0 : ByteArray) (r : Bool) (w : World) (h : polyglotref04_Name.f k a0 = some r) :
    Calls Try.prog 23 #[.string a0] w fun e w' => e = .returned (.bool r) ∧ Drawn0 w w' := by
  have H : (if a0.toList = ([] : List UInt8) then (some false) else ((polyglotref03_Valid.f k a0).bind fun t273 => (if t273 = true then ((polyglotref04_has.f k a0 43).bind fun t274 => (if t274 = true then (some false) else ((polyglotref04_has.f k a0 35).bind fun t275 => (some (!t275))))) else (some false)))) = some r := h
  clear h
  by_cases c2 : a0.toList = ([] : List UInt8)
  · rw [if_pos c2] at H
    have c2b0 : (a0.toList == ([] : List UInt8)) = true := beq_iff_eq.mpr c2
    have c2b1 : (a0.toList != ([] : List UInt8)) = false := bne_eq_false_iff_eq.mpr c2
    clear c2
    obtain rfl := Option.some.inj H
    go_enter Try.func23, Try.ntmps23
    go_wp2
    go_ret
    exact ⟨by first | rfl | (simp; done) | (simp [*]; done) | (simp; exact bne_nil_isEmpty _) | exact bne_nil_isEmpty _ | (simp; exact (bne_nil_isEmpty _).symm) | (simp; exact bne_nil_isEmpty' _), by repeat (first | exact Drawn0.refl _ | apply Drawn0.step)⟩
  · rw [if_neg c2] at H
    have c2b0 : (a0.toList == ([] : List UInt8)) = false := beq_eq_false_iff_ne.mpr c2
    have c2b1 : (a0.toList != ([] : List UInt8)) = true := bne_iff_ne.mpr c2
    replace H := Option.bind_eq_some_iff.mp H
    obtain ⟨t273, A30, H⟩ := H
    replace H : (if t273 = true then ((polyglotref04_has.f k a0 43).bind fun t274 => (if t274 = true then (some false) else ((polyglotref04_has.f k a0 35).bind fun t275 => (some (!t275))))) else (some false)) = some r := H
    have A3 := Aside0.mk A30
    clear A30
    by_cases c4 : t273 = true
    · subst c4
      have H1 : ((polyglotref04_has.f k a0 43).bind fun t274 => (if t274 = true then (some false) else ((polyglotref04_has.f k a0 35).bind fun t275 => (some (!t275))))) = some r := by rw [if_pos rfl] at H; exact H
      clear H
      have H := H1
      clear H1
      replace H := Option.bind_eq_some_iff.mp H
      obtain ⟨t274, A50, H⟩ := H
      replace H : (if t274 = true then (some false) else ((polyglotref04_has.f k a0 35).bind fun t275 => (some (!t275)))) = some r := H
      have A5 := Aside0.mk A50
      clear A50
      by_cases c6 : t274 = true
      · subst c6
        have H1 : (some false) = some r := by rw [if_pos rfl] at H; exact H
        clear H
        have H := H1
        clear H1
        obtain rfl := Option.some.inj H
        go_enter Try.func23, Try.ntmps23
        go_wp2_with (first | (go_at_call 14; (with_reducible refine (polyglotref03_Valid.calls k a0 true _ A3.out).mono ?_); rintro e w' ⟨rfl, ⟨nd, rfl⟩⟩) | (go_at_call 44; (with_reducible refine (polyglotref04_has.calls k a0 43 true _ A5.out).mono ?_); rintro e w' ⟨rfl, ⟨nd, rfl⟩⟩))
        go_ret
        exact ⟨by first | rfl | (simp; done) | (simp [*]; done) | (simp; exact bne_nil_isEmpty _) | exact bne_nil_isEmpty _ | (simp; exact (bne_nil_isEmpty _).symm) | (simp; exact bne_nil_isEmpty' _), by repeat (first | exact Drawn0.refl _ | apply Drawn0.step)⟩
      · replace c6 := Bool.eq_false_iff.mpr c6
        subst c6
        have H1 : ((polyglotref04_has.f k a0 35).bind fun t275 => (some (!t275))) = some r := by rw [if_neg (show ¬ (false = true) by decide)] at H; exact H
        clear H
        have H := H1
        clear H1
        replace H := Option.bind_eq_some_iff.mp H
        obtain ⟨t275, A70, H⟩ := H
        replace H : (some (!t275)) = some r := H
        have A7 := Aside0.mk A70
        clear A70
        obtain rfl := Option.some.inj H
        go_enter Try.func23, Try.ntmps23
        go_wp2_with (first | (go_at_call 14; (with_reducible refine (polyglotref03_Valid.calls k a0 true _ A3.out).mono ?_); rintro e w' ⟨rfl, ⟨nd, rfl⟩⟩) | (go_at_call 44; (with_reducible refine (polyglotref04_has.calls k a0 43 false _ A5.out).mono ?_); rintro e w' ⟨rfl, ⟨nd, rfl⟩⟩) | (go_at_call 44; (with_reducible refine (polyglotref04_has.calls k a0 35 t275 _ A7.out).mono ?_); rintro e w' ⟨rfl, ⟨nd, rfl⟩⟩))
        go_ret
        exact ⟨by first | rfl | (simp; done) | (simp [*]; done) | (simp; exact bne_nil_isEmpty _) | exact bne_nil_isEmpty _ | (simp; exact (bne_nil_isEmpty _).symm) | (simp; exact bne_nil_isEmpty' _), by repeat (first | exact Drawn0.refl _ | apply Drawn0.step)⟩
    · replace c4 := Bool.eq_false_iff.mpr c4
      subst c4
      have H1 : (some false) = some r := by rw [if_neg (show ¬ (false = true) by decide)] at H; exact H
      clear H
      have H := H1
      clear H1
      obtain rfl := Option.some.inj H
      go_enter Try.func23, Try.ntmps23
      go_wp2_with (first | (go_at_call 14; (with_reducible refine (polyglotref03_Valid.calls k a0 false _ A3.out).mono ?_); rintro e w' ⟨rfl, ⟨nd, rfl⟩⟩))
      go_ret
      exact ⟨by first | rfl | (simp; done) | (simp [*]; done) | (simp; exact bne_nil_isEmpty _) | exact bne_nil_isEmpty _ | (simp; exact (bne_nil_isEmpty _).symm) | (simp; exact bne_nil_isEmpty' _), by repeat (first | exact Drawn0.refl _ | apply Drawn0.step)⟩

end Go.Proofs.Ytngmipfobcaojaa.HA
end
