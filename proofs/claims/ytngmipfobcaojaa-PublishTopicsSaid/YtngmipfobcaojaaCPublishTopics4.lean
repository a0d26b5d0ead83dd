/- A part of the proof: texts that were built one by one, laid together. -/
import Derived.Test.YtngmipfobcaojaaCPublishTopics2
import Derived.Test.YtngmipfobcaojaaCPublishTopics3
import Derived.Laws.Tables
import Derived.Laws.CopyOwn
import Derived.WalkMore
import Derived.Deep.DeepCutAuto
import Derived.Test.YtngmipfobcaojaaCPublishTopics1
import Derived.RegionTactic
import Derived.Deep.RegionWith
import Derived.Deep.QuietTactic
import Derived.BigQuiet
import Derived.LoopN
import Derived.Deep.LoopGhost
set_option linter.unusedVariables false
set_option linter.unusedSimpArgs false
-- YtngmipfobcaojaaHAhPubFields
section
namespace Go.Proofs.Ytngmipfobcaojaa.HA
open Go.RowKit Go.Proofs.YtngmipfobcaojaaW.PrintWords Go.Proofs.YtngmipfobcaojaaW.PrintLast Go.Proofs.YtngmipfobcaojaaW.PrintMore
def fieldsS (a0 : Int) (q id : Int) (n : Nat) (t : Bool) : Bool := if t = true then (if a0 = 4 ∧ 0 < n then false else if q = 0 then id == 0 else if 0 < id then decide (id < 65536) else false) else false
def publish_fields.f (k : Nat) (a0 : Int) (a1_0 : Int) (a1_1 : Bool) (a1_2 : Bool) (a1_3 : Int) (a1_4 : Int) (a1_5 : ByteArray) (a1_6 : ByteArray) (a1_7 : Bool) (a1_8 : Int) (a1_9 : ByteArray) (a1_10 : Bool) (a1_11 : ByteArray) (a1_12 : Bool) (a1_13 : ByteArray) (a1_14 : Bool) (a1_15 : ByteArray) (a1_16 : ByteArray) (a1_17 : Int) (a1_18 : Bool) (l1_19 : List S27) (a1_20 : Bool) (a1_21 : Int) (l1_22 : List Int) (l1_23 : List S119) (l1_24 : List S27) : Option Bool := (head_Same.f k a1_0 a1_1 a1_2 a1_3 a1_4 a1_5 a1_6 a1_7 a1_8 a1_9 a1_10 a1_11 a1_12 a1_13 a1_14 a1_15 a1_16 a1_17 a1_18 l1_19 a1_20 a1_21 l1_22 l1_23 l1_24 a1_0 a1_1 a1_2 a1_3 a1_4 a1_5 a1_6 false 0 (⟨#[]⟩ : ByteArray) false (⟨#[]⟩ : ByteArray) false (⟨#[]⟩ : ByteArray) false (⟨#[]⟩ : ByteArray) (⟨#[]⟩ : ByteArray) 0 false ([] : List S27) false 0 ([] : List Int) ([] : List S119) l1_24).bind fun t => some (fieldsS a0 a1_3 a1_4 l1_24.length t)
theorem gate_packet_store {P : Program} {ops : Array Oper} {rest : List Oper} {o : Oper} {a : Act} {Q : Exit → Act → World → Prop} {W : World} {x y : Operand} (_ho : o.op = .store 48 x y) (h : wpList P ops Q (o :: rest) a W) : wpList P ops Q (o :: rest) a W := h
theorem store_whole {P : Program} {ops : Array Oper} {rest : List Oper} {o : Oper} {a : Act} {Q : Exit → Act → World → Prop} {w w0 : World} (hgd : o.guard = none) (ty : TypeId) (x y : Operand) (ho : o.op = .store ty x y)
    (g gp : Nat) (cells : Array Value) (hx : a.eval x = .pointer (some ⟨g, 0, none⟩)) (hy : a.eval y = .agg cells) (old csp : Array Value) (hg : w.heap[g]? = some (.cells old ty (0, 0))) (hp : w.heap[gp]? = some (.cells csp ty (0, 0))) (hne : gp ≠ g) (hlo : w0.heap.size ≤ g) (hB : Below w0.heap.size w0 w)
    (hi : (P.info? ty).map (·.size) = some cells.size) (hold : old.size = cells.size) (h1 : cells.all (·.oneCell') = true)
    (h : ∀ w1, w1.heap[g]? = some (.cells cells ty (0, 0)) → w1.heap[gp]? = some (.cells csp ty (0, 0)) → Below w0.heap.size w0 w1 → wpList P ops Q rest (a.put o.dst undef) w1) : wpList P ops Q (o :: rest) a w := by
  refine wpList_store_row hgd ty x y ho g cells hx hy ty old hg hi hold h1 (h _ ?_ ?_ ?_)
  · exact setRow_heap w g old cells ty (0, 0) hg
  · rw [setRow_other w g gp cells hne]; exact hp
  · exact below_setRow hB hlo cells
set_option maxHeartbeats 4000000 in
set_option maxRecDepth 100000 in
theorem fields9 (k : Nat) (v : Int) (P : Pk) (t : Bool) (w : World) (PC : PkC P w) (h : head_Same.f k P.a0 P.a1 P.a2 P.a3 P.a4 P.a5 P.a6 P.a7 P.a8 P.a9 P.a10 P.a11 P.a12 P.a13 P.a14 P.a15 P.a16 P.a17 P.a18 P.l19 P.a20 P.a21 P.l22 P.l23 P.l24 P.a0 P.a1 P.a2 P.a3 P.a4 P.a5 P.a6 false 0 (⟨#[]⟩ : ByteArray) false (⟨#[]⟩ : ByteArray) false (⟨#[]⟩ : ByteArray) false (⟨#[]⟩ : ByteArray) (⟨#[]⟩ : ByteArray) 0 false ([] : List S27) false 0 ([] : List Int) ([] : List S119) P.l24 = some t) :
    Calls Try.prog 51 #[.int .i64 v, .agg #[.int .i64 P.a0, .bool P.a1, .bool P.a2, .int .i64 P.a3, .int .i64 P.a4, .string P.a5, .string P.a6, .bool P.a7, .int .i64 P.a8, .string P.a9, .bool P.a10, .string P.a11, .bool P.a12, .string P.a13, .bool P.a14, .string P.a15, .string P.a16, .int .i64 P.a17, .bool P.a18, .slice P.A19 P.l19.length P.c19, .bool P.a20, .int .i64 P.a21, .slice P.A22 P.l22.length P.c22, .slice P.A23 P.l23.length P.c23, .slice P.A24 P.l24.length P.c24]] w fun e w' => e = .returned (.bool (fieldsS v P.a3 P.a4 P.l24.length t)) ∧ Below w.heap.size w w' := by
  have H := Aside0.mk h
  have HP := Aside0.mk PC
  clear h PC
  have HB := Aside0.mk (Below.refl w.heap.size w)
  go_enter Try.func51, Try.ntmps51
  go_upto_region 2 with (first | ((with_reducible refine gate_dst (N := 3) rfl ?_); refine box_event ?hg (N := 3) ?hd (cs := #[.int .i64 P.a0, .bool P.a1, .bool P.a2, .int .i64 P.a3, .int .i64 P.a4, .string P.a5, .string P.a6, .bool P.a7, .int .i64 P.a8, .string P.a9, .bool P.a10, .string P.a11, .bool P.a12, .string P.a13, .bool P.a14, .string P.a15, .string P.a16, .int .i64 P.a17, .bool P.a18, .slice P.A19 P.l19.length P.c19, .bool P.a20, .int .i64 P.a21, .slice P.A22 P.l22.length P.c22, .slice P.A23 P.l23.length P.c23, .slice P.A24 P.l24.length P.c24]) (t := 48) ?hr ?_; (case hd => rfl); (case hg => rfl); (case hr => first | (go_simp; done) | (go_simp; rfl)); intro gp hgp w1 hbox hb; have BKp := Aside0.mk hbox; have GE := Aside0.mk (show w.heap.size ≤ gp by rw [hgp]; exact Nat.le_refl _); have n_ := Aside0.mk (below_step HB.out hb); clear HB; have HB := n_; clear n_ hb hbox hgp) | ((with_reducible refine gate_dst (N := 5) rfl ?_); refine box_event ?hg2 (N := 5) ?hd2 (cs := #[.int .i64 0, .bool false, .bool false, .int .i64 0, .int .i64 0, .string ⟨#[]⟩, .string ⟨#[]⟩, .bool false, .int .i64 0, .string ⟨#[]⟩, .bool false, .string ⟨#[]⟩, .bool false, .string ⟨#[]⟩, .bool false, .string ⟨#[]⟩, .string ⟨#[]⟩, .int .i64 0, .bool false, .slice none 0 0, .bool false, .int .i64 0, .slice none 0 0, .slice none 0 0, .slice none 0 0]) (t := 48) ?hr2 ?_; (case hd2 => rfl); (case hg2 => rfl); (case hr2 => first | (go_simp; done) | (go_simp; rfl)); intro gq hgq w2 hbox hb; have BKq := Aside0.mk hbox; have NE := Aside0.mk (show gp ≠ gq by rw [hgq]; exact Nat.ne_of_lt (blk_lt BKp.out)); have GQ := Aside0.mk (show w.heap.size ≤ gq by rw [hgq]; exact HB.out.size); have n1_ := Aside0.mk (blk_below BKp.out hb); have n_ := Aside0.mk (below_step HB.out hb); clear HB BKp; have HB := n_; have BKp := n1_; clear n_ n1_ hb hbox hgq) | ((with_reducible refine gate_packet rfl ?_); refine wpList_load_row rfl 48 _ rfl _ (by rfl) 48 _ _ _ (by first | with_reducible exact BKp.out | with_reducible exact BKq.out) Try.underlying48 rfl (by kernel_rfl) ?_) | ((with_reducible refine gate_packet_store rfl ?_); refine store_whole (w0 := w) rfl 48 _ _ rfl gq gp #[.int .i64 P.a0, .bool P.a1, .bool P.a2, .int .i64 P.a3, .int .i64 P.a4, .string P.a5, .string P.a6, .bool P.a7, .int .i64 P.a8, .string P.a9, .bool P.a10, .string P.a11, .bool P.a12, .string P.a13, .bool P.a14, .string P.a15, .string P.a16, .int .i64 P.a17, .bool P.a18, .slice P.A19 P.l19.length P.c19, .bool P.a20, .int .i64 P.a21, .slice P.A22 P.l22.length P.c22, .slice P.A23 P.l23.length P.c23, .slice P.A24 P.l24.length P.c24] (by rfl) (by rfl) _ _ BKq.out BKp.out NE.out GQ.out HB.out (by kernel_rfl) (by rfl) (by simp [Value.oneCell']) ?_; intro w3 hq hp hb; clear BKq BKp HB; have BKq := Aside0.mk hq; have BKp := Aside0.mk hp; have HB := Aside0.mk hb; clear hq hp hb))
  (try simp only [Act.put, List.setIfInBounds_toArray, List.set_cons_zero, List.set_cons_succ])
  have hcz3_7 : w3.cell? ⟨gq, 7, none⟩ = some (.bool P.a7) := (blk_cell BKq.out 7).trans rfl
  have hcz3_8 : w3.cell? ⟨gq, 8, none⟩ = some (.int .i64 P.a8) := (blk_cell BKq.out 8).trans rfl
  have hcz3_9 : w3.cell? ⟨gq, 9, none⟩ = some (.string P.a9) := (blk_cell BKq.out 9).trans rfl
  have hcz3_20 : w3.cell? ⟨gq, 20, none⟩ = some (.bool P.a20) := (blk_cell BKq.out 20).trans rfl
  have hcz3_21 : w3.cell? ⟨gq, 21, none⟩ = some (.int .i64 P.a21) := (blk_cell BKq.out 21).trans rfl
  have hfz3_7 := blk_frozen BKq.out 7
  have hfz3_8 := blk_frozen BKq.out 8
  have hfz3_9 := blk_frozen BKq.out 9
  have hfz3_20 := blk_frozen BKq.out 20
  have hfz3_21 := blk_frozen BKq.out 21
  go_upto_region 3 with (fail)
  (try simp only [Act.put, List.setIfInBounds_toArray, List.set_cons_zero, List.set_cons_succ])
  obtain ⟨w4, hw4⟩ : ∃ W : World, W = (((((w3.setCell ⟨gq, 7, none⟩ (.bool false)).setCell ⟨gq, 8, none⟩ (.int .i64 0)).setCell ⟨gq, 9, none⟩ (.string ⟨#[]⟩)).setCell ⟨gq, 20, none⟩ (.bool false)).setCell ⟨gq, 21, none⟩ (.int .i64 0)) := ⟨_, rfl⟩
  rw [← hw4]
  have n1_ : Aside0 (w4.heap[gq]? = some (.cells #[.int .i64 P.a0, .bool P.a1, .bool P.a2, .int .i64 P.a3, .int .i64 P.a4, .string P.a5, .string P.a6, .bool false, .int .i64 0, .string ⟨#[]⟩, .bool P.a10, .string P.a11, .bool P.a12, .string P.a13, .bool P.a14, .string P.a15, .string P.a16, .int .i64 P.a17, .bool P.a18, .slice P.A19 P.l19.length P.c19, .bool false, .int .i64 0, .slice P.A22 P.l22.length P.c22, .slice P.A23 P.l23.length P.c23, .slice P.A24 P.l24.length P.c24] 48 (0, 0))) := ⟨by rw [hw4]; exact (blk_put (blk_put (blk_put (blk_put (blk_put BKq.out 7 (.bool false) (show _ = (#[.int .i64 P.a0, .bool P.a1, .bool P.a2, .int .i64 P.a3, .int .i64 P.a4, .string P.a5, .string P.a6, .bool false, .int .i64 P.a8, .string P.a9, .bool P.a10, .string P.a11, .bool P.a12, .string P.a13, .bool P.a14, .string P.a15, .string P.a16, .int .i64 P.a17, .bool P.a18, .slice P.A19 P.l19.length P.c19, .bool P.a20, .int .i64 P.a21, .slice P.A22 P.l22.length P.c22, .slice P.A23 P.l23.length P.c23, .slice P.A24 P.l24.length P.c24] : Array Value) from rfl)) 8 (.int .i64 0) (show _ = (#[.int .i64 P.a0, .bool P.a1, .bool P.a2, .int .i64 P.a3, .int .i64 P.a4, .string P.a5, .string P.a6, .bool false, .int .i64 0, .string P.a9, .bool P.a10, .string P.a11, .bool P.a12, .string P.a13, .bool P.a14, .string P.a15, .string P.a16, .int .i64 P.a17, .bool P.a18, .slice P.A19 P.l19.length P.c19, .bool P.a20, .int .i64 P.a21, .slice P.A22 P.l22.length P.c22, .slice P.A23 P.l23.length P.c23, .slice P.A24 P.l24.length P.c24] : Array Value) from rfl)) 9 (.string ⟨#[]⟩) (show _ = (#[.int .i64 P.a0, .bool P.a1, .bool P.a2, .int .i64 P.a3, .int .i64 P.a4, .string P.a5, .string P.a6, .bool false, .int .i64 0, .string ⟨#[]⟩, .bool P.a10, .string P.a11, .bool P.a12, .string P.a13, .bool P.a14, .string P.a15, .string P.a16, .int .i64 P.a17, .bool P.a18, .slice P.A19 P.l19.length P.c19, .bool P.a20, .int .i64 P.a21, .slice P.A22 P.l22.length P.c22, .slice P.A23 P.l23.length P.c23, .slice P.A24 P.l24.length P.c24] : Array Value) from rfl)) 20 (.bool false) (show _ = (#[.int .i64 P.a0, .bool P.a1, .bool P.a2, .int .i64 P.a3, .int .i64 P.a4, .string P.a5, .string P.a6, .bool false, .int .i64 0, .string ⟨#[]⟩, .bool P.a10, .string P.a11, .bool P.a12, .string P.a13, .bool P.a14, .string P.a15, .string P.a16, .int .i64 P.a17, .bool P.a18, .slice P.A19 P.l19.length P.c19, .bool false, .int .i64 P.a21, .slice P.A22 P.l22.length P.c22, .slice P.A23 P.l23.length P.c23, .slice P.A24 P.l24.length P.c24] : Array Value) from rfl)) 21 (.int .i64 0) (show _ = (#[.int .i64 P.a0, .bool P.a1, .bool P.a2, .int .i64 P.a3, .int .i64 P.a4, .string P.a5, .string P.a6, .bool false, .int .i64 0, .string ⟨#[]⟩, .bool P.a10, .string P.a11, .bool P.a12, .string P.a13, .bool P.a14, .string P.a15, .string P.a16, .int .i64 P.a17, .bool P.a18, .slice P.A19 P.l19.length P.c19, .bool false, .int .i64 0, .slice P.A22 P.l22.length P.c22, .slice P.A23 P.l23.length P.c23, .slice P.A24 P.l24.length P.c24] : Array Value) from rfl))⟩
  have n2_ : Aside0 (w4.heap[gp]? = some (.cells #[.int .i64 P.a0, .bool P.a1, .bool P.a2, .int .i64 P.a3, .int .i64 P.a4, .string P.a5, .string P.a6, .bool P.a7, .int .i64 P.a8, .string P.a9, .bool P.a10, .string P.a11, .bool P.a12, .string P.a13, .bool P.a14, .string P.a15, .string P.a16, .int .i64 P.a17, .bool P.a18, .slice P.A19 P.l19.length P.c19, .bool P.a20, .int .i64 P.a21, .slice P.A22 P.l22.length P.c22, .slice P.A23 P.l23.length P.c23, .slice P.A24 P.l24.length P.c24] 48 (0, 0))) := ⟨by rw [hw4]; exact (blk_far (blk_far (blk_far (blk_far (blk_far BKp.out (p := ⟨gq, 7, none⟩) NE.out (.bool false)) (p := ⟨gq, 8, none⟩) NE.out (.int .i64 0)) (p := ⟨gq, 9, none⟩) NE.out (.string ⟨#[]⟩)) (p := ⟨gq, 20, none⟩) NE.out (.bool false)) (p := ⟨gq, 21, none⟩) NE.out (.int .i64 0))⟩
  have n3_ : Aside0 (Below w.heap.size w w4) := ⟨by rw [hw4]; exact (below_set (below_set (below_set (below_set (below_set HB.out GQ.out) GQ.out) GQ.out) GQ.out) GQ.out)⟩
  clear hcz3_7 hfz3_7 hcz3_8 hfz3_8 hcz3_9 hfz3_9 hcz3_20 hfz3_20 hcz3_21 hfz3_21 hw4 BKq BKp HB
  have BKq := n1_
  have BKp := n2_
  have HB := n3_
  clear n1_ n2_ n3_
  have hcz4_10 : w4.cell? ⟨gq, 10, none⟩ = some (.bool P.a10) := (blk_cell BKq.out 10).trans rfl
  have hcz4_11 : w4.cell? ⟨gq, 11, none⟩ = some (.string P.a11) := (blk_cell BKq.out 11).trans rfl
  have hcz4_12 : w4.cell? ⟨gq, 12, none⟩ = some (.bool P.a12) := (blk_cell BKq.out 12).trans rfl
  have hcz4_13 : w4.cell? ⟨gq, 13, none⟩ = some (.string P.a13) := (blk_cell BKq.out 13).trans rfl
  have hfz4_10 := blk_frozen BKq.out 10
  have hfz4_11 := blk_frozen BKq.out 11
  have hfz4_12 := blk_frozen BKq.out 12
  have hfz4_13 := blk_frozen BKq.out 13
  go_upto_region 4 with (fail)
  (try simp only [Act.put, List.setIfInBounds_toArray, List.set_cons_zero, List.set_cons_succ])
  obtain ⟨w5, hw5⟩ : ∃ W : World, W = ((((w4.setCell ⟨gq, 10, none⟩ (.bool false)).setCell ⟨gq, 11, none⟩ (.string ⟨#[]⟩)).setCell ⟨gq, 12, none⟩ (.bool false)).setCell ⟨gq, 13, none⟩ (.string ⟨#[]⟩)) := ⟨_, rfl⟩
  rw [← hw5]
  have n1_ : Aside0 (w5.heap[gq]? = some (.cells #[.int .i64 P.a0, .bool P.a1, .bool P.a2, .int .i64 P.a3, .int .i64 P.a4, .string P.a5, .string P.a6, .bool false, .int .i64 0, .string ⟨#[]⟩, .bool false, .string ⟨#[]⟩, .bool false, .string ⟨#[]⟩, .bool P.a14, .string P.a15, .string P.a16, .int .i64 P.a17, .bool P.a18, .slice P.A19 P.l19.length P.c19, .bool false, .int .i64 0, .slice P.A22 P.l22.length P.c22, .slice P.A23 P.l23.length P.c23, .slice P.A24 P.l24.length P.c24] 48 (0, 0))) := ⟨by rw [hw5]; exact (blk_put (blk_put (blk_put (blk_put BKq.out 10 (.bool false) (show _ = (#[.int .i64 P.a0, .bool P.a1, .bool P.a2, .int .i64 P.a3, .int .i64 P.a4, .string P.a5, .string P.a6, .bool false, .int .i64 0, .string ⟨#[]⟩, .bool false, .string P.a11, .bool P.a12, .string P.a13, .bool P.a14, .string P.a15, .string P.a16, .int .i64 P.a17, .bool P.a18, .slice P.A19 P.l19.length P.c19, .bool false, .int .i64 0, .slice P.A22 P.l22.length P.c22, .slice P.A23 P.l23.length P.c23, .slice P.A24 P.l24.length P.c24] : Array Value) from rfl)) 11 (.string ⟨#[]⟩) (show _ = (#[.int .i64 P.a0, .bool P.a1, .bool P.a2, .int .i64 P.a3, .int .i64 P.a4, .string P.a5, .string P.a6, .bool false, .int .i64 0, .string ⟨#[]⟩, .bool false, .string ⟨#[]⟩, .bool P.a12, .string P.a13, .bool P.a14, .string P.a15, .string P.a16, .int .i64 P.a17, .bool P.a18, .slice P.A19 P.l19.length P.c19, .bool false, .int .i64 0, .slice P.A22 P.l22.length P.c22, .slice P.A23 P.l23.length P.c23, .slice P.A24 P.l24.length P.c24] : Array Value) from rfl)) 12 (.bool false) (show _ = (#[.int .i64 P.a0, .bool P.a1, .bool P.a2, .int .i64 P.a3, .int .i64 P.a4, .string P.a5, .string P.a6, .bool false, .int .i64 0, .string ⟨#[]⟩, .bool false, .string ⟨#[]⟩, .bool false, .string P.a13, .bool P.a14, .string P.a15, .string P.a16, .int .i64 P.a17, .bool P.a18, .slice P.A19 P.l19.length P.c19, .bool false, .int .i64 0, .slice P.A22 P.l22.length P.c22, .slice P.A23 P.l23.length P.c23, .slice P.A24 P.l24.length P.c24] : Array Value) from rfl)) 13 (.string ⟨#[]⟩) (show _ = (#[.int .i64 P.a0, .bool P.a1, .bool P.a2, .int .i64 P.a3, .int .i64 P.a4, .string P.a5, .string P.a6, .bool false, .int .i64 0, .string ⟨#[]⟩, .bool false, .string ⟨#[]⟩, .bool false, .string ⟨#[]⟩, .bool P.a14, .string P.a15, .string P.a16, .int .i64 P.a17, .bool P.a18, .slice P.A19 P.l19.length P.c19, .bool false, .int .i64 0, .slice P.A22 P.l22.length P.c22, .slice P.A23 P.l23.length P.c23, .slice P.A24 P.l24.length P.c24] : Array Value) from rfl))⟩
  have n2_ : Aside0 (w5.heap[gp]? = some (.cells #[.int .i64 P.a0, .bool P.a1, .bool P.a2, .int .i64 P.a3, .int .i64 P.a4, .string P.a5, .string P.a6, .bool P.a7, .int .i64 P.a8, .string P.a9, .bool P.a10, .string P.a11, .bool P.a12, .string P.a13, .bool P.a14, .string P.a15, .string P.a16, .int .i64 P.a17, .bool P.a18, .slice P.A19 P.l19.length P.c19, .bool P.a20, .int .i64 P.a21, .slice P.A22 P.l22.length P.c22, .slice P.A23 P.l23.length P.c23, .slice P.A24 P.l24.length P.c24] 48 (0, 0))) := ⟨by rw [hw5]; exact (blk_far (blk_far (blk_far (blk_far BKp.out (p := ⟨gq, 10, none⟩) NE.out (.bool false)) (p := ⟨gq, 11, none⟩) NE.out (.string ⟨#[]⟩)) (p := ⟨gq, 12, none⟩) NE.out (.bool false)) (p := ⟨gq, 13, none⟩) NE.out (.string ⟨#[]⟩))⟩
  have n3_ : Aside0 (Below w.heap.size w w5) := ⟨by rw [hw5]; exact (below_set (below_set (below_set (below_set HB.out GQ.out) GQ.out) GQ.out) GQ.out)⟩
  clear hcz4_10 hfz4_10 hcz4_11 hfz4_11 hcz4_12 hfz4_12 hcz4_13 hfz4_13 hw5 BKq BKp HB
  have BKq := n1_
  have BKp := n2_
  have HB := n3_
  clear n1_ n2_ n3_
  have hcz5_14 : w5.cell? ⟨gq, 14, none⟩ = some (.bool P.a14) := (blk_cell BKq.out 14).trans rfl
  have hcz5_15 : w5.cell? ⟨gq, 15, none⟩ = some (.string P.a15) := (blk_cell BKq.out 15).trans rfl
  have hcz5_16 : w5.cell? ⟨gq, 16, none⟩ = some (.string P.a16) := (blk_cell BKq.out 16).trans rfl
  have hcz5_17 : w5.cell? ⟨gq, 17, none⟩ = some (.int .i64 P.a17) := (blk_cell BKq.out 17).trans rfl
  have hcz5_18 : w5.cell? ⟨gq, 18, none⟩ = some (.bool P.a18) := (blk_cell BKq.out 18).trans rfl
  have hcz5_19 : w5.cell? ⟨gq, 19, none⟩ = some (.slice P.A19 P.l19.length P.c19) := (blk_cell BKq.out 19).trans rfl
  have hcz5_22 : w5.cell? ⟨gq, 22, none⟩ = some (.slice P.A22 P.l22.length P.c22) := (blk_cell BKq.out 22).trans rfl
  have hcz5_23 : w5.cell? ⟨gq, 23, none⟩ = some (.slice P.A23 P.l23.length P.c23) := (blk_cell BKq.out 23).trans rfl
  have hfz5_14 := blk_frozen BKq.out 14
  have hfz5_15 := blk_frozen BKq.out 15
  have hfz5_16 := blk_frozen BKq.out 16
  have hfz5_17 := blk_frozen BKq.out 17
  have hfz5_18 := blk_frozen BKq.out 18
  have hfz5_19 := blk_frozen BKq.out 19
  have hfz5_22 := blk_frozen BKq.out 22
  have hfz5_23 := blk_frozen BKq.out 23
  go_upto_region 5 with (fail)
  (try simp only [Act.put, List.setIfInBounds_toArray, List.set_cons_zero, List.set_cons_succ])
  obtain ⟨w6, hw6⟩ : ∃ W : World, W = ((((((((w5.setCell ⟨gq, 14, none⟩ (.bool false)).setCell ⟨gq, 15, none⟩ (.string ⟨#[]⟩)).setCell ⟨gq, 16, none⟩ (.string ⟨#[]⟩)).setCell ⟨gq, 17, none⟩ (.int .i64 0)).setCell ⟨gq, 18, none⟩ (.bool false)).setCell ⟨gq, 19, none⟩ (.slice none 0 0)).setCell ⟨gq, 22, none⟩ (.slice none 0 0)).setCell ⟨gq, 23, none⟩ (.slice none 0 0)) := ⟨_, rfl⟩
  rw [← hw6]
  have n1_ : Aside0 (w6.heap[gq]? = some (.cells #[.int .i64 P.a0, .bool P.a1, .bool P.a2, .int .i64 P.a3, .int .i64 P.a4, .string P.a5, .string P.a6, .bool false, .int .i64 0, .string ⟨#[]⟩, .bool false, .string ⟨#[]⟩, .bool false, .string ⟨#[]⟩, .bool false, .string ⟨#[]⟩, .string ⟨#[]⟩, .int .i64 0, .bool false, .slice none 0 0, .bool false, .int .i64 0, .slice none 0 0, .slice none 0 0, .slice P.A24 P.l24.length P.c24] 48 (0, 0))) := ⟨by rw [hw6]; exact (blk_put (blk_put (blk_put (blk_put (blk_put (blk_put (blk_put (blk_put BKq.out 14 (.bool false) (show _ = (#[.int .i64 P.a0, .bool P.a1, .bool P.a2, .int .i64 P.a3, .int .i64 P.a4, .string P.a5, .string P.a6, .bool false, .int .i64 0, .string ⟨#[]⟩, .bool false, .string ⟨#[]⟩, .bool false, .string ⟨#[]⟩, .bool false, .string P.a15, .string P.a16, .int .i64 P.a17, .bool P.a18, .slice P.A19 P.l19.length P.c19, .bool false, .int .i64 0, .slice P.A22 P.l22.length P.c22, .slice P.A23 P.l23.length P.c23, .slice P.A24 P.l24.length P.c24] : Array Value) from rfl)) 15 (.string ⟨#[]⟩) (show _ = (#[.int .i64 P.a0, .bool P.a1, .bool P.a2, .int .i64 P.a3, .int .i64 P.a4, .string P.a5, .string P.a6, .bool false, .int .i64 0, .string ⟨#[]⟩, .bool false, .string ⟨#[]⟩, .bool false, .string ⟨#[]⟩, .bool false, .string ⟨#[]⟩, .string P.a16, .int .i64 P.a17, .bool P.a18, .slice P.A19 P.l19.length P.c19, .bool false, .int .i64 0, .slice P.A22 P.l22.length P.c22, .slice P.A23 P.l23.length P.c23, .slice P.A24 P.l24.length P.c24] : Array Value) from rfl)) 16 (.string ⟨#[]⟩) (show _ = (#[.int .i64 P.a0, .bool P.a1, .bool P.a2, .int .i64 P.a3, .int .i64 P.a4, .string P.a5, .string P.a6, .bool false, .int .i64 0, .string ⟨#[]⟩, .bool false, .string ⟨#[]⟩, .bool false, .string ⟨#[]⟩, .bool false, .string ⟨#[]⟩, .string ⟨#[]⟩, .int .i64 P.a17, .bool P.a18, .slice P.A19 P.l19.length P.c19, .bool false, .int .i64 0, .slice P.A22 P.l22.length P.c22, .slice P.A23 P.l23.length P.c23, .slice P.A24 P.l24.length P.c24] : Array Value) from rfl)) 17 (.int .i64 0) (show _ = (#[.int .i64 P.a0, .bool P.a1, .bool P.a2, .int .i64 P.a3, .int .i64 P.a4, .string P.a5, .string P.a6, .bool false, .int .i64 0, .string ⟨#[]⟩, .bool false, .string ⟨#[]⟩, .bool false, .string ⟨#[]⟩, .bool false, .string ⟨#[]⟩, .string ⟨#[]⟩, .int .i64 0, .bool P.a18, .slice P.A19 P.l19.length P.c19, .bool false, .int .i64 0, .slice P.A22 P.l22.length P.c22, .slice P.A23 P.l23.length P.c23, .slice P.A24 P.l24.length P.c24] : Array Value) from rfl)) 18 (.bool false) (show _ = (#[.int .i64 P.a0, .bool P.a1, .bool P.a2, .int .i64 P.a3, .int .i64 P.a4, .string P.a5, .string P.a6, .bool false, .int .i64 0, .string ⟨#[]⟩, .bool false, .string ⟨#[]⟩, .bool false, .string ⟨#[]⟩, .bool false, .string ⟨#[]⟩, .string ⟨#[]⟩, .int .i64 0, .bool false, .slice P.A19 P.l19.length P.c19, .bool false, .int .i64 0, .slice P.A22 P.l22.length P.c22, .slice P.A23 P.l23.length P.c23, .slice P.A24 P.l24.length P.c24] : Array Value) from rfl)) 19 (.slice none 0 0) (show _ = (#[.int .i64 P.a0, .bool P.a1, .bool P.a2, .int .i64 P.a3, .int .i64 P.a4, .string P.a5, .string P.a6, .bool false, .int .i64 0, .string ⟨#[]⟩, .bool false, .string ⟨#[]⟩, .bool false, .string ⟨#[]⟩, .bool false, .string ⟨#[]⟩, .string ⟨#[]⟩, .int .i64 0, .bool false, .slice none 0 0, .bool false, .int .i64 0, .slice P.A22 P.l22.length P.c22, .slice P.A23 P.l23.length P.c23, .slice P.A24 P.l24.length P.c24] : Array Value) from rfl)) 22 (.slice none 0 0) (show _ = (#[.int .i64 P.a0, .bool P.a1, .bool P.a2, .int .i64 P.a3, .int .i64 P.a4, .string P.a5, .string P.a6, .bool false, .int .i64 0, .string ⟨#[]⟩, .bool false, .string ⟨#[]⟩, .bool false, .string ⟨#[]⟩, .bool false, .string ⟨#[]⟩, .string ⟨#[]⟩, .int .i64 0, .bool false, .slice none 0 0, .bool false, .int .i64 0, .slice none 0 0, .slice P.A23 P.l23.length P.c23, .slice P.A24 P.l24.length P.c24] : Array Value) from rfl)) 23 (.slice none 0 0) (show _ = (#[.int .i64 P.a0, .bool P.a1, .bool P.a2, .int .i64 P.a3, .int .i64 P.a4, .string P.a5, .string P.a6, .bool false, .int .i64 0, .string ⟨#[]⟩, .bool false, .string ⟨#[]⟩, .bool false, .string ⟨#[]⟩, .bool false, .string ⟨#[]⟩, .string ⟨#[]⟩, .int .i64 0, .bool false, .slice none 0 0, .bool false, .int .i64 0, .slice none 0 0, .slice none 0 0, .slice P.A24 P.l24.length P.c24] : Array Value) from rfl))⟩
  have n2_ : Aside0 (w6.heap[gp]? = some (.cells #[.int .i64 P.a0, .bool P.a1, .bool P.a2, .int .i64 P.a3, .int .i64 P.a4, .string P.a5, .string P.a6, .bool P.a7, .int .i64 P.a8, .string P.a9, .bool P.a10, .string P.a11, .bool P.a12, .string P.a13, .bool P.a14, .string P.a15, .string P.a16, .int .i64 P.a17, .bool P.a18, .slice P.A19 P.l19.length P.c19, .bool P.a20, .int .i64 P.a21, .slice P.A22 P.l22.length P.c22, .slice P.A23 P.l23.length P.c23, .slice P.A24 P.l24.length P.c24] 48 (0, 0))) := ⟨by rw [hw6]; exact (blk_far (blk_far (blk_far (blk_far (blk_far (blk_far (blk_far (blk_far BKp.out (p := ⟨gq, 14, none⟩) NE.out (.bool false)) (p := ⟨gq, 15, none⟩) NE.out (.string ⟨#[]⟩)) (p := ⟨gq, 16, none⟩) NE.out (.string ⟨#[]⟩)) (p := ⟨gq, 17, none⟩) NE.out (.int .i64 0)) (p := ⟨gq, 18, none⟩) NE.out (.bool false)) (p := ⟨gq, 19, none⟩) NE.out (.slice none 0 0)) (p := ⟨gq, 22, none⟩) NE.out (.slice none 0 0)) (p := ⟨gq, 23, none⟩) NE.out (.slice none 0 0))⟩
  have n3_ : Aside0 (Below w.heap.size w w6) := ⟨by rw [hw6]; exact (below_set (below_set (below_set (below_set (below_set (below_set (below_set (below_set HB.out GQ.out) GQ.out) GQ.out) GQ.out) GQ.out) GQ.out) GQ.out) GQ.out)⟩
  clear hcz5_14 hfz5_14 hcz5_15 hfz5_15 hcz5_16 hfz5_16 hcz5_17 hfz5_17 hcz5_18 hfz5_18 hcz5_19 hfz5_19 hcz5_22 hfz5_22 hcz5_23 hfz5_23 hw6 BKq BKp HB
  have BKq := n1_
  have BKp := n2_
  have HB := n3_
  clear n1_ n2_ n3_
  have PC6 := Aside0.mk (HP.out.below HB.out)
  clear HP
  cases t with
  | false =>
    have hf : fieldsS v P.a3 P.a4 P.l24.length false = false := by simp [fieldsS, *]
    have HF := Aside0.mk hf
    clear hf
    (try clear hv);(try clear hl);(try clear hq);(try clear hi)
    go_wp2_with (first | ((with_reducible refine gate_packet rfl ?_); refine wpList_load_row rfl 48 _ rfl _ (by rfl) 48 _ _ _ (by first | with_reducible exact BKp.out | with_reducible exact BKq.out) Try.underlying48 rfl (by kernel_rfl) ?_) | (go_at_call 70; refine (head_Same.calls k P.a0 P.a1 P.a2 P.a3 P.a4 P.a5 P.a6 P.a7 P.a8 P.a9 P.a10 P.a11 P.a12 P.a13 P.a14 P.a15 P.a16 P.a17 P.a18 P.A19 P.c19 P.l19 P.a20 P.a21 P.A22 P.c22 P.l22 P.A23 P.c23 P.l23 P.A24 P.c24 P.l24 P.a0 P.a1 P.a2 P.a3 P.a4 P.a5 P.a6 false 0 ⟨#[]⟩ false ⟨#[]⟩ false ⟨#[]⟩ false ⟨#[]⟩ ⟨#[]⟩ 0 false none 0 ([] : List _) false 0 none 0 ([] : List _) none 0 ([] : List _) P.A24 P.c24 P.l24 false _ PC6.out.r19 PC6.out.m19 PC6.out.r22 PC6.out.m22 PC6.out.r23 PC6.out.m23 PC6.out.r24 PC6.out.m24 ⟨rfl, by decide, fun q => absurd q (by simp)⟩ (Nat.zero_le _) ⟨rfl, by decide, fun q => absurd q (by simp)⟩ (Nat.zero_le _) ⟨rfl, by decide, fun q => absurd q (by simp)⟩ (Nat.zero_le _) PC6.out.r24 PC6.out.m24 H.out).mono ?_; rintro e w7 ⟨rfl, hb⟩; have BK7 := blk_below BKp.out hb; have hc3 : w7.cell? ⟨gp, 3, none⟩ = some (.int .i64 P.a3) := (blk_cell BK7 3).trans rfl; have hc4 : w7.cell? ⟨gp, 4, none⟩ = some (.int .i64 P.a4) := (blk_cell BK7 4).trans rfl; have hc24 : w7.cell? ⟨gp, 24, none⟩ = some (.slice P.A24 P.l24.length P.c24) := (blk_cell BK7 24).trans rfl; have HB7 := Aside0.mk (below_step HB.out hb); clear hb BK7 BKp BKq HB))
    go_ret
    exact ⟨by rw [HF.out]; first | rfl | (simp; done) | (simp [*]; done), HB7.out⟩
  | true =>
    by_cases hv : v = 4
    · by_cases hl : 0 < P.l24.length
      · skip
        have tv : (v == 4) = true := by simpa using hv
        have tl : decide (0 < (P.l24.length : Int)) = true := by simpa using hl
        have tl2 : decide (0 < P.l24.length) = true := by simpa using hl
        have hf : fieldsS v P.a3 P.a4 P.l24.length true = false := by simp [fieldsS, *]
        have HF := Aside0.mk hf
        clear hf
        (try clear hv);(try clear hl);(try clear hq);(try clear hi)
        go_wp2_with (first | ((with_reducible refine gate_packet rfl ?_); refine wpList_load_row rfl 48 _ rfl _ (by rfl) 48 _ _ _ (by first | with_reducible exact BKp.out | with_reducible exact BKq.out) Try.underlying48 rfl (by kernel_rfl) ?_) | (go_at_call 70; refine (head_Same.calls k P.a0 P.a1 P.a2 P.a3 P.a4 P.a5 P.a6 P.a7 P.a8 P.a9 P.a10 P.a11 P.a12 P.a13 P.a14 P.a15 P.a16 P.a17 P.a18 P.A19 P.c19 P.l19 P.a20 P.a21 P.A22 P.c22 P.l22 P.A23 P.c23 P.l23 P.A24 P.c24 P.l24 P.a0 P.a1 P.a2 P.a3 P.a4 P.a5 P.a6 false 0 ⟨#[]⟩ false ⟨#[]⟩ false ⟨#[]⟩ false ⟨#[]⟩ ⟨#[]⟩ 0 false none 0 ([] : List _) false 0 none 0 ([] : List _) none 0 ([] : List _) P.A24 P.c24 P.l24 true _ PC6.out.r19 PC6.out.m19 PC6.out.r22 PC6.out.m22 PC6.out.r23 PC6.out.m23 PC6.out.r24 PC6.out.m24 ⟨rfl, by decide, fun q => absurd q (by simp)⟩ (Nat.zero_le _) ⟨rfl, by decide, fun q => absurd q (by simp)⟩ (Nat.zero_le _) ⟨rfl, by decide, fun q => absurd q (by simp)⟩ (Nat.zero_le _) PC6.out.r24 PC6.out.m24 H.out).mono ?_; rintro e w7 ⟨rfl, hb⟩; have BK7 := blk_below BKp.out hb; have hc3 : w7.cell? ⟨gp, 3, none⟩ = some (.int .i64 P.a3) := (blk_cell BK7 3).trans rfl; have hc4 : w7.cell? ⟨gp, 4, none⟩ = some (.int .i64 P.a4) := (blk_cell BK7 4).trans rfl; have hc24 : w7.cell? ⟨gp, 24, none⟩ = some (.slice P.A24 P.l24.length P.c24) := (blk_cell BK7 24).trans rfl; have HB7 := Aside0.mk (below_step HB.out hb); clear hb BK7 BKp BKq HB))
        go_ret
        exact ⟨by rw [HF.out]; first | rfl | (simp; done) | (simp [*]; done), HB7.out⟩
      · skip
        by_cases hq : P.a3 = 0
        · skip
          have tv : (v == 4) = true := by simpa using hv
          have tl : decide (0 < (P.l24.length : Int)) = false := by simpa using hl
          have tl2 : decide (0 < P.l24.length) = false := by simpa using hl
          have tq : (P.a3 == 0) = true := by simpa using hq
          have hf : fieldsS v P.a3 P.a4 P.l24.length true = (P.a4 == 0) := by simp [fieldsS, *]
          have HF := Aside0.mk hf
          clear hf
          (try clear hv);(try clear hl);(try clear hq);(try clear hi)
          go_wp2_with (first | ((with_reducible refine gate_packet rfl ?_); refine wpList_load_row rfl 48 _ rfl _ (by rfl) 48 _ _ _ (by first | with_reducible exact BKp.out | with_reducible exact BKq.out) Try.underlying48 rfl (by kernel_rfl) ?_) | (go_at_call 70; refine (head_Same.calls k P.a0 P.a1 P.a2 P.a3 P.a4 P.a5 P.a6 P.a7 P.a8 P.a9 P.a10 P.a11 P.a12 P.a13 P.a14 P.a15 P.a16 P.a17 P.a18 P.A19 P.c19 P.l19 P.a20 P.a21 P.A22 P.c22 P.l22 P.A23 P.c23 P.l23 P.A24 P.c24 P.l24 P.a0 P.a1 P.a2 P.a3 P.a4 P.a5 P.a6 false 0 ⟨#[]⟩ false ⟨#[]⟩ false ⟨#[]⟩ false ⟨#[]⟩ ⟨#[]⟩ 0 false none 0 ([] : List _) false 0 none 0 ([] : List _) none 0 ([] : List _) P.A24 P.c24 P.l24 true _ PC6.out.r19 PC6.out.m19 PC6.out.r22 PC6.out.m22 PC6.out.r23 PC6.out.m23 PC6.out.r24 PC6.out.m24 ⟨rfl, by decide, fun q => absurd q (by simp)⟩ (Nat.zero_le _) ⟨rfl, by decide, fun q => absurd q (by simp)⟩ (Nat.zero_le _) ⟨rfl, by decide, fun q => absurd q (by simp)⟩ (Nat.zero_le _) PC6.out.r24 PC6.out.m24 H.out).mono ?_; rintro e w7 ⟨rfl, hb⟩; have BK7 := blk_below BKp.out hb; have hc3 : w7.cell? ⟨gp, 3, none⟩ = some (.int .i64 P.a3) := (blk_cell BK7 3).trans rfl; have hc4 : w7.cell? ⟨gp, 4, none⟩ = some (.int .i64 P.a4) := (blk_cell BK7 4).trans rfl; have hc24 : w7.cell? ⟨gp, 24, none⟩ = some (.slice P.A24 P.l24.length P.c24) := (blk_cell BK7 24).trans rfl; have HB7 := Aside0.mk (below_step HB.out hb); clear hb BK7 BKp BKq HB))
          go_ret
          exact ⟨by rw [HF.out]; first | rfl | (simp; done) | (simp [*]; done), HB7.out⟩
        · by_cases hi : 0 < P.a4
          · skip
            have tv : (v == 4) = true := by simpa using hv
            have tl : decide (0 < (P.l24.length : Int)) = false := by simpa using hl
            have tl2 : decide (0 < P.l24.length) = false := by simpa using hl
            have tq : (P.a3 == 0) = false := by simpa using hq
            have ti : decide (0 < P.a4) = true := by simpa using hi
            have hf : fieldsS v P.a3 P.a4 P.l24.length true = decide (P.a4 < 65536) := by simp [fieldsS, *]
            have HF := Aside0.mk hf
            clear hf
            (try clear hv);(try clear hl);(try clear hq);(try clear hi)
            go_wp2_with (first | ((with_reducible refine gate_packet rfl ?_); refine wpList_load_row rfl 48 _ rfl _ (by rfl) 48 _ _ _ (by first | with_reducible exact BKp.out | with_reducible exact BKq.out) Try.underlying48 rfl (by kernel_rfl) ?_) | (go_at_call 70; refine (head_Same.calls k P.a0 P.a1 P.a2 P.a3 P.a4 P.a5 P.a6 P.a7 P.a8 P.a9 P.a10 P.a11 P.a12 P.a13 P.a14 P.a15 P.a16 P.a17 P.a18 P.A19 P.c19 P.l19 P.a20 P.a21 P.A22 P.c22 P.l22 P.A23 P.c23 P.l23 P.A24 P.c24 P.l24 P.a0 P.a1 P.a2 P.a3 P.a4 P.a5 P.a6 false 0 ⟨#[]⟩ false ⟨#[]⟩ false ⟨#[]⟩ false ⟨#[]⟩ ⟨#[]⟩ 0 false none 0 ([] : List _) false 0 none 0 ([] : List _) none 0 ([] : List _) P.A24 P.c24 P.l24 true _ PC6.out.r19 PC6.out.m19 PC6.out.r22 PC6.out.m22 PC6.out.r23 PC6.out.m23 PC6.out.r24 PC6.out.m24 ⟨rfl, by decide, fun q => absurd q (by simp)⟩ (Nat.zero_le _) ⟨rfl, by decide, fun q => absurd q (by simp)⟩ (Nat.zero_le _) ⟨rfl, by decide, fun q => absurd q (by simp)⟩ (Nat.zero_le _) PC6.out.r24 PC6.out.m24 H.out).mono ?_; rintro e w7 ⟨rfl, hb⟩; have BK7 := blk_below BKp.out hb; have hc3 : w7.cell? ⟨gp, 3, none⟩ = some (.int .i64 P.a3) := (blk_cell BK7 3).trans rfl; have hc4 : w7.cell? ⟨gp, 4, none⟩ = some (.int .i64 P.a4) := (blk_cell BK7 4).trans rfl; have hc24 : w7.cell? ⟨gp, 24, none⟩ = some (.slice P.A24 P.l24.length P.c24) := (blk_cell BK7 24).trans rfl; have HB7 := Aside0.mk (below_step HB.out hb); clear hb BK7 BKp BKq HB))
            go_ret
            exact ⟨by rw [HF.out]; first | rfl | (simp; done) | (simp [*]; done), HB7.out⟩
          · skip
            have tv : (v == 4) = true := by simpa using hv
            have tl : decide (0 < (P.l24.length : Int)) = false := by simpa using hl
            have tl2 : decide (0 < P.l24.length) = false := by simpa using hl
            have tq : (P.a3 == 0) = false := by simpa using hq
            have ti : decide (0 < P.a4) = false := by simpa using hi
            have hf : fieldsS v P.a3 P.a4 P.l24.length true = false := by simp [fieldsS, *]
            have HF := Aside0.mk hf
            clear hf
            (try clear hv);(try clear hl);(try clear hq);(try clear hi)
            go_wp2_with (first | ((with_reducible refine gate_packet rfl ?_); refine wpList_load_row rfl 48 _ rfl _ (by rfl) 48 _ _ _ (by first | with_reducible exact BKp.out | with_reducible exact BKq.out) Try.underlying48 rfl (by kernel_rfl) ?_) | (go_at_call 70; refine (head_Same.calls k P.a0 P.a1 P.a2 P.a3 P.a4 P.a5 P.a6 P.a7 P.a8 P.a9 P.a10 P.a11 P.a12 P.a13 P.a14 P.a15 P.a16 P.a17 P.a18 P.A19 P.c19 P.l19 P.a20 P.a21 P.A22 P.c22 P.l22 P.A23 P.c23 P.l23 P.A24 P.c24 P.l24 P.a0 P.a1 P.a2 P.a3 P.a4 P.a5 P.a6 false 0 ⟨#[]⟩ false ⟨#[]⟩ false ⟨#[]⟩ false ⟨#[]⟩ ⟨#[]⟩ 0 false none 0 ([] : List _) false 0 none 0 ([] : List _) none 0 ([] : List _) P.A24 P.c24 P.l24 true _ PC6.out.r19 PC6.out.m19 PC6.out.r22 PC6.out.m22 PC6.out.r23 PC6.out.m23 PC6.out.r24 PC6.out.m24 ⟨rfl, by decide, fun q => absurd q (by simp)⟩ (Nat.zero_le _) ⟨rfl, by decide, fun q => absurd q (by simp)⟩ (Nat.zero_le _) ⟨rfl, by decide, fun q => absurd q (by simp)⟩ (Nat.zero_le _) PC6.out.r24 PC6.out.m24 H.out).mono ?_; rintro e w7 ⟨rfl, hb⟩; have BK7 := blk_below BKp.out hb; have hc3 : w7.cell? ⟨gp, 3, none⟩ = some (.int .i64 P.a3) := (blk_cell BK7 3).trans rfl; have hc4 : w7.cell? ⟨gp, 4, none⟩ = some (.int .i64 P.a4) := (blk_cell BK7 4).trans rfl; have hc24 : w7.cell? ⟨gp, 24, none⟩ = some (.slice P.A24 P.l24.length P.c24) := (blk_cell BK7 24).trans rfl; have HB7 := Aside0.mk (below_step HB.out hb); clear hb BK7 BKp BKq HB))
            go_ret
            exact ⟨by rw [HF.out]; first | rfl | (simp; done) | (simp [*]; done), HB7.out⟩
    · skip
      by_cases hq : P.a3 = 0
      · skip
        have tv : (v == 4) = false := by simpa using hv
        have tq : (P.a3 == 0) = true := by simpa using hq
        have hf : fieldsS v P.a3 P.a4 P.l24.length true = (P.a4 == 0) := by simp [fieldsS, *]
        have HF := Aside0.mk hf
        clear hf
        (try clear hv);(try clear hl);(try clear hq);(try clear hi)
        go_wp2_with (first | ((with_reducible refine gate_packet rfl ?_); refine wpList_load_row rfl 48 _ rfl _ (by rfl) 48 _ _ _ (by first | with_reducible exact BKp.out | with_reducible exact BKq.out) Try.underlying48 rfl (by kernel_rfl) ?_) | (go_at_call 70; refine (head_Same.calls k P.a0 P.a1 P.a2 P.a3 P.a4 P.a5 P.a6 P.a7 P.a8 P.a9 P.a10 P.a11 P.a12 P.a13 P.a14 P.a15 P.a16 P.a17 P.a18 P.A19 P.c19 P.l19 P.a20 P.a21 P.A22 P.c22 P.l22 P.A23 P.c23 P.l23 P.A24 P.c24 P.l24 P.a0 P.a1 P.a2 P.a3 P.a4 P.a5 P.a6 false 0 ⟨#[]⟩ false ⟨#[]⟩ false ⟨#[]⟩ false ⟨#[]⟩ ⟨#[]⟩ 0 false none 0 ([] : List _) false 0 none 0 ([] : List _) none 0 ([] : List _) P.A24 P.c24 P.l24 true _ PC6.out.r19 PC6.out.m19 PC6.out.r22 PC6.out.m22 PC6.out.r23 PC6.out.m23 PC6.out.r24 PC6.out.m24 ⟨rfl, by decide, fun q => absurd q (by simp)⟩ (Nat.zero_le _) ⟨rfl, by decide, fun q => absurd q (by simp)⟩ (Nat.zero_le _) ⟨rfl, by decide, fun q => absurd q (by simp)⟩ (Nat.zero_le _) PC6.out.r24 PC6.out.m24 H.out).mono ?_; rintro e w7 ⟨rfl, hb⟩; have BK7 := blk_below BKp.out hb; have hc3 : w7.cell? ⟨gp, 3, none⟩ = some (.int .i64 P.a3) := (blk_cell BK7 3).trans rfl; have hc4 : w7.cell? ⟨gp, 4, none⟩ = some (.int .i64 P.a4) := (blk_cell BK7 4).trans rfl; have hc24 : w7.cell? ⟨gp, 24, none⟩ = some (.slice P.A24 P.l24.length P.c24) := (blk_cell BK7 24).trans rfl; have HB7 := Aside0.mk (below_step HB.out hb); clear hb BK7 BKp BKq HB))
        go_ret
        exact ⟨by rw [HF.out]; first | rfl | (simp; done) | (simp [*]; done), HB7.out⟩
      · by_cases hi : 0 < P.a4
        · skip
          have tv : (v == 4) = false := by simpa using hv
          have tq : (P.a3 == 0) = false := by simpa using hq
          have ti : decide (0 < P.a4) = true := by simpa using hi
          have hf : fieldsS v P.a3 P.a4 P.l24.length true = decide (P.a4 < 65536) := by simp [fieldsS, *]
          have HF := Aside0.mk hf
          clear hf
          (try clear hv);(try clear hl);(try clear hq);(try clear hi)
          go_wp2_with (first | ((with_reducible refine gate_packet rfl ?_); refine wpList_load_row rfl 48 _ rfl _ (by rfl) 48 _ _ _ (by first | with_reducible exact BKp.out | with_reducible exact BKq.out) Try.underlying48 rfl (by kernel_rfl) ?_) | (go_at_call 70; refine (head_Same.calls k P.a0 P.a1 P.a2 P.a3 P.a4 P.a5 P.a6 P.a7 P.a8 P.a9 P.a10 P.a11 P.a12 P.a13 P.a14 P.a15 P.a16 P.a17 P.a18 P.A19 P.c19 P.l19 P.a20 P.a21 P.A22 P.c22 P.l22 P.A23 P.c23 P.l23 P.A24 P.c24 P.l24 P.a0 P.a1 P.a2 P.a3 P.a4 P.a5 P.a6 false 0 ⟨#[]⟩ false ⟨#[]⟩ false ⟨#[]⟩ false ⟨#[]⟩ ⟨#[]⟩ 0 false none 0 ([] : List _) false 0 none 0 ([] : List _) none 0 ([] : List _) P.A24 P.c24 P.l24 true _ PC6.out.r19 PC6.out.m19 PC6.out.r22 PC6.out.m22 PC6.out.r23 PC6.out.m23 PC6.out.r24 PC6.out.m24 ⟨rfl, by decide, fun q => absurd q (by simp)⟩ (Nat.zero_le _) ⟨rfl, by decide, fun q => absurd q (by simp)⟩ (Nat.zero_le _) ⟨rfl, by decide, fun q => absurd q (by simp)⟩ (Nat.zero_le _) PC6.out.r24 PC6.out.m24 H.out).mono ?_; rintro e w7 ⟨rfl, hb⟩; have BK7 := blk_below BKp.out hb; have hc3 : w7.cell? ⟨gp, 3, none⟩ = some (.int .i64 P.a3) := (blk_cell BK7 3).trans rfl; have hc4 : w7.cell? ⟨gp, 4, none⟩ = some (.int .i64 P.a4) := (blk_cell BK7 4).trans rfl; have hc24 : w7.cell? ⟨gp, 24, none⟩ = some (.slice P.A24 P.l24.length P.c24) := (blk_cell BK7 24).trans rfl; have HB7 := Aside0.mk (below_step HB.out hb); clear hb BK7 BKp BKq HB))
          go_ret
          exact ⟨by rw [HF.out]; first | rfl | (simp; done) | (simp [*]; done), HB7.out⟩
        · skip
          have tv : (v == 4) = false := by simpa using hv
          have tq : (P.a3 == 0) = false := by simpa using hq
          have ti : decide (0 < P.a4) = false := by simpa using hi
          have hf : fieldsS v P.a3 P.a4 P.l24.length true = false := by simp [fieldsS, *]
          have HF := Aside0.mk hf
          clear hf
          (try clear hv);(try clear hl);(try clear hq);(try clear hi)
          go_wp2_with (first | ((with_reducible refine gate_packet rfl ?_); refine wpList_load_row rfl 48 _ rfl _ (by rfl) 48 _ _ _ (by first | with_reducible exact BKp.out | with_reducible exact BKq.out) Try.underlying48 rfl (by kernel_rfl) ?_) | (go_at_call 70; refine (head_Same.calls k P.a0 P.a1 P.a2 P.a3 P.a4 P.a5 P.a6 P.a7 P.a8 P.a9 P.a10 P.a11 P.a12 P.a13 P.a14 P.a15 P.a16 P.a17 P.a18 P.A19 P.c19 P.l19 P.a20 P.a21 P.A22 P.c22 P.l22 P.A23 P.c23 P.l23 P.A24 P.c24 P.l24 P.a0 P.a1 P.a2 P.a3 P.a4 P.a5 P.a6 false 0 ⟨#[]⟩ false ⟨#[]⟩ false ⟨#[]⟩ false ⟨#[]⟩ ⟨#[]⟩ 0 false none 0 ([] : List _) false 0 none 0 ([] : List _) none 0 ([] : List _) P.A24 P.c24 P.l24 true _ PC6.out.r19 PC6.out.m19 PC6.out.r22 PC6.out.m22 PC6.out.r23 PC6.out.m23 PC6.out.r24 PC6.out.m24 ⟨rfl, by decide, fun q => absurd q (by simp)⟩ (Nat.zero_le _) ⟨rfl, by decide, fun q => absurd q (by simp)⟩ (Nat.zero_le _) ⟨rfl, by decide, fun q => absurd q (by simp)⟩ (Nat.zero_le _) PC6.out.r24 PC6.out.m24 H.out).mono ?_; rintro e w7 ⟨rfl, hb⟩; have BK7 := blk_below BKp.out hb; have hc3 : w7.cell? ⟨gp, 3, none⟩ = some (.int .i64 P.a3) := (blk_cell BK7 3).trans rfl; have hc4 : w7.cell? ⟨gp, 4, none⟩ = some (.int .i64 P.a4) := (blk_cell BK7 4).trans rfl; have hc24 : w7.cell? ⟨gp, 24, none⟩ = some (.slice P.A24 P.l24.length P.c24) := (blk_cell BK7 24).trans rfl; have HB7 := Aside0.mk (below_step HB.out hb); clear hb BK7 BKp BKq HB))
          go_ret
          exact ⟨by rw [HF.out]; first | rfl | (simp; done) | (simp [*]; done), HB7.out⟩
theorem publish_fields.calls (k : Nat) (a0 : Int) (a1_0 : Int) (a1_1 : Bool) (a1_2 : Bool) (a1_3 : Int) (a1_4 : Int) (a1_5 : ByteArray) (a1_6 : ByteArray) (a1_7 : Bool) (a1_8 : Int) (a1_9 : ByteArray) (a1_10 : Bool) (a1_11 : ByteArray) (a1_12 : Bool) (a1_13 : ByteArray) (a1_14 : Bool) (a1_15 : ByteArray) (a1_16 : ByteArray) (a1_17 : Int) (a1_18 : Bool) (A1_19 : Option Addr) (c1_19 : Nat) (l1_19 : List S27) (a1_20 : Bool) (a1_21 : Int) (A1_22 : Option Addr) (c1_22 : Nat) (l1_22 : List Int) (A1_23 : Option Addr) (c1_23 : Nat) (l1_23 : List S119) (A1_24 : Option Addr) (c1_24 : Nat) (l1_24 : List S27) (r : Bool) (w : World) (hr1_19 : Kd.C k27 w A1_19 l1_19.length l1_19) (hc1_19 : l1_19.length ≤ c1_19) (hr1_22 : Kd.C (Kd.int .i64) w A1_22 l1_22.length l1_22) (hc1_22 : l1_22.length ≤ c1_22) (hr1_23 : Kd.C k119 w A1_23 l1_23.length l1_23) (hc1_23 : l1_23.length ≤ c1_23) (hr1_24 : Kd.C k27 w A1_24 l1_24.length l1_24) (hc1_24 : l1_24.length ≤ c1_24) (h : publish_fields.f k a0 a1_0 a1_1 a1_2 a1_3 a1_4 a1_5 a1_6 a1_7 a1_8 a1_9 a1_10 a1_11 a1_12 a1_13 a1_14 a1_15 a1_16 a1_17 a1_18 l1_19 a1_20 a1_21 l1_22 l1_23 l1_24 = some r) :
    Calls Try.prog 51 #[.int .i64 a0, .agg #[.int .i64 a1_0, .bool a1_1, .bool a1_2, .int .i64 a1_3, .int .i64 a1_4, .string a1_5, .string a1_6, .bool a1_7, .int .i64 a1_8, .string a1_9, .bool a1_10, .string a1_11, .bool a1_12, .string a1_13, .bool a1_14, .string a1_15, .string a1_16, .int .i64 a1_17, .bool a1_18, .slice A1_19 l1_19.length c1_19, .bool a1_20, .int .i64 a1_21, .slice A1_22 l1_22.length c1_22, .slice A1_23 l1_23.length c1_23, .slice A1_24 l1_24.length c1_24]] w fun e w' => e = .returned (.bool r) ∧ Below w.heap.size w w' := by
  obtain ⟨t, ht, h⟩ := Option.bind_eq_some_iff.mp h
  obtain rfl := Option.some.inj h
  exact fields9 k a0 ⟨a1_0, a1_1, a1_2, a1_3, a1_4, a1_5, a1_6, a1_7, a1_8, a1_9, a1_10, a1_11, a1_12, a1_13, a1_14, a1_15, a1_16, a1_17, a1_18, l1_19, a1_20, a1_21, l1_22, l1_23, l1_24, A1_19, A1_22, A1_23, A1_24, c1_19, c1_22, c1_23, c1_24⟩ t w ⟨hr1_19, hr1_22, hr1_23, hr1_24, hc1_19, hc1_22, hc1_23, hc1_24⟩ ht
end Go.Proofs.Ytngmipfobcaojaa.HA
end

-- YtngmipfobcaojaaHA57
section
namespace Go.Proofs.Ytngmipfobcaojaa.HA
open Go.RowKit Go.Proofs.YtngmipfobcaojaaW.PrintWords Go.Proofs.YtngmipfobcaojaaW.PrintLast Go.Proofs.YtngmipfobcaojaaW.PrintMore
attribute [local go_sem] max2_int min2_int max_two min_two max_three min_three max_four min_four

theorem publish_named.gl {P : Program} {ops : Array Oper} {rest : List Oper} {o : Oper} {a : Act} {Q : Exit → Act → World → Prop} {W : World} {x : Operand} (_ho : o.op = .load 48 x) (h : wpList P ops Q (o :: rest) a W) : wpList P ops Q (o :: rest) a W := h
def publish_named.f (k : Nat) (a0 : Int) (a1_0 : Int) (a1_1 : Bool) (a1_2 : Bool) (a1_3 : Int) (a1_4 : Int) (a1_5 : ByteArray) (a1_6 : ByteArray) (a1_7 : Bool) (a1_8 : Int) (a1_9 : ByteArray) (a1_10 : Bool) (a1_11 : ByteArray) (a1_12 : Bool) (a1_13 : ByteArray) (a1_14 : Bool) (a1_15 : ByteArray) (a1_16 : ByteArray) (a1_17 : Int) (a1_18 : Bool) (l1_19 : List (S27)) (a1_20 : Bool) (a1_21 : Int) (l1_22 : List Int) (l1_23 : List (S119)) (l1_24 : List (S27)) : Option (Bool) := (publish_Alias.f k a1_0 a1_1 a1_2 a1_3 a1_4 a1_5 a1_6 a1_7 a1_8 a1_9 a1_10 a1_11 a1_12 a1_13 a1_14 a1_15 a1_16 a1_17 a1_18 l1_19 a1_20 a1_21 l1_22 l1_23 l1_24).bind fun bt219 => ((topic_Name.f a1_5).bind fun t221 => (if t221 = true then (some true) else (if a0 = 5 then (if bt219.2 = true then (some (a1_5.toList == ([] : List UInt8))) else (some false)) else (some false))))
set_option maxHeartbeats 8000000 in
set_option maxRecDepth 100000 in
theorem publish_named.calls (k : Nat) (a0 : Int) (a1_0 : Int) (a1_1 : Bool) (a1_2 : Bool) (a1_3 : Int) (a1_4 : Int) (a1_5 : ByteArray) (a1_6 : ByteArray) (a1_7 : Bool) (a1_8 : Int) (a1_9 : ByteArray) (a1_10 : Bool) (a1_11 : ByteArray) (a1_12 : Bool) (a1_13 : ByteArray) (a1_14 : Bool) (a1_15 : ByteArray) (a1_16 : ByteArray) (a1_17 : Int) (a1_18 : Bool) (A1_19 : Option Addr) (c1_19 : Nat) (l1_19 : List (S27)) (a1_20 : Bool) (a1_21 : Int) (A1_22 : Option Addr) (c1_22 : Nat) (l1_22 : List Int) (A1_23 : Option Addr) (c1_23 : Nat) (l1_23 : List (S119)) (A1_24 : Option Addr) (c1_24 : Nat) (l1_24 : List (S27)) (r : Bool) (w : World) (hr1_19 : Kd.C k27 w A1_19 l1_19.length l1_19) (hc1_19 : l1_19.length ≤ c1_19) (hr1_22 : Kd.C (Kd.int .i64) w A1_22 l1_22.length l1_22) (hc1_22 : l1_22.length ≤ c1_22) (hr1_23 : Kd.C k119 w A1_23 l1_23.length l1_23) (hc1_23 : l1_23.length ≤ c1_23) (hr1_24 : Kd.C k27 w A1_24 l1_24.length l1_24) (hc1_24 : l1_24.length ≤ c1_24) (h : publish_named.f k a0 a1_0 a1_1 a1_2 a1_3 a1_4 a1_5 a1_6 a1_7 a1_8 a1_9 a1_10 a1_11 a1_12 a1_13 a1_14 a1_15 a1_16 a1_17 a1_18 l1_19 a1_20 a1_21 l1_22 l1_23 l1_24 = some r) :
    Calls Try.prog 53 #[.int .i64 a0, .agg #[.int .i64 a1_0, .bool a1_1, .bool a1_2, .int .i64 a1_3, .int .i64 a1_4, .string a1_5, .string a1_6, .bool a1_7, .int .i64 a1_8, .string a1_9, .bool a1_10, .string a1_11, .bool a1_12, .string a1_13, .bool a1_14, .string a1_15, .string a1_16, .int .i64 a1_17, .bool a1_18, .slice A1_19 l1_19.length c1_19, .bool a1_20, .int .i64 a1_21, .slice A1_22 l1_22.length c1_22, .slice A1_23 l1_23.length c1_23, .slice A1_24 l1_24.length c1_24]] w fun e w' => e = .returned (.bool r) ∧ Below w.heap.size w w' := by
  have hu48 := Try.underlying48
  have HR1_19 := Aside0.mk hr1_19
  have HC1_19 := Aside0.mk hc1_19
  clear hr1_19 hc1_19
  have HR1_22 := Aside0.mk hr1_22
  have HC1_22 := Aside0.mk hc1_22
  clear hr1_22 hc1_22
  have HR1_23 := Aside0.mk hr1_23
  have HC1_23 := Aside0.mk hc1_23
  clear hr1_23 hc1_23
  have HR1_24 := Aside0.mk hr1_24
  have HC1_24 := Aside0.mk hc1_24
  clear hr1_24 hc1_24
  have HB := Aside0.mk (Below.refl w.heap.size w)
  have H : ((publish_Alias.f k a1_0 a1_1 a1_2 a1_3 a1_4 a1_5 a1_6 a1_7 a1_8 a1_9 a1_10 a1_11 a1_12 a1_13 a1_14 a1_15 a1_16 a1_17 a1_18 l1_19 a1_20 a1_21 l1_22 l1_23 l1_24).bind fun bt219 => ((topic_Name.f a1_5).bind fun t221 => (if t221 = true then (some true) else (if a0 = 5 then (if bt219.2 = true then (some (a1_5.toList == ([] : List UInt8))) else (some false)) else (some false))))) = some r := h
  clear h
  replace H := Option.bind_eq_some_iff.mp H
  obtain ⟨⟨t219, t220⟩, A30, H⟩ := H
  replace H : ((topic_Name.f a1_5).bind fun t221 => (if t221 = true then (some true) else (if a0 = 5 then (if t220 = true then (some (a1_5.toList == ([] : List UInt8))) else (some false)) else (some false)))) = some r := H
  have A3 := Aside0.mk A30
  clear A30
  replace H := Option.bind_eq_some_iff.mp H
  obtain ⟨t221, A40, H⟩ := H
  replace H : (if t221 = true then (some true) else (if a0 = 5 then (if t220 = true then (some (a1_5.toList == ([] : List UInt8))) else (some false)) else (some false))) = some r := H
  have A4 := Aside0.mk A40
  clear A40
  by_cases c5 : t221 = true
  · subst c5
    have H1 : (some true) = some r := by rw [if_pos rfl] at H; exact H
    clear H
    have H := H1
    clear H1
    obtain rfl := Option.some.inj H
    go_enter Try.func53, Try.ntmps53
    go_wp2_with (first | ((with_reducible refine publish_named.gl rfl ?_); (try (refine gate_guard (by first | rfl | (simp [*]; done) | fail) ?_; dsimp only)); refine wpList_load_row rfl 48 _ rfl _ (by rfl) 48 _ _ _ (by first | exact Aside0.out (by with_reducible assumption) | ((with_reducible repeat (first | refine blk_drewN ?_ _ | refine blk_drew ?_ | refine blk_alloc ?_ _)); exact Aside0.out (by with_reducible assumption)) | (refine blk_put (Aside0.out (by with_reducible assumption)) 24 _ ?_; simp only [List.setIfInBounds_toArray, List.set_cons_zero, List.set_cons_succ]; rfl) | (apply blk_put (i := 24); (case h => exact Aside0.out (by with_reducible assumption)); (case e => (simp only [List.setIfInBounds_toArray, List.set_cons_zero, List.set_cons_succ]; rfl)))) Try.underlying48 rfl (by kernel_rfl) ?_) | ((with_reducible refine gate_dst (N := 3) rfl ?_); refine box_event ?hg (N := 3) ?hd (cs := #[.int .i64 a1_0, .bool a1_1, .bool a1_2, .int .i64 a1_3, .int .i64 a1_4, .string a1_5, .string a1_6, .bool a1_7, .int .i64 a1_8, .string a1_9, .bool a1_10, .string a1_11, .bool a1_12, .string a1_13, .bool a1_14, .string a1_15, .string a1_16, .int .i64 a1_17, .bool a1_18, .slice A1_19 l1_19.length c1_19, .bool a1_20, .int .i64 a1_21, .slice A1_22 l1_22.length c1_22, .slice A1_23 l1_23.length c1_23, .slice A1_24 l1_24.length c1_24]) (t := 48) ?hr ?_; (case hd => rfl); (case hg => rfl); (case hr => first | (go_simp; done) | (go_simp; rfl)); intro gb218 hg w6 hbox hb; have n0_ := Aside0.mk (below_step (by repeat (first | (with_reducible first | exact HB.out | apply below_alloc | apply pw_below_drewN | apply below_drew1) | exact HB.out)) hb); have n1_ := Aside0.mk (hbox); have n2_ := Aside0.mk ((by rw [hg]; exact (below_size (by repeat (first | (with_reducible first | exact HB.out | apply below_alloc | apply pw_below_drewN | apply below_drew1) | exact HB.out))) : w.heap.size ≤ gb218)); have n3_ := Aside0.mk ((by rw [hg]; exact (below_size (by repeat (first | (with_reducible first | exact HB.out | apply below_alloc | apply pw_below_drewN | apply below_drew1) | exact HB.out))) : w.heap.size ≤ gb218)); clear HB; have HB := n0_; have BK218 := n1_; have GW218 := n2_; have GE218 := n3_; clear n0_ n1_ n2_ n3_; clear hb hbox hg; have hcz7_0 : w6.cell? ⟨gb218, 0, none⟩ = some (.int .i64 a1_0) := (blk_cell BK218.out 0).trans rfl; have hcz7_1 : w6.cell? ⟨gb218, 1, none⟩ = some (.bool a1_1) := (blk_cell BK218.out 1).trans rfl; have hcz7_2 : w6.cell? ⟨gb218, 2, none⟩ = some (.bool a1_2) := (blk_cell BK218.out 2).trans rfl; have hcz7_3 : w6.cell? ⟨gb218, 3, none⟩ = some (.int .i64 a1_3) := (blk_cell BK218.out 3).trans rfl; have hcz7_4 : w6.cell? ⟨gb218, 4, none⟩ = some (.int .i64 a1_4) := (blk_cell BK218.out 4).trans rfl; have hcz7_5 : w6.cell? ⟨gb218, 5, none⟩ = some (.string a1_5) := (blk_cell BK218.out 5).trans rfl; have hcz7_6 : w6.cell? ⟨gb218, 6, none⟩ = some (.string a1_6) := (blk_cell BK218.out 6).trans rfl; have hcz7_7 : w6.cell? ⟨gb218, 7, none⟩ = some (.bool a1_7) := (blk_cell BK218.out 7).trans rfl; have hcz7_8 : w6.cell? ⟨gb218, 8, none⟩ = some (.int .i64 a1_8) := (blk_cell BK218.out 8).trans rfl; have hcz7_9 : w6.cell? ⟨gb218, 9, none⟩ = some (.string a1_9) := (blk_cell BK218.out 9).trans rfl; have hcz7_10 : w6.cell? ⟨gb218, 10, none⟩ = some (.bool a1_10) := (blk_cell BK218.out 10).trans rfl; have hcz7_11 : w6.cell? ⟨gb218, 11, none⟩ = some (.string a1_11) := (blk_cell BK218.out 11).trans rfl; have hcz7_12 : w6.cell? ⟨gb218, 12, none⟩ = some (.bool a1_12) := (blk_cell BK218.out 12).trans rfl; have hcz7_13 : w6.cell? ⟨gb218, 13, none⟩ = some (.string a1_13) := (blk_cell BK218.out 13).trans rfl; have hcz7_14 : w6.cell? ⟨gb218, 14, none⟩ = some (.bool a1_14) := (blk_cell BK218.out 14).trans rfl; have hcz7_15 : w6.cell? ⟨gb218, 15, none⟩ = some (.string a1_15) := (blk_cell BK218.out 15).trans rfl; have hcz7_16 : w6.cell? ⟨gb218, 16, none⟩ = some (.string a1_16) := (blk_cell BK218.out 16).trans rfl; have hcz7_17 : w6.cell? ⟨gb218, 17, none⟩ = some (.int .i64 a1_17) := (blk_cell BK218.out 17).trans rfl; have hcz7_18 : w6.cell? ⟨gb218, 18, none⟩ = some (.bool a1_18) := (blk_cell BK218.out 18).trans rfl; have hcz7_19 : w6.cell? ⟨gb218, 19, none⟩ = some (.slice A1_19 l1_19.length c1_19) := (blk_cell BK218.out 19).trans rfl; have hcz7_20 : w6.cell? ⟨gb218, 20, none⟩ = some (.bool a1_20) := (blk_cell BK218.out 20).trans rfl; have hcz7_21 : w6.cell? ⟨gb218, 21, none⟩ = some (.int .i64 a1_21) := (blk_cell BK218.out 21).trans rfl; have hcz7_22 : w6.cell? ⟨gb218, 22, none⟩ = some (.slice A1_22 l1_22.length c1_22) := (blk_cell BK218.out 22).trans rfl; have hcz7_23 : w6.cell? ⟨gb218, 23, none⟩ = some (.slice A1_23 l1_23.length c1_23) := (blk_cell BK218.out 23).trans rfl; have hcz7_24 : w6.cell? ⟨gb218, 24, none⟩ = some (.slice A1_24 l1_24.length c1_24) := (blk_cell BK218.out 24).trans rfl; have hfz7_0 := blk_frozen BK218.out 0; have hfz7_1 := blk_frozen BK218.out 1; have hfz7_2 := blk_frozen BK218.out 2; have hfz7_3 := blk_frozen BK218.out 3; have hfz7_4 := blk_frozen BK218.out 4; have hfz7_5 := blk_frozen BK218.out 5; have hfz7_6 := blk_frozen BK218.out 6; have hfz7_7 := blk_frozen BK218.out 7; have hfz7_8 := blk_frozen BK218.out 8; have hfz7_9 := blk_frozen BK218.out 9; have hfz7_10 := blk_frozen BK218.out 10; have hfz7_11 := blk_frozen BK218.out 11; have hfz7_12 := blk_frozen BK218.out 12; have hfz7_13 := blk_frozen BK218.out 13; have hfz7_14 := blk_frozen BK218.out 14; have hfz7_15 := blk_frozen BK218.out 15; have hfz7_16 := blk_frozen BK218.out 16; have hfz7_17 := blk_frozen BK218.out 17; have hfz7_18 := blk_frozen BK218.out 18; have hfz7_19 := blk_frozen BK218.out 19; have hfz7_20 := blk_frozen BK218.out 20; have hfz7_21 := blk_frozen BK218.out 21; have hfz7_22 := blk_frozen BK218.out 22; have hfz7_23 := blk_frozen BK218.out 23; have hfz7_24 := blk_frozen BK218.out 24) | ((with_reducible refine gate_callee (f := 25) rfl ?_); refine goesL_ (some 9) rfl rfl Try.func25 (by kernel_rfl) rfl #[.agg #[.int .i64 a1_0, .bool a1_1, .bool a1_2, .int .i64 a1_3, .int .i64 a1_4, .string a1_5, .string a1_6, .bool a1_7, .int .i64 a1_8, .string a1_9, .bool a1_10, .string a1_11, .bool a1_12, .string a1_13, .bool a1_14, .string a1_15, .string a1_16, .int .i64 a1_17, .bool a1_18, .slice A1_19 l1_19.length c1_19, .bool a1_20, .int .i64 a1_21, .slice A1_22 l1_22.length c1_22, .slice A1_23 l1_23.length c1_23, .slice A1_24 l1_24.length c1_24]] rfl (by (try simp only [List.map_toArray, List.map_cons, List.map_nil]); first | done | rfl | (simp only [List.length_drop, List.length_take]; rfl)) ?_; (with_reducible refine (publish_Alias.calls k a1_0 a1_1 a1_2 a1_3 a1_4 a1_5 a1_6 a1_7 a1_8 a1_9 a1_10 a1_11 a1_12 a1_13 a1_14 a1_15 a1_16 a1_17 a1_18 _ _ l1_19 a1_20 a1_21 _ _ l1_22 _ _ l1_23 _ _ l1_24 t219 t220 _ ?side1 ?side2 ?side3 ?side4 ?side5 ?side6 ?side7 ?side8 A3.out).mono ?_); (case side1 => repeat (first | exact (Kd.C_below HR1_19.out HB.out) | (with_reducible refine Kd.C_alloc ?_ _) | (with_reducible refine Kd.C_drewN ?_ _) | (with_reducible refine Kd.C_drew ?_))); (case side2 => exact HC1_19.out); (case side3 => repeat (first | exact (Kd.C_below HR1_22.out HB.out) | (with_reducible refine Kd.C_alloc ?_ _) | (with_reducible refine Kd.C_drewN ?_ _) | (with_reducible refine Kd.C_drew ?_))); (case side4 => exact HC1_22.out); (case side5 => repeat (first | exact (Kd.C_below HR1_23.out HB.out) | (with_reducible refine Kd.C_alloc ?_ _) | (with_reducible refine Kd.C_drewN ?_ _) | (with_reducible refine Kd.C_drew ?_))); (case side6 => exact HC1_23.out); (case side7 => repeat (first | exact (Kd.C_below HR1_24.out HB.out) | (with_reducible refine Kd.C_alloc ?_ _) | (with_reducible refine Kd.C_drewN ?_ _) | (with_reducible refine Kd.C_drew ?_))); (case side8 => exact HC1_24.out); rintro e w8 ⟨rfl, hb⟩; refine ⟨_, rfl, ?_⟩; have n0_ := Aside0.mk (blk_below (g := gb218) (o := .cells #[.int .i64 a1_0, .bool a1_1, .bool a1_2, .int .i64 a1_3, .int .i64 a1_4, .string a1_5, .string a1_6, .bool a1_7, .int .i64 a1_8, .string a1_9, .bool a1_10, .string a1_11, .bool a1_12, .string a1_13, .bool a1_14, .string a1_15, .string a1_16, .int .i64 a1_17, .bool a1_18, .slice A1_19 l1_19.length c1_19, .bool a1_20, .int .i64 a1_21, .slice A1_22 l1_22.length c1_22, .slice A1_23 l1_23.length c1_23, .slice A1_24 l1_24.length c1_24] 48 (0, 0)) (by (with_reducible repeat (first | refine blk_drewN ?_ _ | refine blk_drew ?_ | refine blk_alloc ?_ _)); exact BK218.out) hb); have n1_ := Aside0.mk (below_step (by repeat (first | (with_reducible first | exact HB.out | apply below_alloc | apply pw_below_drewN | apply below_drew1 | refine below_set ?_ GE218.out) | exact HB.out)) hb); clear BK218; clear HB; have BK218 := n0_; have HB := n1_; clear n0_ n1_; (try clear hb); (try clear hb2); (try clear hk); (try clear hi); have hcz9_0 : w8.cell? ⟨gb218, 0, none⟩ = some (.int .i64 a1_0) := (blk_cell BK218.out 0).trans rfl; have hcz9_1 : w8.cell? ⟨gb218, 1, none⟩ = some (.bool a1_1) := (blk_cell BK218.out 1).trans rfl; have hcz9_2 : w8.cell? ⟨gb218, 2, none⟩ = some (.bool a1_2) := (blk_cell BK218.out 2).trans rfl; have hcz9_3 : w8.cell? ⟨gb218, 3, none⟩ = some (.int .i64 a1_3) := (blk_cell BK218.out 3).trans rfl; have hcz9_4 : w8.cell? ⟨gb218, 4, none⟩ = some (.int .i64 a1_4) := (blk_cell BK218.out 4).trans rfl; have hcz9_5 : w8.cell? ⟨gb218, 5, none⟩ = some (.string a1_5) := (blk_cell BK218.out 5).trans rfl; have hcz9_6 : w8.cell? ⟨gb218, 6, none⟩ = some (.string a1_6) := (blk_cell BK218.out 6).trans rfl; have hcz9_7 : w8.cell? ⟨gb218, 7, none⟩ = some (.bool a1_7) := (blk_cell BK218.out 7).trans rfl; have hcz9_8 : w8.cell? ⟨gb218, 8, none⟩ = some (.int .i64 a1_8) := (blk_cell BK218.out 8).trans rfl; have hcz9_9 : w8.cell? ⟨gb218, 9, none⟩ = some (.string a1_9) := (blk_cell BK218.out 9).trans rfl; have hcz9_10 : w8.cell? ⟨gb218, 10, none⟩ = some (.bool a1_10) := (blk_cell BK218.out 10).trans rfl; have hcz9_11 : w8.cell? ⟨gb218, 11, none⟩ = some (.string a1_11) := (blk_cell BK218.out 11).trans rfl; have hcz9_12 : w8.cell? ⟨gb218, 12, none⟩ = some (.bool a1_12) := (blk_cell BK218.out 12).trans rfl; have hcz9_13 : w8.cell? ⟨gb218, 13, none⟩ = some (.string a1_13) := (blk_cell BK218.out 13).trans rfl; have hcz9_14 : w8.cell? ⟨gb218, 14, none⟩ = some (.bool a1_14) := (blk_cell BK218.out 14).trans rfl; have hcz9_15 : w8.cell? ⟨gb218, 15, none⟩ = some (.string a1_15) := (blk_cell BK218.out 15).trans rfl; have hcz9_16 : w8.cell? ⟨gb218, 16, none⟩ = some (.string a1_16) := (blk_cell BK218.out 16).trans rfl; have hcz9_17 : w8.cell? ⟨gb218, 17, none⟩ = some (.int .i64 a1_17) := (blk_cell BK218.out 17).trans rfl; have hcz9_18 : w8.cell? ⟨gb218, 18, none⟩ = some (.bool a1_18) := (blk_cell BK218.out 18).trans rfl; have hcz9_19 : w8.cell? ⟨gb218, 19, none⟩ = some (.slice A1_19 l1_19.length c1_19) := (blk_cell BK218.out 19).trans rfl; have hcz9_20 : w8.cell? ⟨gb218, 20, none⟩ = some (.bool a1_20) := (blk_cell BK218.out 20).trans rfl; have hcz9_21 : w8.cell? ⟨gb218, 21, none⟩ = some (.int .i64 a1_21) := (blk_cell BK218.out 21).trans rfl; have hcz9_22 : w8.cell? ⟨gb218, 22, none⟩ = some (.slice A1_22 l1_22.length c1_22) := (blk_cell BK218.out 22).trans rfl; have hcz9_23 : w8.cell? ⟨gb218, 23, none⟩ = some (.slice A1_23 l1_23.length c1_23) := (blk_cell BK218.out 23).trans rfl; have hcz9_24 : w8.cell? ⟨gb218, 24, none⟩ = some (.slice A1_24 l1_24.length c1_24) := (blk_cell BK218.out 24).trans rfl; have hfz9_0 := blk_frozen BK218.out 0; have hfz9_1 := blk_frozen BK218.out 1; have hfz9_2 := blk_frozen BK218.out 2; have hfz9_3 := blk_frozen BK218.out 3; have hfz9_4 := blk_frozen BK218.out 4; have hfz9_5 := blk_frozen BK218.out 5; have hfz9_6 := blk_frozen BK218.out 6; have hfz9_7 := blk_frozen BK218.out 7; have hfz9_8 := blk_frozen BK218.out 8; have hfz9_9 := blk_frozen BK218.out 9; have hfz9_10 := blk_frozen BK218.out 10; have hfz9_11 := blk_frozen BK218.out 11; have hfz9_12 := blk_frozen BK218.out 12; have hfz9_13 := blk_frozen BK218.out 13; have hfz9_14 := blk_frozen BK218.out 14; have hfz9_15 := blk_frozen BK218.out 15; have hfz9_16 := blk_frozen BK218.out 16; have hfz9_17 := blk_frozen BK218.out 17; have hfz9_18 := blk_frozen BK218.out 18; have hfz9_19 := blk_frozen BK218.out 19; have hfz9_20 := blk_frozen BK218.out 20; have hfz9_21 := blk_frozen BK218.out 21; have hfz9_22 := blk_frozen BK218.out 22; have hfz9_23 := blk_frozen BK218.out 23; have hfz9_24 := blk_frozen BK218.out 24) | ((with_reducible refine gate_callee (f := 63) rfl ?_); refine goesL_ (some 14) rfl rfl Try.func63 (by kernel_rfl) rfl #[.string a1_5] rfl (by (try simp only [List.map_toArray, List.map_cons, List.map_nil]); first | done | rfl | (simp only [List.length_drop, List.length_take]; rfl)) ?_; (with_reducible refine (topic_Name.calls a1_5 true _ A4.out).mono ?_); rintro e w10 ⟨rfl, hb⟩; refine ⟨_, rfl, ?_⟩; have n0_ := Aside0.mk (blk_below (g := gb218) (o := .cells #[.int .i64 a1_0, .bool a1_1, .bool a1_2, .int .i64 a1_3, .int .i64 a1_4, .string a1_5, .string a1_6, .bool a1_7, .int .i64 a1_8, .string a1_9, .bool a1_10, .string a1_11, .bool a1_12, .string a1_13, .bool a1_14, .string a1_15, .string a1_16, .int .i64 a1_17, .bool a1_18, .slice A1_19 l1_19.length c1_19, .bool a1_20, .int .i64 a1_21, .slice A1_22 l1_22.length c1_22, .slice A1_23 l1_23.length c1_23, .slice A1_24 l1_24.length c1_24] 48 (0, 0)) (by (with_reducible repeat (first | refine blk_drewN ?_ _ | refine blk_drew ?_ | refine blk_alloc ?_ _)); exact BK218.out) hb); have n1_ := Aside0.mk (below_step (by repeat (first | (with_reducible first | exact HB.out | apply below_alloc | apply pw_below_drewN | apply below_drew1 | refine below_set ?_ GE218.out) | exact HB.out)) hb); clear BK218; clear HB; have BK218 := n0_; have HB := n1_; clear n0_ n1_; (try clear hb); (try clear hb2); (try clear hk); (try clear hi)))
    go_ret
    exact ⟨by first | rfl | (simp [errW_none, errW_some] <;> rfl) | (simp [*, errW_none, errW_some] <;> rfl), by repeat (first | (with_reducible first | exact HB.out | apply below_alloc | apply pw_below_drewN | apply below_drew1 | refine below_set ?_ GE218.out) | exact HB.out)⟩
  · replace c5 := Bool.eq_false_iff.mpr c5
    subst c5
    have H1 : (if a0 = 5 then (if t220 = true then (some (a1_5.toList == ([] : List UInt8))) else (some false)) else (some false)) = some r := by rw [if_neg (show ¬ (false = true) by decide)] at H; exact H
    clear H
    have H := H1
    clear H1
    by_cases c11 : a0 = 5
    · rw [if_pos c11] at H
      have c11b0 : (a0 == 5) = true := beq_iff_eq.mpr c11
      have c11b1 : (a0 != 5) = false := bne_eq_false_iff_eq.mpr c11
      clear c11
      by_cases c12 : t220 = true
      · subst c12
        have H1 : (some (a1_5.toList == ([] : List UInt8))) = some r := by rw [if_pos rfl] at H; exact H
        clear H
        have H := H1
        clear H1
        obtain rfl := Option.some.inj H
        go_enter Try.func53, Try.ntmps53
        go_wp2_with (first | ((with_reducible refine publish_named.gl rfl ?_); (try (refine gate_guard (by first | rfl | (simp [*]; done) | fail) ?_; dsimp only)); refine wpList_load_row rfl 48 _ rfl _ (by rfl) 48 _ _ _ (by first | exact Aside0.out (by with_reducible assumption) | ((with_reducible repeat (first | refine blk_drewN ?_ _ | refine blk_drew ?_ | refine blk_alloc ?_ _)); exact Aside0.out (by with_reducible assumption)) | (refine blk_put (Aside0.out (by with_reducible assumption)) 24 _ ?_; simp only [List.setIfInBounds_toArray, List.set_cons_zero, List.set_cons_succ]; rfl) | (apply blk_put (i := 24); (case h => exact Aside0.out (by with_reducible assumption)); (case e => (simp only [List.setIfInBounds_toArray, List.set_cons_zero, List.set_cons_succ]; rfl)))) Try.underlying48 rfl (by kernel_rfl) ?_) | ((with_reducible refine gate_dst (N := 3) rfl ?_); refine box_event ?hg (N := 3) ?hd (cs := #[.int .i64 a1_0, .bool a1_1, .bool a1_2, .int .i64 a1_3, .int .i64 a1_4, .string a1_5, .string a1_6, .bool a1_7, .int .i64 a1_8, .string a1_9, .bool a1_10, .string a1_11, .bool a1_12, .string a1_13, .bool a1_14, .string a1_15, .string a1_16, .int .i64 a1_17, .bool a1_18, .slice A1_19 l1_19.length c1_19, .bool a1_20, .int .i64 a1_21, .slice A1_22 l1_22.length c1_22, .slice A1_23 l1_23.length c1_23, .slice A1_24 l1_24.length c1_24]) (t := 48) ?hr ?_; (case hd => rfl); (case hg => rfl); (case hr => first | (go_simp; done) | (go_simp; rfl)); intro gb218 hg w13 hbox hb; have n0_ := Aside0.mk (below_step (by repeat (first | (with_reducible first | exact HB.out | apply below_alloc | apply pw_below_drewN | apply below_drew1) | exact HB.out)) hb); have n1_ := Aside0.mk (hbox); have n2_ := Aside0.mk ((by rw [hg]; exact (below_size (by repeat (first | (with_reducible first | exact HB.out | apply below_alloc | apply pw_below_drewN | apply below_drew1) | exact HB.out))) : w.heap.size ≤ gb218)); have n3_ := Aside0.mk ((by rw [hg]; exact (below_size (by repeat (first | (with_reducible first | exact HB.out | apply below_alloc | apply pw_below_drewN | apply below_drew1) | exact HB.out))) : w.heap.size ≤ gb218)); clear HB; have HB := n0_; have BK218 := n1_; have GW218 := n2_; have GE218 := n3_; clear n0_ n1_ n2_ n3_; clear hb hbox hg; have hcz14_0 : w13.cell? ⟨gb218, 0, none⟩ = some (.int .i64 a1_0) := (blk_cell BK218.out 0).trans rfl; have hcz14_1 : w13.cell? ⟨gb218, 1, none⟩ = some (.bool a1_1) := (blk_cell BK218.out 1).trans rfl; have hcz14_2 : w13.cell? ⟨gb218, 2, none⟩ = some (.bool a1_2) := (blk_cell BK218.out 2).trans rfl; have hcz14_3 : w13.cell? ⟨gb218, 3, none⟩ = some (.int .i64 a1_3) := (blk_cell BK218.out 3).trans rfl; have hcz14_4 : w13.cell? ⟨gb218, 4, none⟩ = some (.int .i64 a1_4) := (blk_cell BK218.out 4).trans rfl; have hcz14_5 : w13.cell? ⟨gb218, 5, none⟩ = some (.string a1_5) := (blk_cell BK218.out 5).trans rfl; have hcz14_6 : w13.cell? ⟨gb218, 6, none⟩ = some (.string a1_6) := (blk_cell BK218.out 6).trans rfl; have hcz14_7 : w13.cell? ⟨gb218, 7, none⟩ = some (.bool a1_7) := (blk_cell BK218.out 7).trans rfl; have hcz14_8 : w13.cell? ⟨gb218, 8, none⟩ = some (.int .i64 a1_8) := (blk_cell BK218.out 8).trans rfl; have hcz14_9 : w13.cell? ⟨gb218, 9, none⟩ = some (.string a1_9) := (blk_cell BK218.out 9).trans rfl; have hcz14_10 : w13.cell? ⟨gb218, 10, none⟩ = some (.bool a1_10) := (blk_cell BK218.out 10).trans rfl; have hcz14_11 : w13.cell? ⟨gb218, 11, none⟩ = some (.string a1_11) := (blk_cell BK218.out 11).trans rfl; have hcz14_12 : w13.cell? ⟨gb218, 12, none⟩ = some (.bool a1_12) := (blk_cell BK218.out 12).trans rfl; have hcz14_13 : w13.cell? ⟨gb218, 13, none⟩ = some (.string a1_13) := (blk_cell BK218.out 13).trans rfl; have hcz14_14 : w13.cell? ⟨gb218, 14, none⟩ = some (.bool a1_14) := (blk_cell BK218.out 14).trans rfl; have hcz14_15 : w13.cell? ⟨gb218, 15, none⟩ = some (.string a1_15) := (blk_cell BK218.out 15).trans rfl; have hcz14_16 : w13.cell? ⟨gb218, 16, none⟩ = some (.string a1_16) := (blk_cell BK218.out 16).trans rfl; have hcz14_17 : w13.cell? ⟨gb218, 17, none⟩ = some (.int .i64 a1_17) := (blk_cell BK218.out 17).trans rfl; have hcz14_18 : w13.cell? ⟨gb218, 18, none⟩ = some (.bool a1_18) := (blk_cell BK218.out 18).trans rfl; have hcz14_19 : w13.cell? ⟨gb218, 19, none⟩ = some (.slice A1_19 l1_19.length c1_19) := (blk_cell BK218.out 19).trans rfl; have hcz14_20 : w13.cell? ⟨gb218, 20, none⟩ = some (.bool a1_20) := (blk_cell BK218.out 20).trans rfl; have hcz14_21 : w13.cell? ⟨gb218, 21, none⟩ = some (.int .i64 a1_21) := (blk_cell BK218.out 21).trans rfl; have hcz14_22 : w13.cell? ⟨gb218, 22, none⟩ = some (.slice A1_22 l1_22.length c1_22) := (blk_cell BK218.out 22).trans rfl; have hcz14_23 : w13.cell? ⟨gb218, 23, none⟩ = some (.slice A1_23 l1_23.length c1_23) := (blk_cell BK218.out 23).trans rfl; have hcz14_24 : w13.cell? ⟨gb218, 24, none⟩ = some (.slice A1_24 l1_24.length c1_24) := (blk_cell BK218.out 24).trans rfl; have hfz14_0 := blk_frozen BK218.out 0; have hfz14_1 := blk_frozen BK218.out 1; have hfz14_2 := blk_frozen BK218.out 2; have hfz14_3 := blk_frozen BK218.out 3; have hfz14_4 := blk_frozen BK218.out 4; have hfz14_5 := blk_frozen BK218.out 5; have hfz14_6 := blk_frozen BK218.out 6; have hfz14_7 := blk_frozen BK218.out 7; have hfz14_8 := blk_frozen BK218.out 8; have hfz14_9 := blk_frozen BK218.out 9; have hfz14_10 := blk_frozen BK218.out 10; have hfz14_11 := blk_frozen BK218.out 11; have hfz14_12 := blk_frozen BK218.out 12; have hfz14_13 := blk_frozen BK218.out 13; have hfz14_14 := blk_frozen BK218.out 14; have hfz14_15 := blk_frozen BK218.out 15; have hfz14_16 := blk_frozen BK218.out 16; have hfz14_17 := blk_frozen BK218.out 17; have hfz14_18 := blk_frozen BK218.out 18; have hfz14_19 := blk_frozen BK218.out 19; have hfz14_20 := blk_frozen BK218.out 20; have hfz14_21 := blk_frozen BK218.out 21; have hfz14_22 := blk_frozen BK218.out 22; have hfz14_23 := blk_frozen BK218.out 23; have hfz14_24 := blk_frozen BK218.out 24) | ((with_reducible refine gate_callee (f := 25) rfl ?_); refine goesL_ (some 9) rfl rfl Try.func25 (by kernel_rfl) rfl #[.agg #[.int .i64 a1_0, .bool a1_1, .bool a1_2, .int .i64 a1_3, .int .i64 a1_4, .string a1_5, .string a1_6, .bool a1_7, .int .i64 a1_8, .string a1_9, .bool a1_10, .string a1_11, .bool a1_12, .string a1_13, .bool a1_14, .string a1_15, .string a1_16, .int .i64 a1_17, .bool a1_18, .slice A1_19 l1_19.length c1_19, .bool a1_20, .int .i64 a1_21, .slice A1_22 l1_22.length c1_22, .slice A1_23 l1_23.length c1_23, .slice A1_24 l1_24.length c1_24]] rfl (by (try simp only [List.map_toArray, List.map_cons, List.map_nil]); first | done | rfl | (simp only [List.length_drop, List.length_take]; rfl)) ?_; (with_reducible refine (publish_Alias.calls k a1_0 a1_1 a1_2 a1_3 a1_4 a1_5 a1_6 a1_7 a1_8 a1_9 a1_10 a1_11 a1_12 a1_13 a1_14 a1_15 a1_16 a1_17 a1_18 _ _ l1_19 a1_20 a1_21 _ _ l1_22 _ _ l1_23 _ _ l1_24 t219 true _ ?side1 ?side2 ?side3 ?side4 ?side5 ?side6 ?side7 ?side8 A3.out).mono ?_); (case side1 => repeat (first | exact (Kd.C_below HR1_19.out HB.out) | (with_reducible refine Kd.C_alloc ?_ _) | (with_reducible refine Kd.C_drewN ?_ _) | (with_reducible refine Kd.C_drew ?_))); (case side2 => exact HC1_19.out); (case side3 => repeat (first | exact (Kd.C_below HR1_22.out HB.out) | (with_reducible refine Kd.C_alloc ?_ _) | (with_reducible refine Kd.C_drewN ?_ _) | (with_reducible refine Kd.C_drew ?_))); (case side4 => exact HC1_22.out); (case side5 => repeat (first | exact (Kd.C_below HR1_23.out HB.out) | (with_reducible refine Kd.C_alloc ?_ _) | (with_reducible refine Kd.C_drewN ?_ _) | (with_reducible refine Kd.C_drew ?_))); (case side6 => exact HC1_23.out); (case side7 => repeat (first | exact (Kd.C_below HR1_24.out HB.out) | (with_reducible refine Kd.C_alloc ?_ _) | (with_reducible refine Kd.C_drewN ?_ _) | (with_reducible refine Kd.C_drew ?_))); (case side8 => exact HC1_24.out); rintro e w15 ⟨rfl, hb⟩; refine ⟨_, rfl, ?_⟩; have n0_ := Aside0.mk (blk_below (g := gb218) (o := .cells #[.int .i64 a1_0, .bool a1_1, .bool a1_2, .int .i64 a1_3, .int .i64 a1_4, .string a1_5, .string a1_6, .bool a1_7, .int .i64 a1_8, .string a1_9, .bool a1_10, .string a1_11, .bool a1_12, .string a1_13, .bool a1_14, .string a1_15, .string a1_16, .int .i64 a1_17, .bool a1_18, .slice A1_19 l1_19.length c1_19, .bool a1_20, .int .i64 a1_21, .slice A1_22 l1_22.length c1_22, .slice A1_23 l1_23.length c1_23, .slice A1_24 l1_24.length c1_24] 48 (0, 0)) (by (with_reducible repeat (first | refine blk_drewN ?_ _ | refine blk_drew ?_ | refine blk_alloc ?_ _)); exact BK218.out) hb); have n1_ := Aside0.mk (below_step (by repeat (first | (with_reducible first | exact HB.out | apply below_alloc | apply pw_below_drewN | apply below_drew1 | refine below_set ?_ GE218.out) | exact HB.out)) hb); clear BK218; clear HB; have BK218 := n0_; have HB := n1_; clear n0_ n1_; (try clear hb); (try clear hb2); (try clear hk); (try clear hi); have hcz16_0 : w15.cell? ⟨gb218, 0, none⟩ = some (.int .i64 a1_0) := (blk_cell BK218.out 0).trans rfl; have hcz16_1 : w15.cell? ⟨gb218, 1, none⟩ = some (.bool a1_1) := (blk_cell BK218.out 1).trans rfl; have hcz16_2 : w15.cell? ⟨gb218, 2, none⟩ = some (.bool a1_2) := (blk_cell BK218.out 2).trans rfl; have hcz16_3 : w15.cell? ⟨gb218, 3, none⟩ = some (.int .i64 a1_3) := (blk_cell BK218.out 3).trans rfl; have hcz16_4 : w15.cell? ⟨gb218, 4, none⟩ = some (.int .i64 a1_4) := (blk_cell BK218.out 4).trans rfl; have hcz16_5 : w15.cell? ⟨gb218, 5, none⟩ = some (.string a1_5) := (blk_cell BK218.out 5).trans rfl; have hcz16_6 : w15.cell? ⟨gb218, 6, none⟩ = some (.string a1_6) := (blk_cell BK218.out 6).trans rfl; have hcz16_7 : w15.cell? ⟨gb218, 7, none⟩ = some (.bool a1_7) := (blk_cell BK218.out 7).trans rfl; have hcz16_8 : w15.cell? ⟨gb218, 8, none⟩ = some (.int .i64 a1_8) := (blk_cell BK218.out 8).trans rfl; have hcz16_9 : w15.cell? ⟨gb218, 9, none⟩ = some (.string a1_9) := (blk_cell BK218.out 9).trans rfl; have hcz16_10 : w15.cell? ⟨gb218, 10, none⟩ = some (.bool a1_10) := (blk_cell BK218.out 10).trans rfl; have hcz16_11 : w15.cell? ⟨gb218, 11, none⟩ = some (.string a1_11) := (blk_cell BK218.out 11).trans rfl; have hcz16_12 : w15.cell? ⟨gb218, 12, none⟩ = some (.bool a1_12) := (blk_cell BK218.out 12).trans rfl; have hcz16_13 : w15.cell? ⟨gb218, 13, none⟩ = some (.string a1_13) := (blk_cell BK218.out 13).trans rfl; have hcz16_14 : w15.cell? ⟨gb218, 14, none⟩ = some (.bool a1_14) := (blk_cell BK218.out 14).trans rfl; have hcz16_15 : w15.cell? ⟨gb218, 15, none⟩ = some (.string a1_15) := (blk_cell BK218.out 15).trans rfl; have hcz16_16 : w15.cell? ⟨gb218, 16, none⟩ = some (.string a1_16) := (blk_cell BK218.out 16).trans rfl; have hcz16_17 : w15.cell? ⟨gb218, 17, none⟩ = some (.int .i64 a1_17) := (blk_cell BK218.out 17).trans rfl; have hcz16_18 : w15.cell? ⟨gb218, 18, none⟩ = some (.bool a1_18) := (blk_cell BK218.out 18).trans rfl; have hcz16_19 : w15.cell? ⟨gb218, 19, none⟩ = some (.slice A1_19 l1_19.length c1_19) := (blk_cell BK218.out 19).trans rfl; have hcz16_20 : w15.cell? ⟨gb218, 20, none⟩ = some (.bool a1_20) := (blk_cell BK218.out 20).trans rfl; have hcz16_21 : w15.cell? ⟨gb218, 21, none⟩ = some (.int .i64 a1_21) := (blk_cell BK218.out 21).trans rfl; have hcz16_22 : w15.cell? ⟨gb218, 22, none⟩ = some (.slice A1_22 l1_22.length c1_22) := (blk_cell BK218.out 22).trans rfl; have hcz16_23 : w15.cell? ⟨gb218, 23, none⟩ = some (.slice A1_23 l1_23.length c1_23) := (blk_cell BK218.out 23).trans rfl; have hcz16_24 : w15.cell? ⟨gb218, 24, none⟩ = some (.slice A1_24 l1_24.length c1_24) := (blk_cell BK218.out 24).trans rfl; have hfz16_0 := blk_frozen BK218.out 0; have hfz16_1 := blk_frozen BK218.out 1; have hfz16_2 := blk_frozen BK218.out 2; have hfz16_3 := blk_frozen BK218.out 3; have hfz16_4 := blk_frozen BK218.out 4; have hfz16_5 := blk_frozen BK218.out 5; have hfz16_6 := blk_frozen BK218.out 6; have hfz16_7 := blk_frozen BK218.out 7; have hfz16_8 := blk_frozen BK218.out 8; have hfz16_9 := blk_frozen BK218.out 9; have hfz16_10 := blk_frozen BK218.out 10; have hfz16_11 := blk_frozen BK218.out 11; have hfz16_12 := blk_frozen BK218.out 12; have hfz16_13 := blk_frozen BK218.out 13; have hfz16_14 := blk_frozen BK218.out 14; have hfz16_15 := blk_frozen BK218.out 15; have hfz16_16 := blk_frozen BK218.out 16; have hfz16_17 := blk_frozen BK218.out 17; have hfz16_18 := blk_frozen BK218.out 18; have hfz16_19 := blk_frozen BK218.out 19; have hfz16_20 := blk_frozen BK218.out 20; have hfz16_21 := blk_frozen BK218.out 21; have hfz16_22 := blk_frozen BK218.out 22; have hfz16_23 := blk_frozen BK218.out 23; have hfz16_24 := blk_frozen BK218.out 24) | ((with_reducible refine gate_callee (f := 63) rfl ?_); refine goesL_ (some 14) rfl rfl Try.func63 (by kernel_rfl) rfl #[.string a1_5] rfl (by (try simp only [List.map_toArray, List.map_cons, List.map_nil]); first | done | rfl | (simp only [List.length_drop, List.length_take]; rfl)) ?_; (with_reducible refine (topic_Name.calls a1_5 false _ A4.out).mono ?_); rintro e w17 ⟨rfl, hb⟩; refine ⟨_, rfl, ?_⟩; have n0_ := Aside0.mk (blk_below (g := gb218) (o := .cells #[.int .i64 a1_0, .bool a1_1, .bool a1_2, .int .i64 a1_3, .int .i64 a1_4, .string a1_5, .string a1_6, .bool a1_7, .int .i64 a1_8, .string a1_9, .bool a1_10, .string a1_11, .bool a1_12, .string a1_13, .bool a1_14, .string a1_15, .string a1_16, .int .i64 a1_17, .bool a1_18, .slice A1_19 l1_19.length c1_19, .bool a1_20, .int .i64 a1_21, .slice A1_22 l1_22.length c1_22, .slice A1_23 l1_23.length c1_23, .slice A1_24 l1_24.length c1_24] 48 (0, 0)) (by (with_reducible repeat (first | refine blk_drewN ?_ _ | refine blk_drew ?_ | refine blk_alloc ?_ _)); exact BK218.out) hb); have n1_ := Aside0.mk (below_step (by repeat (first | (with_reducible first | exact HB.out | apply below_alloc | apply pw_below_drewN | apply below_drew1 | refine below_set ?_ GE218.out) | exact HB.out)) hb); clear BK218; clear HB; have BK218 := n0_; have HB := n1_; clear n0_ n1_; (try clear hb); (try clear hb2); (try clear hk); (try clear hi); have hcz18_0 : w17.cell? ⟨gb218, 0, none⟩ = some (.int .i64 a1_0) := (blk_cell BK218.out 0).trans rfl; have hcz18_1 : w17.cell? ⟨gb218, 1, none⟩ = some (.bool a1_1) := (blk_cell BK218.out 1).trans rfl; have hcz18_2 : w17.cell? ⟨gb218, 2, none⟩ = some (.bool a1_2) := (blk_cell BK218.out 2).trans rfl; have hcz18_3 : w17.cell? ⟨gb218, 3, none⟩ = some (.int .i64 a1_3) := (blk_cell BK218.out 3).trans rfl; have hcz18_4 : w17.cell? ⟨gb218, 4, none⟩ = some (.int .i64 a1_4) := (blk_cell BK218.out 4).trans rfl; have hcz18_5 : w17.cell? ⟨gb218, 5, none⟩ = some (.string a1_5) := (blk_cell BK218.out 5).trans rfl; have hcz18_6 : w17.cell? ⟨gb218, 6, none⟩ = some (.string a1_6) := (blk_cell BK218.out 6).trans rfl; have hcz18_7 : w17.cell? ⟨gb218, 7, none⟩ = some (.bool a1_7) := (blk_cell BK218.out 7).trans rfl; have hcz18_8 : w17.cell? ⟨gb218, 8, none⟩ = some (.int .i64 a1_8) := (blk_cell BK218.out 8).trans rfl; have hcz18_9 : w17.cell? ⟨gb218, 9, none⟩ = some (.string a1_9) := (blk_cell BK218.out 9).trans rfl; have hcz18_10 : w17.cell? ⟨gb218, 10, none⟩ = some (.bool a1_10) := (blk_cell BK218.out 10).trans rfl; have hcz18_11 : w17.cell? ⟨gb218, 11, none⟩ = some (.string a1_11) := (blk_cell BK218.out 11).trans rfl; have hcz18_12 : w17.cell? ⟨gb218, 12, none⟩ = some (.bool a1_12) := (blk_cell BK218.out 12).trans rfl; have hcz18_13 : w17.cell? ⟨gb218, 13, none⟩ = some (.string a1_13) := (blk_cell BK218.out 13).trans rfl; have hcz18_14 : w17.cell? ⟨gb218, 14, none⟩ = some (.bool a1_14) := (blk_cell BK218.out 14).trans rfl; have hcz18_15 : w17.cell? ⟨gb218, 15, none⟩ = some (.string a1_15) := (blk_cell BK218.out 15).trans rfl; have hcz18_16 : w17.cell? ⟨gb218, 16, none⟩ = some (.string a1_16) := (blk_cell BK218.out 16).trans rfl; have hcz18_17 : w17.cell? ⟨gb218, 17, none⟩ = some (.int .i64 a1_17) := (blk_cell BK218.out 17).trans rfl; have hcz18_18 : w17.cell? ⟨gb218, 18, none⟩ = some (.bool a1_18) := (blk_cell BK218.out 18).trans rfl; have hcz18_19 : w17.cell? ⟨gb218, 19, none⟩ = some (.slice A1_19 l1_19.length c1_19) := (blk_cell BK218.out 19).trans rfl; have hcz18_20 : w17.cell? ⟨gb218, 20, none⟩ = some (.bool a1_20) := (blk_cell BK218.out 20).trans rfl; have hcz18_21 : w17.cell? ⟨gb218, 21, none⟩ = some (.int .i64 a1_21) := (blk_cell BK218.out 21).trans rfl; have hcz18_22 : w17.cell? ⟨gb218, 22, none⟩ = some (.slice A1_22 l1_22.length c1_22) := (blk_cell BK218.out 22).trans rfl; have hcz18_23 : w17.cell? ⟨gb218, 23, none⟩ = some (.slice A1_23 l1_23.length c1_23) := (blk_cell BK218.out 23).trans rfl; have hcz18_24 : w17.cell? ⟨gb218, 24, none⟩ = some (.slice A1_24 l1_24.length c1_24) := (blk_cell BK218.out 24).trans rfl; have hfz18_0 := blk_frozen BK218.out 0; have hfz18_1 := blk_frozen BK218.out 1; have hfz18_2 := blk_frozen BK218.out 2; have hfz18_3 := blk_frozen BK218.out 3; have hfz18_4 := blk_frozen BK218.out 4; have hfz18_5 := blk_frozen BK218.out 5; have hfz18_6 := blk_frozen BK218.out 6; have hfz18_7 := blk_frozen BK218.out 7; have hfz18_8 := blk_frozen BK218.out 8; have hfz18_9 := blk_frozen BK218.out 9; have hfz18_10 := blk_frozen BK218.out 10; have hfz18_11 := blk_frozen BK218.out 11; have hfz18_12 := blk_frozen BK218.out 12; have hfz18_13 := blk_frozen BK218.out 13; have hfz18_14 := blk_frozen BK218.out 14; have hfz18_15 := blk_frozen BK218.out 15; have hfz18_16 := blk_frozen BK218.out 16; have hfz18_17 := blk_frozen BK218.out 17; have hfz18_18 := blk_frozen BK218.out 18; have hfz18_19 := blk_frozen BK218.out 19; have hfz18_20 := blk_frozen BK218.out 20; have hfz18_21 := blk_frozen BK218.out 21; have hfz18_22 := blk_frozen BK218.out 22; have hfz18_23 := blk_frozen BK218.out 23; have hfz18_24 := blk_frozen BK218.out 24))
        go_ret
        exact ⟨by first | rfl | (simp [errW_none, errW_some] <;> rfl) | (simp [*, errW_none, errW_some] <;> rfl), by repeat (first | (with_reducible first | exact HB.out | apply below_alloc | apply pw_below_drewN | apply below_drew1 | refine below_set ?_ GE218.out) | exact HB.out)⟩
      · replace c12 := Bool.eq_false_iff.mpr c12
        subst c12
        have H1 : (some false) = some r := by rw [if_neg (show ¬ (false = true) by decide)] at H; exact H
        clear H
        have H := H1
        clear H1
        obtain rfl := Option.some.inj H
        go_enter Try.func53, Try.ntmps53
        go_wp2_with (first | ((with_reducible refine publish_named.gl rfl ?_); (try (refine gate_guard (by first | rfl | (simp [*]; done) | fail) ?_; dsimp only)); refine wpList_load_row rfl 48 _ rfl _ (by rfl) 48 _ _ _ (by first | exact Aside0.out (by with_reducible assumption) | ((with_reducible repeat (first | refine blk_drewN ?_ _ | refine blk_drew ?_ | refine blk_alloc ?_ _)); exact Aside0.out (by with_reducible assumption)) | (refine blk_put (Aside0.out (by with_reducible assumption)) 24 _ ?_; simp only [List.setIfInBounds_toArray, List.set_cons_zero, List.set_cons_succ]; rfl) | (apply blk_put (i := 24); (case h => exact Aside0.out (by with_reducible assumption)); (case e => (simp only [List.setIfInBounds_toArray, List.set_cons_zero, List.set_cons_succ]; rfl)))) Try.underlying48 rfl (by kernel_rfl) ?_) | ((with_reducible refine gate_dst (N := 3) rfl ?_); refine box_event ?hg (N := 3) ?hd (cs := #[.int .i64 a1_0, .bool a1_1, .bool a1_2, .int .i64 a1_3, .int .i64 a1_4, .string a1_5, .string a1_6, .bool a1_7, .int .i64 a1_8, .string a1_9, .bool a1_10, .string a1_11, .bool a1_12, .string a1_13, .bool a1_14, .string a1_15, .string a1_16, .int .i64 a1_17, .bool a1_18, .slice A1_19 l1_19.length c1_19, .bool a1_20, .int .i64 a1_21, .slice A1_22 l1_22.length c1_22, .slice A1_23 l1_23.length c1_23, .slice A1_24 l1_24.length c1_24]) (t := 48) ?hr ?_; (case hd => rfl); (case hg => rfl); (case hr => first | (go_simp; done) | (go_simp; rfl)); intro gb218 hg w19 hbox hb; have n0_ := Aside0.mk (below_step (by repeat (first | (with_reducible first | exact HB.out | apply below_alloc | apply pw_below_drewN | apply below_drew1) | exact HB.out)) hb); have n1_ := Aside0.mk (hbox); have n2_ := Aside0.mk ((by rw [hg]; exact (below_size (by repeat (first | (with_reducible first | exact HB.out | apply below_alloc | apply pw_below_drewN | apply below_drew1) | exact HB.out))) : w.heap.size ≤ gb218)); have n3_ := Aside0.mk ((by rw [hg]; exact (below_size (by repeat (first | (with_reducible first | exact HB.out | apply below_alloc | apply pw_below_drewN | apply below_drew1) | exact HB.out))) : w.heap.size ≤ gb218)); clear HB; have HB := n0_; have BK218 := n1_; have GW218 := n2_; have GE218 := n3_; clear n0_ n1_ n2_ n3_; clear hb hbox hg; have hcz20_0 : w19.cell? ⟨gb218, 0, none⟩ = some (.int .i64 a1_0) := (blk_cell BK218.out 0).trans rfl; have hcz20_1 : w19.cell? ⟨gb218, 1, none⟩ = some (.bool a1_1) := (blk_cell BK218.out 1).trans rfl; have hcz20_2 : w19.cell? ⟨gb218, 2, none⟩ = some (.bool a1_2) := (blk_cell BK218.out 2).trans rfl; have hcz20_3 : w19.cell? ⟨gb218, 3, none⟩ = some (.int .i64 a1_3) := (blk_cell BK218.out 3).trans rfl; have hcz20_4 : w19.cell? ⟨gb218, 4, none⟩ = some (.int .i64 a1_4) := (blk_cell BK218.out 4).trans rfl; have hcz20_5 : w19.cell? ⟨gb218, 5, none⟩ = some (.string a1_5) := (blk_cell BK218.out 5).trans rfl; have hcz20_6 : w19.cell? ⟨gb218, 6, none⟩ = some (.string a1_6) := (blk_cell BK218.out 6).trans rfl; have hcz20_7 : w19.cell? ⟨gb218, 7, none⟩ = some (.bool a1_7) := (blk_cell BK218.out 7).trans rfl; have hcz20_8 : w19.cell? ⟨gb218, 8, none⟩ = some (.int .i64 a1_8) := (blk_cell BK218.out 8).trans rfl; have hcz20_9 : w19.cell? ⟨gb218, 9, none⟩ = some (.string a1_9) := (blk_cell BK218.out 9).trans rfl; have hcz20_10 : w19.cell? ⟨gb218, 10, none⟩ = some (.bool a1_10) := (blk_cell BK218.out 10).trans rfl; have hcz20_11 : w19.cell? ⟨gb218, 11, none⟩ = some (.string a1_11) := (blk_cell BK218.out 11).trans rfl; have hcz20_12 : w19.cell? ⟨gb218, 12, none⟩ = some (.bool a1_12) := (blk_cell BK218.out 12).trans rfl; have hcz20_13 : w19.cell? ⟨gb218, 13, none⟩ = some (.string a1_13) := (blk_cell BK218.out 13).trans rfl; have hcz20_14 : w19.cell? ⟨gb218, 14, none⟩ = some (.bool a1_14) := (blk_cell BK218.out 14).trans rfl; have hcz20_15 : w19.cell? ⟨gb218, 15, none⟩ = some (.string a1_15) := (blk_cell BK218.out 15).trans rfl; have hcz20_16 : w19.cell? ⟨gb218, 16, none⟩ = some (.string a1_16) := (blk_cell BK218.out 16).trans rfl; have hcz20_17 : w19.cell? ⟨gb218, 17, none⟩ = some (.int .i64 a1_17) := (blk_cell BK218.out 17).trans rfl; have hcz20_18 : w19.cell? ⟨gb218, 18, none⟩ = some (.bool a1_18) := (blk_cell BK218.out 18).trans rfl; have hcz20_19 : w19.cell? ⟨gb218, 19, none⟩ = some (.slice A1_19 l1_19.length c1_19) := (blk_cell BK218.out 19).trans rfl; have hcz20_20 : w19.cell? ⟨gb218, 20, none⟩ = some (.bool a1_20) := (blk_cell BK218.out 20).trans rfl; have hcz20_21 : w19.cell? ⟨gb218, 21, none⟩ = some (.int .i64 a1_21) := (blk_cell BK218.out 21).trans rfl; have hcz20_22 : w19.cell? ⟨gb218, 22, none⟩ = some (.slice A1_22 l1_22.length c1_22) := (blk_cell BK218.out 22).trans rfl; have hcz20_23 : w19.cell? ⟨gb218, 23, none⟩ = some (.slice A1_23 l1_23.length c1_23) := (blk_cell BK218.out 23).trans rfl; have hcz20_24 : w19.cell? ⟨gb218, 24, none⟩ = some (.slice A1_24 l1_24.length c1_24) := (blk_cell BK218.out 24).trans rfl; have hfz20_0 := blk_frozen BK218.out 0; have hfz20_1 := blk_frozen BK218.out 1; have hfz20_2 := blk_frozen BK218.out 2; have hfz20_3 := blk_frozen BK218.out 3; have hfz20_4 := blk_frozen BK218.out 4; have hfz20_5 := blk_frozen BK218.out 5; have hfz20_6 := blk_frozen BK218.out 6; have hfz20_7 := blk_frozen BK218.out 7; have hfz20_8 := blk_frozen BK218.out 8; have hfz20_9 := blk_frozen BK218.out 9; have hfz20_10 := blk_frozen BK218.out 10; have hfz20_11 := blk_frozen BK218.out 11; have hfz20_12 := blk_frozen BK218.out 12; have hfz20_13 := blk_frozen BK218.out 13; have hfz20_14 := blk_frozen BK218.out 14; have hfz20_15 := blk_frozen BK218.out 15; have hfz20_16 := blk_frozen BK218.out 16; have hfz20_17 := blk_frozen BK218.out 17; have hfz20_18 := blk_frozen BK218.out 18; have hfz20_19 := blk_frozen BK218.out 19; have hfz20_20 := blk_frozen BK218.out 20; have hfz20_21 := blk_frozen BK218.out 21; have hfz20_22 := blk_frozen BK218.out 22; have hfz20_23 := blk_frozen BK218.out 23; have hfz20_24 := blk_frozen BK218.out 24) | ((with_reducible refine gate_callee (f := 25) rfl ?_); refine goesL_ (some 9) rfl rfl Try.func25 (by kernel_rfl) rfl #[.agg #[.int .i64 a1_0, .bool a1_1, .bool a1_2, .int .i64 a1_3, .int .i64 a1_4, .string a1_5, .string a1_6, .bool a1_7, .int .i64 a1_8, .string a1_9, .bool a1_10, .string a1_11, .bool a1_12, .string a1_13, .bool a1_14, .string a1_15, .string a1_16, .int .i64 a1_17, .bool a1_18, .slice A1_19 l1_19.length c1_19, .bool a1_20, .int .i64 a1_21, .slice A1_22 l1_22.length c1_22, .slice A1_23 l1_23.length c1_23, .slice A1_24 l1_24.length c1_24]] rfl (by (try simp only [List.map_toArray, List.map_cons, List.map_nil]); first | done | rfl | (simp only [List.length_drop, List.length_take]; rfl)) ?_; (with_reducible refine (publish_Alias.calls k a1_0 a1_1 a1_2 a1_3 a1_4 a1_5 a1_6 a1_7 a1_8 a1_9 a1_10 a1_11 a1_12 a1_13 a1_14 a1_15 a1_16 a1_17 a1_18 _ _ l1_19 a1_20 a1_21 _ _ l1_22 _ _ l1_23 _ _ l1_24 t219 false _ ?side1 ?side2 ?side3 ?side4 ?side5 ?side6 ?side7 ?side8 A3.out).mono ?_); (case side1 => repeat (first | exact (Kd.C_below HR1_19.out HB.out) | (with_reducible refine Kd.C_alloc ?_ _) | (with_reducible refine Kd.C_drewN ?_ _) | (with_reducible refine Kd.C_drew ?_))); (case side2 => exact HC1_19.out); (case side3 => repeat (first | exact (Kd.C_below HR1_22.out HB.out) | (with_reducible refine Kd.C_alloc ?_ _) | (with_reducible refine Kd.C_drewN ?_ _) | (with_reducible refine Kd.C_drew ?_))); (case side4 => exact HC1_22.out); (case side5 => repeat (first | exact (Kd.C_below HR1_23.out HB.out) | (with_reducible refine Kd.C_alloc ?_ _) | (with_reducible refine Kd.C_drewN ?_ _) | (with_reducible refine Kd.C_drew ?_))); (case side6 => exact HC1_23.out); (case side7 => repeat (first | exact (Kd.C_below HR1_24.out HB.out) | (with_reducible refine Kd.C_alloc ?_ _) | (with_reducible refine Kd.C_drewN ?_ _) | (with_reducible refine Kd.C_drew ?_))); (case side8 => exact HC1_24.out); rintro e w21 ⟨rfl, hb⟩; refine ⟨_, rfl, ?_⟩; have n0_ := Aside0.mk (blk_below (g := gb218) (o := .cells #[.int .i64 a1_0, .bool a1_1, .bool a1_2, .int .i64 a1_3, .int .i64 a1_4, .string a1_5, .string a1_6, .bool a1_7, .int .i64 a1_8, .string a1_9, .bool a1_10, .string a1_11, .bool a1_12, .string a1_13, .bool a1_14, .string a1_15, .string a1_16, .int .i64 a1_17, .bool a1_18, .slice A1_19 l1_19.length c1_19, .bool a1_20, .int .i64 a1_21, .slice A1_22 l1_22.length c1_22, .slice A1_23 l1_23.length c1_23, .slice A1_24 l1_24.length c1_24] 48 (0, 0)) (by (with_reducible repeat (first | refine blk_drewN ?_ _ | refine blk_drew ?_ | refine blk_alloc ?_ _)); exact BK218.out) hb); have n1_ := Aside0.mk (below_step (by repeat (first | (with_reducible first | exact HB.out | apply below_alloc | apply pw_below_drewN | apply below_drew1 | refine below_set ?_ GE218.out) | exact HB.out)) hb); clear BK218; clear HB; have BK218 := n0_; have HB := n1_; clear n0_ n1_; (try clear hb); (try clear hb2); (try clear hk); (try clear hi); have hcz22_0 : w21.cell? ⟨gb218, 0, none⟩ = some (.int .i64 a1_0) := (blk_cell BK218.out 0).trans rfl; have hcz22_1 : w21.cell? ⟨gb218, 1, none⟩ = some (.bool a1_1) := (blk_cell BK218.out 1).trans rfl; have hcz22_2 : w21.cell? ⟨gb218, 2, none⟩ = some (.bool a1_2) := (blk_cell BK218.out 2).trans rfl; have hcz22_3 : w21.cell? ⟨gb218, 3, none⟩ = some (.int .i64 a1_3) := (blk_cell BK218.out 3).trans rfl; have hcz22_4 : w21.cell? ⟨gb218, 4, none⟩ = some (.int .i64 a1_4) := (blk_cell BK218.out 4).trans rfl; have hcz22_5 : w21.cell? ⟨gb218, 5, none⟩ = some (.string a1_5) := (blk_cell BK218.out 5).trans rfl; have hcz22_6 : w21.cell? ⟨gb218, 6, none⟩ = some (.string a1_6) := (blk_cell BK218.out 6).trans rfl; have hcz22_7 : w21.cell? ⟨gb218, 7, none⟩ = some (.bool a1_7) := (blk_cell BK218.out 7).trans rfl; have hcz22_8 : w21.cell? ⟨gb218, 8, none⟩ = some (.int .i64 a1_8) := (blk_cell BK218.out 8).trans rfl; have hcz22_9 : w21.cell? ⟨gb218, 9, none⟩ = some (.string a1_9) := (blk_cell BK218.out 9).trans rfl; have hcz22_10 : w21.cell? ⟨gb218, 10, none⟩ = some (.bool a1_10) := (blk_cell BK218.out 10).trans rfl; have hcz22_11 : w21.cell? ⟨gb218, 11, none⟩ = some (.string a1_11) := (blk_cell BK218.out 11).trans rfl; have hcz22_12 : w21.cell? ⟨gb218, 12, none⟩ = some (.bool a1_12) := (blk_cell BK218.out 12).trans rfl; have hcz22_13 : w21.cell? ⟨gb218, 13, none⟩ = some (.string a1_13) := (blk_cell BK218.out 13).trans rfl; have hcz22_14 : w21.cell? ⟨gb218, 14, none⟩ = some (.bool a1_14) := (blk_cell BK218.out 14).trans rfl; have hcz22_15 : w21.cell? ⟨gb218, 15, none⟩ = some (.string a1_15) := (blk_cell BK218.out 15).trans rfl; have hcz22_16 : w21.cell? ⟨gb218, 16, none⟩ = some (.string a1_16) := (blk_cell BK218.out 16).trans rfl; have hcz22_17 : w21.cell? ⟨gb218, 17, none⟩ = some (.int .i64 a1_17) := (blk_cell BK218.out 17).trans rfl; have hcz22_18 : w21.cell? ⟨gb218, 18, none⟩ = some (.bool a1_18) := (blk_cell BK218.out 18).trans rfl; have hcz22_19 : w21.cell? ⟨gb218, 19, none⟩ = some (.slice A1_19 l1_19.length c1_19) := (blk_cell BK218.out 19).trans rfl; have hcz22_20 : w21.cell? ⟨gb218, 20, none⟩ = some (.bool a1_20) := (blk_cell BK218.out 20).trans rfl; have hcz22_21 : w21.cell? ⟨gb218, 21, none⟩ = some (.int .i64 a1_21) := (blk_cell BK218.out 21).trans rfl; have hcz22_22 : w21.cell? ⟨gb218, 22, none⟩ = some (.slice A1_22 l1_22.length c1_22) := (blk_cell BK218.out 22).trans rfl; have hcz22_23 : w21.cell? ⟨gb218, 23, none⟩ = some (.slice A1_23 l1_23.length c1_23) := (blk_cell BK218.out 23).trans rfl; have hcz22_24 : w21.cell? ⟨gb218, 24, none⟩ = some (.slice A1_24 l1_24.length c1_24) := (blk_cell BK218.out 24).trans rfl; have hfz22_0 := blk_frozen BK218.out 0; have hfz22_1 := blk_frozen BK218.out 1; have hfz22_2 := blk_frozen BK218.out 2; have hfz22_3 := blk_frozen BK218.out 3; have hfz22_4 := blk_frozen BK218.out 4; have hfz22_5 := blk_frozen BK218.out 5; have hfz22_6 := blk_frozen BK218.out 6; have hfz22_7 := blk_frozen BK218.out 7; have hfz22_8 := blk_frozen BK218.out 8; have hfz22_9 := blk_frozen BK218.out 9; have hfz22_10 := blk_frozen BK218.out 10; have hfz22_11 := blk_frozen BK218.out 11; have hfz22_12 := blk_frozen BK218.out 12; have hfz22_13 := blk_frozen BK218.out 13; have hfz22_14 := blk_frozen BK218.out 14; have hfz22_15 := blk_frozen BK218.out 15; have hfz22_16 := blk_frozen BK218.out 16; have hfz22_17 := blk_frozen BK218.out 17; have hfz22_18 := blk_frozen BK218.out 18; have hfz22_19 := blk_frozen BK218.out 19; have hfz22_20 := blk_frozen BK218.out 20; have hfz22_21 := blk_frozen BK218.out 21; have hfz22_22 := blk_frozen BK218.out 22; have hfz22_23 := blk_frozen BK218.out 23; have hfz22_24 := blk_frozen BK218.out 24) | ((with_reducible refine gate_callee (f := 63) rfl ?_); refine goesL_ (some 14) rfl rfl Try.func63 (by kernel_rfl) rfl #[.string a1_5] rfl (by (try simp only [List.map_toArray, List.map_cons, List.map_nil]); first | done | rfl | (simp only [List.length_drop, List.length_take]; rfl)) ?_; (with_reducible refine (topic_Name.calls a1_5 false _ A4.out).mono ?_); rintro e w23 ⟨rfl, hb⟩; refine ⟨_, rfl, ?_⟩; have n0_ := Aside0.mk (blk_below (g := gb218) (o := .cells #[.int .i64 a1_0, .bool a1_1, .bool a1_2, .int .i64 a1_3, .int .i64 a1_4, .string a1_5, .string a1_6, .bool a1_7, .int .i64 a1_8, .string a1_9, .bool a1_10, .string a1_11, .bool a1_12, .string a1_13, .bool a1_14, .string a1_15, .string a1_16, .int .i64 a1_17, .bool a1_18, .slice A1_19 l1_19.length c1_19, .bool a1_20, .int .i64 a1_21, .slice A1_22 l1_22.length c1_22, .slice A1_23 l1_23.length c1_23, .slice A1_24 l1_24.length c1_24] 48 (0, 0)) (by (with_reducible repeat (first | refine blk_drewN ?_ _ | refine blk_drew ?_ | refine blk_alloc ?_ _)); exact BK218.out) hb); have n1_ := Aside0.mk (below_step (by repeat (first | (with_reducible first | exact HB.out | apply below_alloc | apply pw_below_drewN | apply below_drew1 | refine below_set ?_ GE218.out) | exact HB.out)) hb); clear BK218; clear HB; have BK218 := n0_; have HB := n1_; clear n0_ n1_; (try clear hb); (try clear hb2); (try clear hk); (try clear hi)))
        go_ret
        exact ⟨by first | rfl | (simp [errW_none, errW_some] <;> rfl) | (simp [*, errW_none, errW_some] <;> rfl), by repeat (first | (with_reducible first | exact HB.out | apply below_alloc | apply pw_below_drewN | apply below_drew1 | refine below_set ?_ GE218.out) | exact HB.out)⟩
    · rw [if_neg c11] at H
      have c11b0 : (a0 == 5) = false := beq_eq_false_iff_ne.mpr c11
      have c11b1 : (a0 != 5) = true := bne_iff_ne.mpr c11
      obtain rfl := Option.some.inj H
      go_enter Try.func53, Try.ntmps53
      go_wp2_with (first | ((with_reducible refine publish_named.gl rfl ?_); (try (refine gate_guard (by first | rfl | (simp [*]; done) | fail) ?_; dsimp only)); refine wpList_load_row rfl 48 _ rfl _ (by rfl) 48 _ _ _ (by first | exact Aside0.out (by with_reducible assumption) | ((with_reducible repeat (first | refine blk_drewN ?_ _ | refine blk_drew ?_ | refine blk_alloc ?_ _)); exact Aside0.out (by with_reducible assumption)) | (refine blk_put (Aside0.out (by with_reducible assumption)) 24 _ ?_; simp only [List.setIfInBounds_toArray, List.set_cons_zero, List.set_cons_succ]; rfl) | (apply blk_put (i := 24); (case h => exact Aside0.out (by with_reducible assumption)); (case e => (simp only [List.setIfInBounds_toArray, List.set_cons_zero, List.set_cons_succ]; rfl)))) Try.underlying48 rfl (by kernel_rfl) ?_) | ((with_reducible refine gate_dst (N := 3) rfl ?_); refine box_event ?hg (N := 3) ?hd (cs := #[.int .i64 a1_0, .bool a1_1, .bool a1_2, .int .i64 a1_3, .int .i64 a1_4, .string a1_5, .string a1_6, .bool a1_7, .int .i64 a1_8, .string a1_9, .bool a1_10, .string a1_11, .bool a1_12, .string a1_13, .bool a1_14, .string a1_15, .string a1_16, .int .i64 a1_17, .bool a1_18, .slice A1_19 l1_19.length c1_19, .bool a1_20, .int .i64 a1_21, .slice A1_22 l1_22.length c1_22, .slice A1_23 l1_23.length c1_23, .slice A1_24 l1_24.length c1_24]) (t := 48) ?hr ?_; (case hd => rfl); (case hg => rfl); (case hr => first | (go_simp; done) | (go_simp; rfl)); intro gb218 hg w24 hbox hb; have n0_ := Aside0.mk (below_step (by repeat (first | (with_reducible first | exact HB.out | apply below_alloc | apply pw_below_drewN | apply below_drew1) | exact HB.out)) hb); have n1_ := Aside0.mk (hbox); have n2_ := Aside0.mk ((by rw [hg]; exact (below_size (by repeat (first | (with_reducible first | exact HB.out | apply below_alloc | apply pw_below_drewN | apply below_drew1) | exact HB.out))) : w.heap.size ≤ gb218)); have n3_ := Aside0.mk ((by rw [hg]; exact (below_size (by repeat (first | (with_reducible first | exact HB.out | apply below_alloc | apply pw_below_drewN | apply below_drew1) | exact HB.out))) : w.heap.size ≤ gb218)); clear HB; have HB := n0_; have BK218 := n1_; have GW218 := n2_; have GE218 := n3_; clear n0_ n1_ n2_ n3_; clear hb hbox hg; have hcz25_0 : w24.cell? ⟨gb218, 0, none⟩ = some (.int .i64 a1_0) := (blk_cell BK218.out 0).trans rfl; have hcz25_1 : w24.cell? ⟨gb218, 1, none⟩ = some (.bool a1_1) := (blk_cell BK218.out 1).trans rfl; have hcz25_2 : w24.cell? ⟨gb218, 2, none⟩ = some (.bool a1_2) := (blk_cell BK218.out 2).trans rfl; have hcz25_3 : w24.cell? ⟨gb218, 3, none⟩ = some (.int .i64 a1_3) := (blk_cell BK218.out 3).trans rfl; have hcz25_4 : w24.cell? ⟨gb218, 4, none⟩ = some (.int .i64 a1_4) := (blk_cell BK218.out 4).trans rfl; have hcz25_5 : w24.cell? ⟨gb218, 5, none⟩ = some (.string a1_5) := (blk_cell BK218.out 5).trans rfl; have hcz25_6 : w24.cell? ⟨gb218, 6, none⟩ = some (.string a1_6) := (blk_cell BK218.out 6).trans rfl; have hcz25_7 : w24.cell? ⟨gb218, 7, none⟩ = some (.bool a1_7) := (blk_cell BK218.out 7).trans rfl; have hcz25_8 : w24.cell? ⟨gb218, 8, none⟩ = some (.int .i64 a1_8) := (blk_cell BK218.out 8).trans rfl; have hcz25_9 : w24.cell? ⟨gb218, 9, none⟩ = some (.string a1_9) := (blk_cell BK218.out 9).trans rfl; have hcz25_10 : w24.cell? ⟨gb218, 10, none⟩ = some (.bool a1_10) := (blk_cell BK218.out 10).trans rfl; have hcz25_11 : w24.cell? ⟨gb218, 11, none⟩ = some (.string a1_11) := (blk_cell BK218.out 11).trans rfl; have hcz25_12 : w24.cell? ⟨gb218, 12, none⟩ = some (.bool a1_12) := (blk_cell BK218.out 12).trans rfl; have hcz25_13 : w24.cell? ⟨gb218, 13, none⟩ = some (.string a1_13) := (blk_cell BK218.out 13).trans rfl; have hcz25_14 : w24.cell? ⟨gb218, 14, none⟩ = some (.bool a1_14) := (blk_cell BK218.out 14).trans rfl; have hcz25_15 : w24.cell? ⟨gb218, 15, none⟩ = some (.string a1_15) := (blk_cell BK218.out 15).trans rfl; have hcz25_16 : w24.cell? ⟨gb218, 16, none⟩ = some (.string a1_16) := (blk_cell BK218.out 16).trans rfl; have hcz25_17 : w24.cell? ⟨gb218, 17, none⟩ = some (.int .i64 a1_17) := (blk_cell BK218.out 17).trans rfl; have hcz25_18 : w24.cell? ⟨gb218, 18, none⟩ = some (.bool a1_18) := (blk_cell BK218.out 18).trans rfl; have hcz25_19 : w24.cell? ⟨gb218, 19, none⟩ = some (.slice A1_19 l1_19.length c1_19) := (blk_cell BK218.out 19).trans rfl; have hcz25_20 : w24.cell? ⟨gb218, 20, none⟩ = some (.bool a1_20) := (blk_cell BK218.out 20).trans rfl; have hcz25_21 : w24.cell? ⟨gb218, 21, none⟩ = some (.int .i64 a1_21) := (blk_cell BK218.out 21).trans rfl; have hcz25_22 : w24.cell? ⟨gb218, 22, none⟩ = some (.slice A1_22 l1_22.length c1_22) := (blk_cell BK218.out 22).trans rfl; have hcz25_23 : w24.cell? ⟨gb218, 23, none⟩ = some (.slice A1_23 l1_23.length c1_23) := (blk_cell BK218.out 23).trans rfl; have hcz25_24 : w24.cell? ⟨gb218, 24, none⟩ = some (.slice A1_24 l1_24.length c1_24) := (blk_cell BK218.out 24).trans rfl; have hfz25_0 := blk_frozen BK218.out 0; have hfz25_1 := blk_frozen BK218.out 1; have hfz25_2 := blk_frozen BK218.out 2; have hfz25_3 := blk_frozen BK218.out 3; have hfz25_4 := blk_frozen BK218.out 4; have hfz25_5 := blk_frozen BK218.out 5; have hfz25_6 := blk_frozen BK218.out 6; have hfz25_7 := blk_frozen BK218.out 7; have hfz25_8 := blk_frozen BK218.out 8; have hfz25_9 := blk_frozen BK218.out 9; have hfz25_10 := blk_frozen BK218.out 10; have hfz25_11 := blk_frozen BK218.out 11; have hfz25_12 := blk_frozen BK218.out 12; have hfz25_13 := blk_frozen BK218.out 13; have hfz25_14 := blk_frozen BK218.out 14; have hfz25_15 := blk_frozen BK218.out 15; have hfz25_16 := blk_frozen BK218.out 16; have hfz25_17 := blk_frozen BK218.out 17; have hfz25_18 := blk_frozen BK218.out 18; have hfz25_19 := blk_frozen BK218.out 19; have hfz25_20 := blk_frozen BK218.out 20; have hfz25_21 := blk_frozen BK218.out 21; have hfz25_22 := blk_frozen BK218.out 22; have hfz25_23 := blk_frozen BK218.out 23; have hfz25_24 := blk_frozen BK218.out 24) | ((with_reducible refine gate_callee (f := 25) rfl ?_); refine goesL_ (some 9) rfl rfl Try.func25 (by kernel_rfl) rfl #[.agg #[.int .i64 a1_0, .bool a1_1, .bool a1_2, .int .i64 a1_3, .int .i64 a1_4, .string a1_5, .string a1_6, .bool a1_7, .int .i64 a1_8, .string a1_9, .bool a1_10, .string a1_11, .bool a1_12, .string a1_13, .bool a1_14, .string a1_15, .string a1_16, .int .i64 a1_17, .bool a1_18, .slice A1_19 l1_19.length c1_19, .bool a1_20, .int .i64 a1_21, .slice A1_22 l1_22.length c1_22, .slice A1_23 l1_23.length c1_23, .slice A1_24 l1_24.length c1_24]] rfl (by (try simp only [List.map_toArray, List.map_cons, List.map_nil]); first | done | rfl | (simp only [List.length_drop, List.length_take]; rfl)) ?_; (with_reducible refine (publish_Alias.calls k a1_0 a1_1 a1_2 a1_3 a1_4 a1_5 a1_6 a1_7 a1_8 a1_9 a1_10 a1_11 a1_12 a1_13 a1_14 a1_15 a1_16 a1_17 a1_18 _ _ l1_19 a1_20 a1_21 _ _ l1_22 _ _ l1_23 _ _ l1_24 t219 t220 _ ?side1 ?side2 ?side3 ?side4 ?side5 ?side6 ?side7 ?side8 A3.out).mono ?_); (case side1 => repeat (first | exact (Kd.C_below HR1_19.out HB.out) | (with_reducible refine Kd.C_alloc ?_ _) | (with_reducible refine Kd.C_drewN ?_ _) | (with_reducible refine Kd.C_drew ?_))); (case side2 => exact HC1_19.out); (case side3 => repeat (first | exact (Kd.C_below HR1_22.out HB.out) | (with_reducible refine Kd.C_alloc ?_ _) | (with_reducible refine Kd.C_drewN ?_ _) | (with_reducible refine Kd.C_drew ?_))); (case side4 => exact HC1_22.out); (case side5 => repeat (first | exact (Kd.C_below HR1_23.out HB.out) | (with_reducible refine Kd.C_alloc ?_ _) | (with_reducible refine Kd.C_drewN ?_ _) | (with_reducible refine Kd.C_drew ?_))); (case side6 => exact HC1_23.out); (case side7 => repeat (first | exact (Kd.C_below HR1_24.out HB.out) | (with_reducible refine Kd.C_alloc ?_ _) | (with_reducible refine Kd.C_drewN ?_ _) | (with_reducible refine Kd.C_drew ?_))); (case side8 => exact HC1_24.out); rintro e w26 ⟨rfl, hb⟩; refine ⟨_, rfl, ?_⟩; have n0_ := Aside0.mk (blk_below (g := gb218) (o := .cells #[.int .i64 a1_0, .bool a1_1, .bool a1_2, .int .i64 a1_3, .int .i64 a1_4, .string a1_5, .string a1_6, .bool a1_7, .int .i64 a1_8, .string a1_9, .bool a1_10, .string a1_11, .bool a1_12, .string a1_13, .bool a1_14, .string a1_15, .string a1_16, .int .i64 a1_17, .bool a1_18, .slice A1_19 l1_19.length c1_19, .bool a1_20, .int .i64 a1_21, .slice A1_22 l1_22.length c1_22, .slice A1_23 l1_23.length c1_23, .slice A1_24 l1_24.length c1_24] 48 (0, 0)) (by (with_reducible repeat (first | refine blk_drewN ?_ _ | refine blk_drew ?_ | refine blk_alloc ?_ _)); exact BK218.out) hb); have n1_ := Aside0.mk (below_step (by repeat (first | (with_reducible first | exact HB.out | apply below_alloc | apply pw_below_drewN | apply below_drew1 | refine below_set ?_ GE218.out) | exact HB.out)) hb); clear BK218; clear HB; have BK218 := n0_; have HB := n1_; clear n0_ n1_; (try clear hb); (try clear hb2); (try clear hk); (try clear hi); have hcz27_0 : w26.cell? ⟨gb218, 0, none⟩ = some (.int .i64 a1_0) := (blk_cell BK218.out 0).trans rfl; have hcz27_1 : w26.cell? ⟨gb218, 1, none⟩ = some (.bool a1_1) := (blk_cell BK218.out 1).trans rfl; have hcz27_2 : w26.cell? ⟨gb218, 2, none⟩ = some (.bool a1_2) := (blk_cell BK218.out 2).trans rfl; have hcz27_3 : w26.cell? ⟨gb218, 3, none⟩ = some (.int .i64 a1_3) := (blk_cell BK218.out 3).trans rfl; have hcz27_4 : w26.cell? ⟨gb218, 4, none⟩ = some (.int .i64 a1_4) := (blk_cell BK218.out 4).trans rfl; have hcz27_5 : w26.cell? ⟨gb218, 5, none⟩ = some (.string a1_5) := (blk_cell BK218.out 5).trans rfl; have hcz27_6 : w26.cell? ⟨gb218, 6, none⟩ = some (.string a1_6) := (blk_cell BK218.out 6).trans rfl; have hcz27_7 : w26.cell? ⟨gb218, 7, none⟩ = some (.bool a1_7) := (blk_cell BK218.out 7).trans rfl; have hcz27_8 : w26.cell? ⟨gb218, 8, none⟩ = some (.int .i64 a1_8) := (blk_cell BK218.out 8).trans rfl; have hcz27_9 : w26.cell? ⟨gb218, 9, none⟩ = some (.string a1_9) := (blk_cell BK218.out 9).trans rfl; have hcz27_10 : w26.cell? ⟨gb218, 10, none⟩ = some (.bool a1_10) := (blk_cell BK218.out 10).trans rfl; have hcz27_11 : w26.cell? ⟨gb218, 11, none⟩ = some (.string a1_11) := (blk_cell BK218.out 11).trans rfl; have hcz27_12 : w26.cell? ⟨gb218, 12, none⟩ = some (.bool a1_12) := (blk_cell BK218.out 12).trans rfl; have hcz27_13 : w26.cell? ⟨gb218, 13, none⟩ = some (.string a1_13) := (blk_cell BK218.out 13).trans rfl; have hcz27_14 : w26.cell? ⟨gb218, 14, none⟩ = some (.bool a1_14) := (blk_cell BK218.out 14).trans rfl; have hcz27_15 : w26.cell? ⟨gb218, 15, none⟩ = some (.string a1_15) := (blk_cell BK218.out 15).trans rfl; have hcz27_16 : w26.cell? ⟨gb218, 16, none⟩ = some (.string a1_16) := (blk_cell BK218.out 16).trans rfl; have hcz27_17 : w26.cell? ⟨gb218, 17, none⟩ = some (.int .i64 a1_17) := (blk_cell BK218.out 17).trans rfl; have hcz27_18 : w26.cell? ⟨gb218, 18, none⟩ = some (.bool a1_18) := (blk_cell BK218.out 18).trans rfl; have hcz27_19 : w26.cell? ⟨gb218, 19, none⟩ = some (.slice A1_19 l1_19.length c1_19) := (blk_cell BK218.out 19).trans rfl; have hcz27_20 : w26.cell? ⟨gb218, 20, none⟩ = some (.bool a1_20) := (blk_cell BK218.out 20).trans rfl; have hcz27_21 : w26.cell? ⟨gb218, 21, none⟩ = some (.int .i64 a1_21) := (blk_cell BK218.out 21).trans rfl; have hcz27_22 : w26.cell? ⟨gb218, 22, none⟩ = some (.slice A1_22 l1_22.length c1_22) := (blk_cell BK218.out 22).trans rfl; have hcz27_23 : w26.cell? ⟨gb218, 23, none⟩ = some (.slice A1_23 l1_23.length c1_23) := (blk_cell BK218.out 23).trans rfl; have hcz27_24 : w26.cell? ⟨gb218, 24, none⟩ = some (.slice A1_24 l1_24.length c1_24) := (blk_cell BK218.out 24).trans rfl; have hfz27_0 := blk_frozen BK218.out 0; have hfz27_1 := blk_frozen BK218.out 1; have hfz27_2 := blk_frozen BK218.out 2; have hfz27_3 := blk_frozen BK218.out 3; have hfz27_4 := blk_frozen BK218.out 4; have hfz27_5 := blk_frozen BK218.out 5; have hfz27_6 := blk_frozen BK218.out 6; have hfz27_7 := blk_frozen BK218.out 7; have hfz27_8 := blk_frozen BK218.out 8; have hfz27_9 := blk_frozen BK218.out 9; have hfz27_10 := blk_frozen BK218.out 10; have hfz27_11 := blk_frozen BK218.out 11; have hfz27_12 := blk_frozen BK218.out 12; have hfz27_13 := blk_frozen BK218.out 13; have hfz27_14 := blk_frozen BK218.out 14; have hfz27_15 := blk_frozen BK218.out 15; have hfz27_16 := blk_frozen BK218.out 16; have hfz27_17 := blk_frozen BK218.out 17; have hfz27_18 := blk_frozen BK218.out 18; have hfz27_19 := blk_frozen BK218.out 19; have hfz27_20 := blk_frozen BK218.out 20; have hfz27_21 := blk_frozen BK218.out 21; have hfz27_22 := blk_frozen BK218.out 22; have hfz27_23 := blk_frozen BK218.out 23; have hfz27_24 := blk_frozen BK218.out 24) | ((with_reducible refine gate_callee (f := 63) rfl ?_); refine goesL_ (some 14) rfl rfl Try.func63 (by kernel_rfl) rfl #[.string a1_5] rfl (by (try simp only [List.map_toArray, List.map_cons, List.map_nil]); first | done | rfl | (simp only [List.length_drop, List.length_take]; rfl)) ?_; (with_reducible refine (topic_Name.calls a1_5 false _ A4.out).mono ?_); rintro e w28 ⟨rfl, hb⟩; refine ⟨_, rfl, ?_⟩; have n0_ := Aside0.mk (blk_below (g := gb218) (o := .cells #[.int .i64 a1_0, .bool a1_1, .bool a1_2, .int .i64 a1_3, .int .i64 a1_4, .string a1_5, .string a1_6, .bool a1_7, .int .i64 a1_8, .string a1_9, .bool a1_10, .string a1_11, .bool a1_12, .string a1_13, .bool a1_14, .string a1_15, .string a1_16, .int .i64 a1_17, .bool a1_18, .slice A1_19 l1_19.length c1_19, .bool a1_20, .int .i64 a1_21, .slice A1_22 l1_22.length c1_22, .slice A1_23 l1_23.length c1_23, .slice A1_24 l1_24.length c1_24] 48 (0, 0)) (by (with_reducible repeat (first | refine blk_drewN ?_ _ | refine blk_drew ?_ | refine blk_alloc ?_ _)); exact BK218.out) hb); have n1_ := Aside0.mk (below_step (by repeat (first | (with_reducible first | exact HB.out | apply below_alloc | apply pw_below_drewN | apply below_drew1 | refine below_set ?_ GE218.out) | exact HB.out)) hb); clear BK218; clear HB; have BK218 := n0_; have HB := n1_; clear n0_ n1_; (try clear hb); (try clear hb2); (try clear hk); (try clear hi)))
      go_ret
      exact ⟨by first | rfl | (simp [errW_none, errW_some] <;> rfl) | (simp [*, errW_none, errW_some] <;> rfl), by repeat (first | (with_reducible first | exact HB.out | apply below_alloc | apply pw_below_drewN | apply below_drew1 | refine below_set ?_ GE218.out) | exact HB.out)⟩

end Go.Proofs.Ytngmipfobcaojaa.HA
end

-- YtngmipfobcaojaaHA39
section
namespace Go.Proofs.Ytngmipfobcaojaa.HA
open Go.RowKit Go.Proofs.YtngmipfobcaojaaW.PrintWords Go.Proofs.YtngmipfobcaojaaW.PrintLast Go.Proofs.YtngmipfobcaojaaW.PrintMore
attribute [local go_sem] max2_int min2_int max_two min_two max_three min_three max_four min_four

def publish_when.f (a0 : Bool) (a1 : Int) : Option (Int) := if a0 = true then (some a1) else (some 0)
set_option maxHeartbeats 8000000 in
set_option maxRecDepth 100000 in
theorem publish_when.calls (a0 : Bool) (a1 : Int) (r : Int) (w : World) (h : publish_when.f a0 a1 = some r) :
    Calls Try.prog 46 #[.bool a0, .int .i64 a1] w fun e w' => e = .returned (.int .i64 r) ∧ Drawn0 w w' := by
  have H : (if a0 = true then (some a1) else (some 0)) = some r := h
  clear h
  by_cases c3 : a0 = true
  · subst c3
    have H1 : (some a1) = some r := by rw [if_pos rfl] at H; exact H
    clear H
    have H := H1
    clear H1
    obtain rfl := Option.some.inj H
    go_enter Try.func46, Try.ntmps46
    go_wp2
    go_ret
    exact ⟨by first | rfl | (simp; done) | (simp [*]; done) | (simp; exact bne_nil_isEmpty _) | exact bne_nil_isEmpty _ | (simp; exact (bne_nil_isEmpty _).symm) | (simp; exact bne_nil_isEmpty' _), by repeat (first | exact Drawn0.refl _ | apply Drawn0.step)⟩
  · replace c3 := Bool.eq_false_iff.mpr c3
    subst c3
    have H1 : (some 0) = some r := by rw [if_neg (show ¬ (false = true) by decide)] at H; exact H
    clear H
    have H := H1
    clear H1
    obtain rfl := Option.some.inj H
    go_enter Try.func46, Try.ntmps46
    go_wp2
    go_ret
    exact ⟨by first | rfl | (simp; done) | (simp [*]; done) | (simp; exact bne_nil_isEmpty _) | exact bne_nil_isEmpty _ | (simp; exact (bne_nil_isEmpty _).symm) | (simp; exact bne_nil_isEmpty' _), by repeat (first | exact Drawn0.refl _ | apply Drawn0.step)⟩

end Go.Proofs.Ytngmipfobcaojaa.HA
end

-- YtngmipfobcaojaaHA40
section
namespace Go.Proofs.Ytngmipfobcaojaa.HA
open Go.RowKit Go.Proofs.YtngmipfobcaojaaW.PrintWords Go.Proofs.YtngmipfobcaojaaW.PrintLast Go.Proofs.YtngmipfobcaojaaW.PrintMore
attribute [local go_sem] max2_int min2_int max_two min_two max_three min_three max_four min_four

def publish_known.f (a0 : Int) : Option (Bool) := if a0 = 4 then (some true) else (some (a0 == 5))
set_option maxHeartbeats 8000000 in
set_option maxRecDepth 100000 in
theorem publish_known.calls (a0 : Int) (r : Bool) (w : World) (h : publish_known.f a0 = some r) :
    Calls Try.prog 47 #[.int .i64 a0] w fun e w' => e = .returned (.bool r) ∧ Drawn0 w w' := by
  have H : (if a0 = 4 then (some true) else (some (a0 == 5))) = some r := h
  clear h
  by_cases c2 : a0 = 4
  · rw [if_pos c2] at H
    have c2b0 : (a0 == 4) = true := beq_iff_eq.mpr c2
    have c2b1 : (a0 != 4) = false := bne_eq_false_iff_eq.mpr c2
    clear c2
    obtain rfl := Option.some.inj H
    go_enter Try.func47, Try.ntmps47
    go_wp2
    go_ret
    exact ⟨by first | rfl | (simp; done) | (simp [*]; done) | (simp; exact bne_nil_isEmpty _) | exact bne_nil_isEmpty _ | (simp; exact (bne_nil_isEmpty _).symm) | (simp; exact bne_nil_isEmpty' _), by repeat (first | exact Drawn0.refl _ | apply Drawn0.step)⟩
  · rw [if_neg c2] at H
    have c2b0 : (a0 == 4) = false := beq_eq_false_iff_ne.mpr c2
    have c2b1 : (a0 != 4) = true := bne_iff_ne.mpr c2
    obtain rfl := Option.some.inj H
    go_enter Try.func47, Try.ntmps47
    go_wp2
    go_ret
    exact ⟨by first | rfl | (simp; done) | (simp [*]; done) | (simp; exact bne_nil_isEmpty _) | exact bne_nil_isEmpty _ | (simp; exact (bne_nil_isEmpty _).symm) | (simp; exact bne_nil_isEmpty' _), by repeat (first | exact Drawn0.refl _ | apply Drawn0.step)⟩

end Go.Proofs.Ytngmipfobcaojaa.HA
end

-- YtngmipfobcaojaaHA41
section
namespace Go.Proofs.Ytngmipfobcaojaa.HA
open Go.RowKit Go.Proofs.YtngmipfobcaojaaW.PrintWords Go.Proofs.YtngmipfobcaojaaW.PrintLast Go.Proofs.YtngmipfobcaojaaW.PrintMore
attribute [local go_sem] max2_int min2_int max_two min_two max_three min_three max_four min_four

def head_known.f (a0 : Int) : Option (Bool) := if a0 = 4 then (some true) else (some (a0 == 5))
set_option maxHeartbeats 8000000 in
set_option maxRecDepth 100000 in
theorem head_known.calls (a0 : Int) (r : Bool) (w : World) (h : head_known.f a0 = some r) :
    Calls Try.prog 67 #[.int .i64 a0] w fun e w' => e = .returned (.bool r) ∧ Drawn0 w w' := by
  have H : (if a0 = 4 then (some true) else (some (a0 == 5))) = some r := h
  clear h
  by_cases c2 : a0 = 4
  · rw [if_pos c2] at H
    have c2b0 : (a0 == 4) = true := beq_iff_eq.mpr c2
    have c2b1 : (a0 != 4) = false := bne_eq_false_iff_eq.mpr c2
    clear c2
    obtain rfl := Option.some.inj H
    go_enter Try.func67, Try.ntmps67
    go_wp2
    go_ret
    exact ⟨by first | rfl | (simp; done) | (simp [*]; done) | (simp; exact bne_nil_isEmpty _) | exact bne_nil_isEmpty _ | (simp; exact (bne_nil_isEmpty _).symm) | (simp; exact bne_nil_isEmpty' _), by repeat (first | exact Drawn0.refl _ | apply Drawn0.step)⟩
  · rw [if_neg c2] at H
    have c2b0 : (a0 == 4) = false := beq_eq_false_iff_ne.mpr c2
    have c2b1 : (a0 != 4) = true := bne_iff_ne.mpr c2
    obtain rfl := Option.some.inj H
    go_enter Try.func67, Try.ntmps67
    go_wp2
    go_ret
    exact ⟨by first | rfl | (simp; done) | (simp [*]; done) | (simp; exact bne_nil_isEmpty _) | exact bne_nil_isEmpty _ | (simp; exact (bne_nil_isEmpty _).symm) | (simp; exact bne_nil_isEmpty' _), by repeat (first | exact Drawn0.refl _ | apply Drawn0.step)⟩

end Go.Proofs.Ytngmipfobcaojaa.HA
end

-- YtngmipfobcaojaaHA42
section
namespace Go.Proofs.Ytngmipfobcaojaa.HA
open Go.RowKit Go.Proofs.YtngmipfobcaojaaW.PrintWords Go.Proofs.YtngmipfobcaojaaW.PrintLast Go.Proofs.YtngmipfobcaojaaW.PrintMore
attribute [local go_sem] max2_int min2_int max_two min_two max_three min_three max_four min_four

def head_kinds.f (a0 : Int) (a1 : Int) : Option (Bool) := if a0 = 5 then (if a1 ≥ 1 then (some (decide (a1 ≤ 15))) else (some false)) else (if a1 ≥ 1 then (some (decide (a1 ≤ 14))) else (some false))
set_option maxHeartbeats 8000000 in
set_option maxRecDepth 100000 in
theorem head_kinds.calls (a0 : Int) (a1 : Int) (r : Bool) (w : World) (h : head_kinds.f a0 a1 = some r) :
    Calls Try.prog 68 #[.int .i64 a0, .int .i64 a1] w fun e w' => e = .returned (.bool r) ∧ Drawn0 w w' := by
  have H : (if a0 = 5 then (if a1 ≥ 1 then (some (decide (a1 ≤ 15))) else (some false)) else (if a1 ≥ 1 then (some (decide (a1 ≤ 14))) else (some false))) = some r := h
  clear h
  by_cases c3 : a0 = 5
  · rw [if_pos c3] at H
    have c3b0 : (a0 == 5) = true := beq_iff_eq.mpr c3
    have c3b1 : (a0 != 5) = false := bne_eq_false_iff_eq.mpr c3
    clear c3
    by_cases c4 : a1 ≥ 1
    · rw [if_pos c4] at H
      have c4b0 : decide (1 ≤ a1) = true := decide_eq_true c4
      clear c4
      obtain rfl := Option.some.inj H
      go_enter Try.func68, Try.ntmps68
      go_wp2
      go_ret
      exact ⟨by first | rfl | (simp; done) | (simp [*]; done) | (simp; exact bne_nil_isEmpty _) | exact bne_nil_isEmpty _ | (simp; exact (bne_nil_isEmpty _).symm) | (simp; exact bne_nil_isEmpty' _), by repeat (first | exact Drawn0.refl _ | apply Drawn0.step)⟩
    · rw [if_neg c4] at H
      have c4b0 : decide (1 ≤ a1) = false := decide_eq_false c4
      clear c4
      obtain rfl := Option.some.inj H
      go_enter Try.func68, Try.ntmps68
      go_wp2
      go_ret
      exact ⟨by first | rfl | (simp; done) | (simp [*]; done) | (simp; exact bne_nil_isEmpty _) | exact bne_nil_isEmpty _ | (simp; exact (bne_nil_isEmpty _).symm) | (simp; exact bne_nil_isEmpty' _), by repeat (first | exact Drawn0.refl _ | apply Drawn0.step)⟩
  · rw [if_neg c3] at H
    have c3b0 : (a0 == 5) = false := beq_eq_false_iff_ne.mpr c3
    have c3b1 : (a0 != 5) = true := bne_iff_ne.mpr c3
    by_cases c5 : a1 ≥ 1
    · rw [if_pos c5] at H
      have c5b0 : decide (1 ≤ a1) = true := decide_eq_true c5
      clear c5
      obtain rfl := Option.some.inj H
      go_enter Try.func68, Try.ntmps68
      go_wp2
      go_ret
      exact ⟨by first | rfl | (simp; done) | (simp [*]; done) | (simp; exact bne_nil_isEmpty _) | exact bne_nil_isEmpty _ | (simp; exact (bne_nil_isEmpty _).symm) | (simp; exact bne_nil_isEmpty' _), by repeat (first | exact Drawn0.refl _ | apply Drawn0.step)⟩
    · rw [if_neg c5] at H
      have c5b0 : decide (1 ≤ a1) = false := decide_eq_false c5
      clear c5
      obtain rfl := Option.some.inj H
      go_enter Try.func68, Try.ntmps68
      go_wp2
      go_ret
      exact ⟨by first | rfl | (simp; done) | (simp [*]; done) | (simp; exact bne_nil_isEmpty _) | exact bne_nil_isEmpty _ | (simp; exact (bne_nil_isEmpty _).symm) | (simp; exact bne_nil_isEmpty' _), by repeat (first | exact Drawn0.refl _ | apply Drawn0.step)⟩

end Go.Proofs.Ytngmipfobcaojaa.HA
end

-- YtngmipfobcaojaaHA43
section
namespace Go.Proofs.Ytngmipfobcaojaa.HA
open Go.RowKit Go.Proofs.YtngmipfobcaojaaW.PrintWords Go.Proofs.YtngmipfobcaojaaW.PrintLast Go.Proofs.YtngmipfobcaojaaW.PrintMore
attribute [local go_sem] max2_int min2_int max_two min_two max_three min_three max_four min_four

def head_fixed.f (a0 : Int) : Option (Int) := if a0 = 6 then (some 2) else (if a0 = 8 then (some 2) else (if a0 = 10 then (some 2) else (some 0)))
set_option maxHeartbeats 8000000 in
set_option maxRecDepth 100000 in
theorem head_fixed.calls (a0 : Int) (r : Int) (w : World) (h : head_fixed.f a0 = some r) :
    Calls Try.prog 69 #[.int .i64 a0] w fun e w' => e = .returned (.int .i64 r) ∧ Drawn0 w w' := by
  have H : (if a0 = 6 then (some 2) else (if a0 = 8 then (some 2) else (if a0 = 10 then (some 2) else (some 0)))) = some r := h
  clear h
  by_cases c2 : a0 = 6
  · rw [if_pos c2] at H
    have c2b0 : (a0 == 6) = true := beq_iff_eq.mpr c2
    have c2b1 : (a0 != 6) = false := bne_eq_false_iff_eq.mpr c2
    clear c2
    obtain rfl := Option.some.inj H
    go_enter Try.func69, Try.ntmps69
    go_wp2
    go_ret
    exact ⟨by first | rfl | (simp; done) | (simp [*]; done) | (simp; exact bne_nil_isEmpty _) | exact bne_nil_isEmpty _ | (simp; exact (bne_nil_isEmpty _).symm) | (simp; exact bne_nil_isEmpty' _), by repeat (first | exact Drawn0.refl _ | apply Drawn0.step)⟩
  · rw [if_neg c2] at H
    have c2b0 : (a0 == 6) = false := beq_eq_false_iff_ne.mpr c2
    have c2b1 : (a0 != 6) = true := bne_iff_ne.mpr c2
    by_cases c3 : a0 = 8
    · rw [if_pos c3] at H
      have c3b0 : (a0 == 8) = true := beq_iff_eq.mpr c3
      have c3b1 : (a0 != 8) = false := bne_eq_false_iff_eq.mpr c3
      clear c3
      obtain rfl := Option.some.inj H
      go_enter Try.func69, Try.ntmps69
      go_wp2
      go_ret
      exact ⟨by first | rfl | (simp; done) | (simp [*]; done) | (simp; exact bne_nil_isEmpty _) | exact bne_nil_isEmpty _ | (simp; exact (bne_nil_isEmpty _).symm) | (simp; exact bne_nil_isEmpty' _), by repeat (first | exact Drawn0.refl _ | apply Drawn0.step)⟩
    · rw [if_neg c3] at H
      have c3b0 : (a0 == 8) = false := beq_eq_false_iff_ne.mpr c3
      have c3b1 : (a0 != 8) = true := bne_iff_ne.mpr c3
      by_cases c4 : a0 = 10
      · rw [if_pos c4] at H
        have c4b0 : (a0 == 10) = true := beq_iff_eq.mpr c4
        have c4b1 : (a0 != 10) = false := bne_eq_false_iff_eq.mpr c4
        clear c4
        obtain rfl := Option.some.inj H
        go_enter Try.func69, Try.ntmps69
        go_wp2
        go_ret
        exact ⟨by first | rfl | (simp; done) | (simp [*]; done) | (simp; exact bne_nil_isEmpty _) | exact bne_nil_isEmpty _ | (simp; exact (bne_nil_isEmpty _).symm) | (simp; exact bne_nil_isEmpty' _), by repeat (first | exact Drawn0.refl _ | apply Drawn0.step)⟩
      · rw [if_neg c4] at H
        have c4b0 : (a0 == 10) = false := beq_eq_false_iff_ne.mpr c4
        have c4b1 : (a0 != 10) = true := bne_iff_ne.mpr c4
        obtain rfl := Option.some.inj H
        go_enter Try.func69, Try.ntmps69
        go_wp2
        go_ret
        exact ⟨by first | rfl | (simp; done) | (simp [*]; done) | (simp; exact bne_nil_isEmpty _) | exact bne_nil_isEmpty _ | (simp; exact (bne_nil_isEmpty _).symm) | (simp; exact bne_nil_isEmpty' _), by repeat (first | exact Drawn0.refl _ | apply Drawn0.step)⟩

end Go.Proofs.Ytngmipfobcaojaa.HA
end

-- YtngmipfobcaojaaHA44
section
namespace Go.Proofs.Ytngmipfobcaojaa.HA
open Go.RowKit Go.Proofs.YtngmipfobcaojaaW.PrintWords Go.Proofs.YtngmipfobcaojaaW.PrintLast Go.Proofs.YtngmipfobcaojaaW.PrintMore
attribute [local go_sem] max2_int min2_int max_two min_two max_three min_three max_four min_four

def head_Flags.j0 : Nat → Bool → Int → Bool → Bool → Int → Int → ByteArray → ByteArray → Bool → Int → ByteArray → Bool → ByteArray → Bool → ByteArray → Bool → ByteArray → ByteArray → Int → Bool → List (S27) → Bool → Int → List Int → List (S119) → List (S27) → Option (Int × Int)
  | 0, _, _, _, _, _, _, _, _, _, _, _, _, _, _, _, _, _, _, _, _, _, _, _, _, _, _ => none
  | k + 1, x37, x144000, x144001, x144002, x144003, x144004, x144005, x144006, x144007, x144008, x144009, x144010, x144011, x144012, x144013, x144014, x144015, x144016, x144017, x144018, x144019, x144020, x144021, x144022, x144023, x144024 => if x37 = true then (some (0, 7)) else (if x144002 = true then (if x144001 = true then (some (Go.bits .or .i64 (Go.bits .or .i64 (wrap64 (x144003 * 2)) 1) 8, 0)) else (some (Go.bits .or .i64 (wrap64 (x144003 * 2)) 1, 0))) else (if x144001 = true then (some (Go.bits .or .i64 (wrap64 (x144003 * 2)) 8, 0)) else (some (wrap64 (x144003 * 2), 0))))
def head_Flags.f (k : Nat) (a0 : Int) (a1_0 : Int) (a1_1 : Bool) (a1_2 : Bool) (a1_3 : Int) (a1_4 : Int) (a1_5 : ByteArray) (a1_6 : ByteArray) (a1_7 : Bool) (a1_8 : Int) (a1_9 : ByteArray) (a1_10 : Bool) (a1_11 : ByteArray) (a1_12 : Bool) (a1_13 : ByteArray) (a1_14 : Bool) (a1_15 : ByteArray) (a1_16 : ByteArray) (a1_17 : Int) (a1_18 : Bool) (l1_19 : List (S27)) (a1_20 : Bool) (a1_21 : Int) (l1_22 : List Int) (l1_23 : List (S119)) (l1_24 : List (S27)) : Option (Int × Int) := (head_known.f a0).bind fun t144 => (if t144 = true then ((head_kinds.f a0 a1_0).bind fun t145 => (if t145 = true then (if a1_0 = 3 then (if a1_3 < 0 then (head_Flags.j0 k true a1_0 a1_1 a1_2 a1_3 a1_4 a1_5 a1_6 a1_7 a1_8 a1_9 a1_10 a1_11 a1_12 a1_13 a1_14 a1_15 a1_16 a1_17 a1_18 l1_19 a1_20 a1_21 l1_22 l1_23 l1_24) else (if a1_3 > 2 then (head_Flags.j0 k true a1_0 a1_1 a1_2 a1_3 a1_4 a1_5 a1_6 a1_7 a1_8 a1_9 a1_10 a1_11 a1_12 a1_13 a1_14 a1_15 a1_16 a1_17 a1_18 l1_19 a1_20 a1_21 l1_22 l1_23 l1_24) else (if a1_3 = 0 then (head_Flags.j0 k a1_1 a1_0 a1_1 a1_2 a1_3 a1_4 a1_5 a1_6 a1_7 a1_8 a1_9 a1_10 a1_11 a1_12 a1_13 a1_14 a1_15 a1_16 a1_17 a1_18 l1_19 a1_20 a1_21 l1_22 l1_23 l1_24) else (head_Flags.j0 k false a1_0 a1_1 a1_2 a1_3 a1_4 a1_5 a1_6 a1_7 a1_8 a1_9 a1_10 a1_11 a1_12 a1_13 a1_14 a1_15 a1_16 a1_17 a1_18 l1_19 a1_20 a1_21 l1_22 l1_23 l1_24)))) else ((head_fixed.f a1_0).bind fun t146 => (some (t146, 0)))) else (some (0, 8)))) else (some (0, 2)))
set_option maxHeartbeats 8000000 in
set_option maxRecDepth 100000 in
theorem head_Flags.calls (k : Nat) (a0 : Int) (a1_0 : Int) (a1_1 : Bool) (a1_2 : Bool) (a1_3 : Int) (a1_4 : Int) (a1_5 : ByteArray) (a1_6 : ByteArray) (a1_7 : Bool) (a1_8 : Int) (a1_9 : ByteArray) (a1_10 : Bool) (a1_11 : ByteArray) (a1_12 : Bool) (a1_13 : ByteArray) (a1_14 : Bool) (a1_15 : ByteArray) (a1_16 : ByteArray) (a1_17 : Int) (a1_18 : Bool) (A1_19 : Option Addr) (c1_19 : Nat) (l1_19 : List (S27)) (a1_20 : Bool) (a1_21 : Int) (A1_22 : Option Addr) (c1_22 : Nat) (l1_22 : List Int) (A1_23 : Option Addr) (c1_23 : Nat) (l1_23 : List (S119)) (A1_24 : Option Addr) (c1_24 : Nat) (l1_24 : List (S27)) (r1 : Int) (r2 : Int) (w : World) (hr1_19 : Kd.C k27 w A1_19 l1_19.length l1_19) (hc1_19 : l1_19.length ≤ c1_19) (hr1_22 : Kd.C (Kd.int .i64) w A1_22 l1_22.length l1_22) (hc1_22 : l1_22.length ≤ c1_22) (hr1_23 : Kd.C k119 w A1_23 l1_23.length l1_23) (hc1_23 : l1_23.length ≤ c1_23) (hr1_24 : Kd.C k27 w A1_24 l1_24.length l1_24) (hc1_24 : l1_24.length ≤ c1_24) (h : head_Flags.f k a0 a1_0 a1_1 a1_2 a1_3 a1_4 a1_5 a1_6 a1_7 a1_8 a1_9 a1_10 a1_11 a1_12 a1_13 a1_14 a1_15 a1_16 a1_17 a1_18 l1_19 a1_20 a1_21 l1_22 l1_23 l1_24 = some (r1, r2)) :
    Calls Try.prog 49 #[.int .i64 a0, .agg #[.int .i64 a1_0, .bool a1_1, .bool a1_2, .int .i64 a1_3, .int .i64 a1_4, .string a1_5, .string a1_6, .bool a1_7, .int .i64 a1_8, .string a1_9, .bool a1_10, .string a1_11, .bool a1_12, .string a1_13, .bool a1_14, .string a1_15, .string a1_16, .int .i64 a1_17, .bool a1_18, .slice A1_19 l1_19.length c1_19, .bool a1_20, .int .i64 a1_21, .slice A1_22 l1_22.length c1_22, .slice A1_23 l1_23.length c1_23, .slice A1_24 l1_24.length c1_24]] w fun e w' => e = .returned (.tuple #[.int .i64 r1, .int .i64 r2]) ∧ Below w.heap.size w w' := by
  have hu48 := Try.underlying48
  have HR1_19 := Aside0.mk hr1_19
  have HC1_19 := Aside0.mk hc1_19
  clear hr1_19 hc1_19
  have HR1_22 := Aside0.mk hr1_22
  have HC1_22 := Aside0.mk hc1_22
  clear hr1_22 hc1_22
  have HR1_23 := Aside0.mk hr1_23
  have HC1_23 := Aside0.mk hc1_23
  clear hr1_23 hc1_23
  have HR1_24 := Aside0.mk hr1_24
  have HC1_24 := Aside0.mk hc1_24
  clear hr1_24 hc1_24
  have HB := Aside0.mk (Below.refl w.heap.size w)
  have H : ((head_known.f a0).bind fun t144 => (if t144 = true then ((head_kinds.f a0 a1_0).bind fun t145 => (if t145 = true then (if a1_0 = 3 then (if a1_3 < 0 then (head_Flags.j0 k true a1_0 a1_1 a1_2 a1_3 a1_4 a1_5 a1_6 a1_7 a1_8 a1_9 a1_10 a1_11 a1_12 a1_13 a1_14 a1_15 a1_16 a1_17 a1_18 l1_19 a1_20 a1_21 l1_22 l1_23 l1_24) else (if a1_3 > 2 then (head_Flags.j0 k true a1_0 a1_1 a1_2 a1_3 a1_4 a1_5 a1_6 a1_7 a1_8 a1_9 a1_10 a1_11 a1_12 a1_13 a1_14 a1_15 a1_16 a1_17 a1_18 l1_19 a1_20 a1_21 l1_22 l1_23 l1_24) else (if a1_3 = 0 then (head_Flags.j0 k a1_1 a1_0 a1_1 a1_2 a1_3 a1_4 a1_5 a1_6 a1_7 a1_8 a1_9 a1_10 a1_11 a1_12 a1_13 a1_14 a1_15 a1_16 a1_17 a1_18 l1_19 a1_20 a1_21 l1_22 l1_23 l1_24) else (head_Flags.j0 k false a1_0 a1_1 a1_2 a1_3 a1_4 a1_5 a1_6 a1_7 a1_8 a1_9 a1_10 a1_11 a1_12 a1_13 a1_14 a1_15 a1_16 a1_17 a1_18 l1_19 a1_20 a1_21 l1_22 l1_23 l1_24)))) else ((head_fixed.f a1_0).bind fun t146 => (some (t146, 0)))) else (some (0, 8)))) else (some (0, 2)))) = some (r1, r2) := h
  clear h
  replace H := Option.bind_eq_some_iff.mp H
  obtain ⟨t144, A30, H⟩ := H
  replace H : (if t144 = true then ((head_kinds.f a0 a1_0).bind fun t145 => (if t145 = true then (if a1_0 = 3 then (if a1_3 < 0 then (head_Flags.j0 k true a1_0 a1_1 a1_2 a1_3 a1_4 a1_5 a1_6 a1_7 a1_8 a1_9 a1_10 a1_11 a1_12 a1_13 a1_14 a1_15 a1_16 a1_17 a1_18 l1_19 a1_20 a1_21 l1_22 l1_23 l1_24) else (if a1_3 > 2 then (head_Flags.j0 k true a1_0 a1_1 a1_2 a1_3 a1_4 a1_5 a1_6 a1_7 a1_8 a1_9 a1_10 a1_11 a1_12 a1_13 a1_14 a1_15 a1_16 a1_17 a1_18 l1_19 a1_20 a1_21 l1_22 l1_23 l1_24) else (if a1_3 = 0 then (head_Flags.j0 k a1_1 a1_0 a1_1 a1_2 a1_3 a1_4 a1_5 a1_6 a1_7 a1_8 a1_9 a1_10 a1_11 a1_12 a1_13 a1_14 a1_15 a1_16 a1_17 a1_18 l1_19 a1_20 a1_21 l1_22 l1_23 l1_24) else (head_Flags.j0 k false a1_0 a1_1 a1_2 a1_3 a1_4 a1_5 a1_6 a1_7 a1_8 a1_9 a1_10 a1_11 a1_12 a1_13 a1_14 a1_15 a1_16 a1_17 a1_18 l1_19 a1_20 a1_21 l1_22 l1_23 l1_24)))) else ((head_fixed.f a1_0).bind fun t146 => (some (t146, 0)))) else (some (0, 8)))) else (some (0, 2))) = some (r1, r2) := H
  have A3 := Aside0.mk A30
  clear A30
  by_cases c4 : t144 = true
  · subst c4
    have H1 : ((head_kinds.f a0 a1_0).bind fun t145 => (if t145 = true then (if a1_0 = 3 then (if a1_3 < 0 then (head_Flags.j0 k true a1_0 a1_1 a1_2 a1_3 a1_4 a1_5 a1_6 a1_7 a1_8 a1_9 a1_10 a1_11 a1_12 a1_13 a1_14 a1_15 a1_16 a1_17 a1_18 l1_19 a1_20 a1_21 l1_22 l1_23 l1_24) else (if a1_3 > 2 then (head_Flags.j0 k true a1_0 a1_1 a1_2 a1_3 a1_4 a1_5 a1_6 a1_7 a1_8 a1_9 a1_10 a1_11 a1_12 a1_13 a1_14 a1_15 a1_16 a1_17 a1_18 l1_19 a1_20 a1_21 l1_22 l1_23 l1_24) else (if a1_3 = 0 then (head_Flags.j0 k a1_1 a1_0 a1_1 a1_2 a1_3 a1_4 a1_5 a1_6 a1_7 a1_8 a1_9 a1_10 a1_11 a1_12 a1_13 a1_14 a1_15 a1_16 a1_17 a1_18 l1_19 a1_20 a1_21 l1_22 l1_23 l1_24) else (head_Flags.j0 k false a1_0 a1_1 a1_2 a1_3 a1_4 a1_5 a1_6 a1_7 a1_8 a1_9 a1_10 a1_11 a1_12 a1_13 a1_14 a1_15 a1_16 a1_17 a1_18 l1_19 a1_20 a1_21 l1_22 l1_23 l1_24)))) else ((head_fixed.f a1_0).bind fun t146 => (some (t146, 0)))) else (some (0, 8)))) = some (r1, r2) := by rw [if_pos rfl] at H; exact H
    clear H
    have H := H1
    clear H1
    replace H := Option.bind_eq_some_iff.mp H
    obtain ⟨t145, A50, H⟩ := H
    replace H : (if t145 = true then (if a1_0 = 3 then (if a1_3 < 0 then (head_Flags.j0 k true a1_0 a1_1 a1_2 a1_3 a1_4 a1_5 a1_6 a1_7 a1_8 a1_9 a1_10 a1_11 a1_12 a1_13 a1_14 a1_15 a1_16 a1_17 a1_18 l1_19 a1_20 a1_21 l1_22 l1_23 l1_24) else (if a1_3 > 2 then (head_Flags.j0 k true a1_0 a1_1 a1_2 a1_3 a1_4 a1_5 a1_6 a1_7 a1_8 a1_9 a1_10 a1_11 a1_12 a1_13 a1_14 a1_15 a1_16 a1_17 a1_18 l1_19 a1_20 a1_21 l1_22 l1_23 l1_24) else (if a1_3 = 0 then (head_Flags.j0 k a1_1 a1_0 a1_1 a1_2 a1_3 a1_4 a1_5 a1_6 a1_7 a1_8 a1_9 a1_10 a1_11 a1_12 a1_13 a1_14 a1_15 a1_16 a1_17 a1_18 l1_19 a1_20 a1_21 l1_22 l1_23 l1_24) else (head_Flags.j0 k false a1_0 a1_1 a1_2 a1_3 a1_4 a1_5 a1_6 a1_7 a1_8 a1_9 a1_10 a1_11 a1_12 a1_13 a1_14 a1_15 a1_16 a1_17 a1_18 l1_19 a1_20 a1_21 l1_22 l1_23 l1_24)))) else ((head_fixed.f a1_0).bind fun t146 => (some (t146, 0)))) else (some (0, 8))) = some (r1, r2) := H
    have A5 := Aside0.mk A50
    clear A50
    by_cases c6 : t145 = true
    · subst c6
      have H1 : (if a1_0 = 3 then (if a1_3 < 0 then (head_Flags.j0 k true a1_0 a1_1 a1_2 a1_3 a1_4 a1_5 a1_6 a1_7 a1_8 a1_9 a1_10 a1_11 a1_12 a1_13 a1_14 a1_15 a1_16 a1_17 a1_18 l1_19 a1_20 a1_21 l1_22 l1_23 l1_24) else (if a1_3 > 2 then (head_Flags.j0 k true a1_0 a1_1 a1_2 a1_3 a1_4 a1_5 a1_6 a1_7 a1_8 a1_9 a1_10 a1_11 a1_12 a1_13 a1_14 a1_15 a1_16 a1_17 a1_18 l1_19 a1_20 a1_21 l1_22 l1_23 l1_24) else (if a1_3 = 0 then (head_Flags.j0 k a1_1 a1_0 a1_1 a1_2 a1_3 a1_4 a1_5 a1_6 a1_7 a1_8 a1_9 a1_10 a1_11 a1_12 a1_13 a1_14 a1_15 a1_16 a1_17 a1_18 l1_19 a1_20 a1_21 l1_22 l1_23 l1_24) else (head_Flags.j0 k false a1_0 a1_1 a1_2 a1_3 a1_4 a1_5 a1_6 a1_7 a1_8 a1_9 a1_10 a1_11 a1_12 a1_13 a1_14 a1_15 a1_16 a1_17 a1_18 l1_19 a1_20 a1_21 l1_22 l1_23 l1_24)))) else ((head_fixed.f a1_0).bind fun t146 => (some (t146, 0)))) = some (r1, r2) := by rw [if_pos rfl] at H; exact H
      clear H
      have H := H1
      clear H1
      by_cases c7 : a1_0 = 3
      · rw [if_pos c7] at H
        have c7b0 : (a1_0 == 3) = true := beq_iff_eq.mpr c7
        have c7b1 : (a1_0 != 3) = false := bne_eq_false_iff_eq.mpr c7
        clear c7
        have HC8 := Aside0.mk H
        clear H
        go_enter Try.func49, Try.ntmps49
        go_upto_region 7 with (first | ((with_reducible refine gate_dst (N := 3) rfl ?_); refine box_event ?hg (N := 3) ?hd (cs := #[.int .i64 a1_0, .bool a1_1, .bool a1_2, .int .i64 a1_3, .int .i64 a1_4, .string a1_5, .string a1_6, .bool a1_7, .int .i64 a1_8, .string a1_9, .bool a1_10, .string a1_11, .bool a1_12, .string a1_13, .bool a1_14, .string a1_15, .string a1_16, .int .i64 a1_17, .bool a1_18, .slice A1_19 l1_19.length c1_19, .bool a1_20, .int .i64 a1_21, .slice A1_22 l1_22.length c1_22, .slice A1_23 l1_23.length c1_23, .slice A1_24 l1_24.length c1_24]) (t := 48) ?hr ?_; (case hd => rfl); (case hg => rfl); (case hr => first | (go_simp; done) | (go_simp; rfl)); intro gb143 hg w9 hbox hb; have n0_ := Aside0.mk (below_step (by repeat (first | (with_reducible first | exact HB.out | apply below_alloc | apply pw_below_drewN | apply below_drew1) | exact HB.out)) hb); have n1_ := Aside0.mk (hbox); have n2_ := Aside0.mk ((by rw [hg]; exact (below_size (by repeat (first | (with_reducible first | exact HB.out | apply below_alloc | apply pw_below_drewN | apply below_drew1) | exact HB.out))) : w.heap.size ≤ gb143)); have n3_ := Aside0.mk ((by rw [hg]; exact (below_size (by repeat (first | (with_reducible first | exact HB.out | apply below_alloc | apply pw_below_drewN | apply below_drew1) | exact HB.out))) : w.heap.size ≤ gb143)); clear HB; have HB := n0_; have BK143 := n1_; have GW143 := n2_; have GE143 := n3_; clear n0_ n1_ n2_ n3_; clear hb hbox hg) | ((with_reducible refine gate_callee (f := 67) rfl ?_); refine goesL_ (some 8) rfl rfl Try.func67 (by kernel_rfl) rfl #[.int .i64 a0] rfl (by (try simp only [List.map_toArray, List.map_cons, List.map_nil]); first | done | rfl | (simp only [List.length_drop, List.length_take]; rfl)) ?_; (with_reducible refine (head_known.calls a0 true _ A3.out).mono ?_); rintro e w' ⟨rfl, ⟨nd, rfl⟩⟩; refine ⟨_, rfl, ?_⟩; have hcz10_0 : w9.cell? ⟨gb143, 0, none⟩ = some (.int .i64 a1_0) := (blk_cell BK143.out 0).trans rfl; have hcz10_1 : w9.cell? ⟨gb143, 1, none⟩ = some (.bool a1_1) := (blk_cell BK143.out 1).trans rfl; have hcz10_2 : w9.cell? ⟨gb143, 2, none⟩ = some (.bool a1_2) := (blk_cell BK143.out 2).trans rfl; have hcz10_3 : w9.cell? ⟨gb143, 3, none⟩ = some (.int .i64 a1_3) := (blk_cell BK143.out 3).trans rfl; have hcz10_4 : w9.cell? ⟨gb143, 4, none⟩ = some (.int .i64 a1_4) := (blk_cell BK143.out 4).trans rfl; have hcz10_5 : w9.cell? ⟨gb143, 5, none⟩ = some (.string a1_5) := (blk_cell BK143.out 5).trans rfl; have hcz10_6 : w9.cell? ⟨gb143, 6, none⟩ = some (.string a1_6) := (blk_cell BK143.out 6).trans rfl; have hcz10_7 : w9.cell? ⟨gb143, 7, none⟩ = some (.bool a1_7) := (blk_cell BK143.out 7).trans rfl; have hcz10_8 : w9.cell? ⟨gb143, 8, none⟩ = some (.int .i64 a1_8) := (blk_cell BK143.out 8).trans rfl; have hcz10_9 : w9.cell? ⟨gb143, 9, none⟩ = some (.string a1_9) := (blk_cell BK143.out 9).trans rfl; have hcz10_10 : w9.cell? ⟨gb143, 10, none⟩ = some (.bool a1_10) := (blk_cell BK143.out 10).trans rfl; have hcz10_11 : w9.cell? ⟨gb143, 11, none⟩ = some (.string a1_11) := (blk_cell BK143.out 11).trans rfl; have hcz10_12 : w9.cell? ⟨gb143, 12, none⟩ = some (.bool a1_12) := (blk_cell BK143.out 12).trans rfl; have hcz10_13 : w9.cell? ⟨gb143, 13, none⟩ = some (.string a1_13) := (blk_cell BK143.out 13).trans rfl; have hcz10_14 : w9.cell? ⟨gb143, 14, none⟩ = some (.bool a1_14) := (blk_cell BK143.out 14).trans rfl; have hcz10_15 : w9.cell? ⟨gb143, 15, none⟩ = some (.string a1_15) := (blk_cell BK143.out 15).trans rfl; have hcz10_16 : w9.cell? ⟨gb143, 16, none⟩ = some (.string a1_16) := (blk_cell BK143.out 16).trans rfl; have hcz10_17 : w9.cell? ⟨gb143, 17, none⟩ = some (.int .i64 a1_17) := (blk_cell BK143.out 17).trans rfl; have hcz10_18 : w9.cell? ⟨gb143, 18, none⟩ = some (.bool a1_18) := (blk_cell BK143.out 18).trans rfl; have hcz10_19 : w9.cell? ⟨gb143, 19, none⟩ = some (.slice A1_19 l1_19.length c1_19) := (blk_cell BK143.out 19).trans rfl; have hcz10_20 : w9.cell? ⟨gb143, 20, none⟩ = some (.bool a1_20) := (blk_cell BK143.out 20).trans rfl; have hcz10_21 : w9.cell? ⟨gb143, 21, none⟩ = some (.int .i64 a1_21) := (blk_cell BK143.out 21).trans rfl; have hcz10_22 : w9.cell? ⟨gb143, 22, none⟩ = some (.slice A1_22 l1_22.length c1_22) := (blk_cell BK143.out 22).trans rfl; have hcz10_23 : w9.cell? ⟨gb143, 23, none⟩ = some (.slice A1_23 l1_23.length c1_23) := (blk_cell BK143.out 23).trans rfl; have hcz10_24 : w9.cell? ⟨gb143, 24, none⟩ = some (.slice A1_24 l1_24.length c1_24) := (blk_cell BK143.out 24).trans rfl; have hfz10_0 := blk_frozen BK143.out 0; have hfz10_1 := blk_frozen BK143.out 1; have hfz10_2 := blk_frozen BK143.out 2; have hfz10_3 := blk_frozen BK143.out 3; have hfz10_4 := blk_frozen BK143.out 4; have hfz10_5 := blk_frozen BK143.out 5; have hfz10_6 := blk_frozen BK143.out 6; have hfz10_7 := blk_frozen BK143.out 7; have hfz10_8 := blk_frozen BK143.out 8; have hfz10_9 := blk_frozen BK143.out 9; have hfz10_10 := blk_frozen BK143.out 10; have hfz10_11 := blk_frozen BK143.out 11; have hfz10_12 := blk_frozen BK143.out 12; have hfz10_13 := blk_frozen BK143.out 13; have hfz10_14 := blk_frozen BK143.out 14; have hfz10_15 := blk_frozen BK143.out 15; have hfz10_16 := blk_frozen BK143.out 16; have hfz10_17 := blk_frozen BK143.out 17; have hfz10_18 := blk_frozen BK143.out 18; have hfz10_19 := blk_frozen BK143.out 19; have hfz10_20 := blk_frozen BK143.out 20; have hfz10_21 := blk_frozen BK143.out 21; have hfz10_22 := blk_frozen BK143.out 22; have hfz10_23 := blk_frozen BK143.out 23; have hfz10_24 := blk_frozen BK143.out 24) | ((with_reducible refine gate_callee (f := 68) rfl ?_); refine goesL_ (some 13) rfl rfl Try.func68 (by kernel_rfl) rfl #[.int .i64 a0, .int .i64 a1_0] rfl (by (try simp only [List.map_toArray, List.map_cons, List.map_nil]); first | done | rfl | (simp only [List.length_drop, List.length_take]; rfl)) ?_; (with_reducible refine (head_kinds.calls a0 a1_0 true _ A5.out).mono ?_); rintro e w' ⟨rfl, ⟨nd, rfl⟩⟩; refine ⟨_, rfl, ?_⟩))
        (try simp only [Act.put, List.setIfInBounds_toArray, List.set_cons_zero, List.set_cons_succ])
        go_cut [37] (fun v37 wc => ∃ (kq : Nat) (x37_7 : Bool), v37 = .bool x37_7 ∧ Aside0 (head_Flags.j0 kq x37_7 a1_0 a1_1 a1_2 a1_3 a1_4 a1_5 a1_6 a1_7 a1_8 a1_9 a1_10 a1_11 a1_12 a1_13 a1_14 a1_15 a1_16 a1_17 a1_18 l1_19 a1_20 a1_21 l1_22 l1_23 l1_24 = some (r1, r2)) ∧ Aside0 (kq ≤ k) ∧ Aside0 (wc.heap[gb143]? = some (.cells #[.int .i64 a1_0, .bool a1_1, .bool a1_2, .int .i64 a1_3, .int .i64 a1_4, .string a1_5, .string a1_6, .bool a1_7, .int .i64 a1_8, .string a1_9, .bool a1_10, .string a1_11, .bool a1_12, .string a1_13, .bool a1_14, .string a1_15, .string a1_16, .int .i64 a1_17, .bool a1_18, (.slice A1_19 l1_19.length c1_19), .bool a1_20, .int .i64 a1_21, (.slice A1_22 l1_22.length c1_22), (.slice A1_23 l1_23.length c1_23), (.slice A1_24 l1_24.length c1_24)] 48 (0, 0))) ∧ Aside0 (Below w.heap.size w wc))
        case first =>
          have H := HC8.out
          clear HC8
          by_cases c11 : a1_3 < 0
          · rw [if_pos c11] at H
            have c11b0 : decide (a1_3 < 0) = true := decide_eq_true c11
            clear c11
            (first | rw [c11b0] | (simp only [i64_w, i32_w]; rw [c11b0]) | skip)
            have H' := Aside0.mk H
            clear H
            have hcz12_0 : w9.cell? ⟨gb143, 0, none⟩ = some (.int .i64 a1_0) := (blk_cell BK143.out 0).trans rfl
            have hcz12_1 : w9.cell? ⟨gb143, 1, none⟩ = some (.bool a1_1) := (blk_cell BK143.out 1).trans rfl
            have hcz12_2 : w9.cell? ⟨gb143, 2, none⟩ = some (.bool a1_2) := (blk_cell BK143.out 2).trans rfl
            have hcz12_3 : w9.cell? ⟨gb143, 3, none⟩ = some (.int .i64 a1_3) := (blk_cell BK143.out 3).trans rfl
            have hcz12_4 : w9.cell? ⟨gb143, 4, none⟩ = some (.int .i64 a1_4) := (blk_cell BK143.out 4).trans rfl
            have hcz12_5 : w9.cell? ⟨gb143, 5, none⟩ = some (.string a1_5) := (blk_cell BK143.out 5).trans rfl
            have hcz12_6 : w9.cell? ⟨gb143, 6, none⟩ = some (.string a1_6) := (blk_cell BK143.out 6).trans rfl
            have hcz12_7 : w9.cell? ⟨gb143, 7, none⟩ = some (.bool a1_7) := (blk_cell BK143.out 7).trans rfl
            have hcz12_8 : w9.cell? ⟨gb143, 8, none⟩ = some (.int .i64 a1_8) := (blk_cell BK143.out 8).trans rfl
            have hcz12_9 : w9.cell? ⟨gb143, 9, none⟩ = some (.string a1_9) := (blk_cell BK143.out 9).trans rfl
            have hcz12_10 : w9.cell? ⟨gb143, 10, none⟩ = some (.bool a1_10) := (blk_cell BK143.out 10).trans rfl
            have hcz12_11 : w9.cell? ⟨gb143, 11, none⟩ = some (.string a1_11) := (blk_cell BK143.out 11).trans rfl
            have hcz12_12 : w9.cell? ⟨gb143, 12, none⟩ = some (.bool a1_12) := (blk_cell BK143.out 12).trans rfl
            have hcz12_13 : w9.cell? ⟨gb143, 13, none⟩ = some (.string a1_13) := (blk_cell BK143.out 13).trans rfl
            have hcz12_14 : w9.cell? ⟨gb143, 14, none⟩ = some (.bool a1_14) := (blk_cell BK143.out 14).trans rfl
            have hcz12_15 : w9.cell? ⟨gb143, 15, none⟩ = some (.string a1_15) := (blk_cell BK143.out 15).trans rfl
            have hcz12_16 : w9.cell? ⟨gb143, 16, none⟩ = some (.string a1_16) := (blk_cell BK143.out 16).trans rfl
            have hcz12_17 : w9.cell? ⟨gb143, 17, none⟩ = some (.int .i64 a1_17) := (blk_cell BK143.out 17).trans rfl
            have hcz12_18 : w9.cell? ⟨gb143, 18, none⟩ = some (.bool a1_18) := (blk_cell BK143.out 18).trans rfl
            have hcz12_19 : w9.cell? ⟨gb143, 19, none⟩ = some (.slice A1_19 l1_19.length c1_19) := (blk_cell BK143.out 19).trans rfl
            have hcz12_20 : w9.cell? ⟨gb143, 20, none⟩ = some (.bool a1_20) := (blk_cell BK143.out 20).trans rfl
            have hcz12_21 : w9.cell? ⟨gb143, 21, none⟩ = some (.int .i64 a1_21) := (blk_cell BK143.out 21).trans rfl
            have hcz12_22 : w9.cell? ⟨gb143, 22, none⟩ = some (.slice A1_22 l1_22.length c1_22) := (blk_cell BK143.out 22).trans rfl
            have hcz12_23 : w9.cell? ⟨gb143, 23, none⟩ = some (.slice A1_23 l1_23.length c1_23) := (blk_cell BK143.out 23).trans rfl
            have hcz12_24 : w9.cell? ⟨gb143, 24, none⟩ = some (.slice A1_24 l1_24.length c1_24) := (blk_cell BK143.out 24).trans rfl
            have hfz12_0 := blk_frozen BK143.out 0
            have hfz12_1 := blk_frozen BK143.out 1
            have hfz12_2 := blk_frozen BK143.out 2
            have hfz12_3 := blk_frozen BK143.out 3
            have hfz12_4 := blk_frozen BK143.out 4
            have hfz12_5 := blk_frozen BK143.out 5
            have hfz12_6 := blk_frozen BK143.out 6
            have hfz12_7 := blk_frozen BK143.out 7
            have hfz12_8 := blk_frozen BK143.out 8
            have hfz12_9 := blk_frozen BK143.out 9
            have hfz12_10 := blk_frozen BK143.out 10
            have hfz12_11 := blk_frozen BK143.out 11
            have hfz12_12 := blk_frozen BK143.out 12
            have hfz12_13 := blk_frozen BK143.out 13
            have hfz12_14 := blk_frozen BK143.out 14
            have hfz12_15 := blk_frozen BK143.out 15
            have hfz12_16 := blk_frozen BK143.out 16
            have hfz12_17 := blk_frozen BK143.out 17
            have hfz12_18 := blk_frozen BK143.out 18
            have hfz12_19 := blk_frozen BK143.out 19
            have hfz12_20 := blk_frozen BK143.out 20
            have hfz12_21 := blk_frozen BK143.out 21
            have hfz12_22 := blk_frozen BK143.out 22
            have hfz12_23 := blk_frozen BK143.out 23
            have hfz12_24 := blk_frozen BK143.out 24
            go_wp2
            go_meet
            case rel => exact ⟨_, (true), (by first | rfl | (simp; done) | (simp [*]; done) | (simp; exact bne_nil_isEmpty _) | exact bne_nil_isEmpty _ | (simp; exact (bne_nil_isEmpty _).symm) | (simp; exact bne_nil_isEmpty' _)), H', ⟨by first | omega | exact Nat.le_refl _⟩, ⟨by (with_reducible repeat (first | refine blk_drewN ?_ _ | refine blk_drew ?_ | refine blk_alloc ?_ _)); exact BK143.out⟩, ⟨by repeat (first | (with_reducible first | exact HB.out | apply below_alloc | apply pw_below_drewN | apply below_drew1 | refine below_set ?_ GE143.out) | exact HB.out)⟩⟩
          · rw [if_neg c11] at H
            have c11b0 : decide (a1_3 < 0) = false := decide_eq_false c11
            clear c11
            (first | rw [c11b0] | (simp only [i64_w, i32_w]; rw [c11b0]) | skip)
            by_cases c13 : a1_3 > 2
            · rw [if_pos c13] at H
              have c13b0 : decide (2 < a1_3) = true := decide_eq_true c13
              clear c13
              have H' := Aside0.mk H
              clear H
              have hcz14_0 : w9.cell? ⟨gb143, 0, none⟩ = some (.int .i64 a1_0) := (blk_cell BK143.out 0).trans rfl
              have hcz14_1 : w9.cell? ⟨gb143, 1, none⟩ = some (.bool a1_1) := (blk_cell BK143.out 1).trans rfl
              have hcz14_2 : w9.cell? ⟨gb143, 2, none⟩ = some (.bool a1_2) := (blk_cell BK143.out 2).trans rfl
              have hcz14_3 : w9.cell? ⟨gb143, 3, none⟩ = some (.int .i64 a1_3) := (blk_cell BK143.out 3).trans rfl
              have hcz14_4 : w9.cell? ⟨gb143, 4, none⟩ = some (.int .i64 a1_4) := (blk_cell BK143.out 4).trans rfl
              have hcz14_5 : w9.cell? ⟨gb143, 5, none⟩ = some (.string a1_5) := (blk_cell BK143.out 5).trans rfl
              have hcz14_6 : w9.cell? ⟨gb143, 6, none⟩ = some (.string a1_6) := (blk_cell BK143.out 6).trans rfl
              have hcz14_7 : w9.cell? ⟨gb143, 7, none⟩ = some (.bool a1_7) := (blk_cell BK143.out 7).trans rfl
              have hcz14_8 : w9.cell? ⟨gb143, 8, none⟩ = some (.int .i64 a1_8) := (blk_cell BK143.out 8).trans rfl
              have hcz14_9 : w9.cell? ⟨gb143, 9, none⟩ = some (.string a1_9) := (blk_cell BK143.out 9).trans rfl
              have hcz14_10 : w9.cell? ⟨gb143, 10, none⟩ = some (.bool a1_10) := (blk_cell BK143.out 10).trans rfl
              have hcz14_11 : w9.cell? ⟨gb143, 11, none⟩ = some (.string a1_11) := (blk_cell BK143.out 11).trans rfl
              have hcz14_12 : w9.cell? ⟨gb143, 12, none⟩ = some (.bool a1_12) := (blk_cell BK143.out 12).trans rfl
              have hcz14_13 : w9.cell? ⟨gb143, 13, none⟩ = some (.string a1_13) := (blk_cell BK143.out 13).trans rfl
              have hcz14_14 : w9.cell? ⟨gb143, 14, none⟩ = some (.bool a1_14) := (blk_cell BK143.out 14).trans rfl
              have hcz14_15 : w9.cell? ⟨gb143, 15, none⟩ = some (.string a1_15) := (blk_cell BK143.out 15).trans rfl
              have hcz14_16 : w9.cell? ⟨gb143, 16, none⟩ = some (.string a1_16) := (blk_cell BK143.out 16).trans rfl
              have hcz14_17 : w9.cell? ⟨gb143, 17, none⟩ = some (.int .i64 a1_17) := (blk_cell BK143.out 17).trans rfl
              have hcz14_18 : w9.cell? ⟨gb143, 18, none⟩ = some (.bool a1_18) := (blk_cell BK143.out 18).trans rfl
              have hcz14_19 : w9.cell? ⟨gb143, 19, none⟩ = some (.slice A1_19 l1_19.length c1_19) := (blk_cell BK143.out 19).trans rfl
              have hcz14_20 : w9.cell? ⟨gb143, 20, none⟩ = some (.bool a1_20) := (blk_cell BK143.out 20).trans rfl
              have hcz14_21 : w9.cell? ⟨gb143, 21, none⟩ = some (.int .i64 a1_21) := (blk_cell BK143.out 21).trans rfl
              have hcz14_22 : w9.cell? ⟨gb143, 22, none⟩ = some (.slice A1_22 l1_22.length c1_22) := (blk_cell BK143.out 22).trans rfl
              have hcz14_23 : w9.cell? ⟨gb143, 23, none⟩ = some (.slice A1_23 l1_23.length c1_23) := (blk_cell BK143.out 23).trans rfl
              have hcz14_24 : w9.cell? ⟨gb143, 24, none⟩ = some (.slice A1_24 l1_24.length c1_24) := (blk_cell BK143.out 24).trans rfl
              have hfz14_0 := blk_frozen BK143.out 0
              have hfz14_1 := blk_frozen BK143.out 1
              have hfz14_2 := blk_frozen BK143.out 2
              have hfz14_3 := blk_frozen BK143.out 3
              have hfz14_4 := blk_frozen BK143.out 4
              have hfz14_5 := blk_frozen BK143.out 5
              have hfz14_6 := blk_frozen BK143.out 6
              have hfz14_7 := blk_frozen BK143.out 7
              have hfz14_8 := blk_frozen BK143.out 8
              have hfz14_9 := blk_frozen BK143.out 9
              have hfz14_10 := blk_frozen BK143.out 10
              have hfz14_11 := blk_frozen BK143.out 11
              have hfz14_12 := blk_frozen BK143.out 12
              have hfz14_13 := blk_frozen BK143.out 13
              have hfz14_14 := blk_frozen BK143.out 14
              have hfz14_15 := blk_frozen BK143.out 15
              have hfz14_16 := blk_frozen BK143.out 16
              have hfz14_17 := blk_frozen BK143.out 17
              have hfz14_18 := blk_frozen BK143.out 18
              have hfz14_19 := blk_frozen BK143.out 19
              have hfz14_20 := blk_frozen BK143.out 20
              have hfz14_21 := blk_frozen BK143.out 21
              have hfz14_22 := blk_frozen BK143.out 22
              have hfz14_23 := blk_frozen BK143.out 23
              have hfz14_24 := blk_frozen BK143.out 24
              go_wp2
              go_meet
              case rel => exact ⟨_, (true), (by first | rfl | (simp; done) | (simp [*]; done) | (simp; exact bne_nil_isEmpty _) | exact bne_nil_isEmpty _ | (simp; exact (bne_nil_isEmpty _).symm) | (simp; exact bne_nil_isEmpty' _)), H', ⟨by first | omega | exact Nat.le_refl _⟩, ⟨by (with_reducible repeat (first | refine blk_drewN ?_ _ | refine blk_drew ?_ | refine blk_alloc ?_ _)); exact BK143.out⟩, ⟨by repeat (first | (with_reducible first | exact HB.out | apply below_alloc | apply pw_below_drewN | apply below_drew1 | refine below_set ?_ GE143.out) | exact HB.out)⟩⟩
            · rw [if_neg c13] at H
              have c13b0 : decide (2 < a1_3) = false := decide_eq_false c13
              clear c13
              by_cases c15 : a1_3 = 0
              · rw [if_pos c15] at H
                have c15b0 : (a1_3 == 0) = true := beq_iff_eq.mpr c15
                have c15b1 : (a1_3 != 0) = false := bne_eq_false_iff_eq.mpr c15
                clear c15
                have H' := Aside0.mk H
                clear H
                have hcz16_0 : w9.cell? ⟨gb143, 0, none⟩ = some (.int .i64 a1_0) := (blk_cell BK143.out 0).trans rfl
                have hcz16_1 : w9.cell? ⟨gb143, 1, none⟩ = some (.bool a1_1) := (blk_cell BK143.out 1).trans rfl
                have hcz16_2 : w9.cell? ⟨gb143, 2, none⟩ = some (.bool a1_2) := (blk_cell BK143.out 2).trans rfl
                have hcz16_3 : w9.cell? ⟨gb143, 3, none⟩ = some (.int .i64 a1_3) := (blk_cell BK143.out 3).trans rfl
                have hcz16_4 : w9.cell? ⟨gb143, 4, none⟩ = some (.int .i64 a1_4) := (blk_cell BK143.out 4).trans rfl
                have hcz16_5 : w9.cell? ⟨gb143, 5, none⟩ = some (.string a1_5) := (blk_cell BK143.out 5).trans rfl
                have hcz16_6 : w9.cell? ⟨gb143, 6, none⟩ = some (.string a1_6) := (blk_cell BK143.out 6).trans rfl
                have hcz16_7 : w9.cell? ⟨gb143, 7, none⟩ = some (.bool a1_7) := (blk_cell BK143.out 7).trans rfl
                have hcz16_8 : w9.cell? ⟨gb143, 8, none⟩ = some (.int .i64 a1_8) := (blk_cell BK143.out 8).trans rfl
                have hcz16_9 : w9.cell? ⟨gb143, 9, none⟩ = some (.string a1_9) := (blk_cell BK143.out 9).trans rfl
                have hcz16_10 : w9.cell? ⟨gb143, 10, none⟩ = some (.bool a1_10) := (blk_cell BK143.out 10).trans rfl
                have hcz16_11 : w9.cell? ⟨gb143, 11, none⟩ = some (.string a1_11) := (blk_cell BK143.out 11).trans rfl
                have hcz16_12 : w9.cell? ⟨gb143, 12, none⟩ = some (.bool a1_12) := (blk_cell BK143.out 12).trans rfl
                have hcz16_13 : w9.cell? ⟨gb143, 13, none⟩ = some (.string a1_13) := (blk_cell BK143.out 13).trans rfl
                have hcz16_14 : w9.cell? ⟨gb143, 14, none⟩ = some (.bool a1_14) := (blk_cell BK143.out 14).trans rfl
                have hcz16_15 : w9.cell? ⟨gb143, 15, none⟩ = some (.string a1_15) := (blk_cell BK143.out 15).trans rfl
                have hcz16_16 : w9.cell? ⟨gb143, 16, none⟩ = some (.string a1_16) := (blk_cell BK143.out 16).trans rfl
                have hcz16_17 : w9.cell? ⟨gb143, 17, none⟩ = some (.int .i64 a1_17) := (blk_cell BK143.out 17).trans rfl
                have hcz16_18 : w9.cell? ⟨gb143, 18, none⟩ = some (.bool a1_18) := (blk_cell BK143.out 18).trans rfl
                have hcz16_19 : w9.cell? ⟨gb143, 19, none⟩ = some (.slice A1_19 l1_19.length c1_19) := (blk_cell BK143.out 19).trans rfl
                have hcz16_20 : w9.cell? ⟨gb143, 20, none⟩ = some (.bool a1_20) := (blk_cell BK143.out 20).trans rfl
                have hcz16_21 : w9.cell? ⟨gb143, 21, none⟩ = some (.int .i64 a1_21) := (blk_cell BK143.out 21).trans rfl
                have hcz16_22 : w9.cell? ⟨gb143, 22, none⟩ = some (.slice A1_22 l1_22.length c1_22) := (blk_cell BK143.out 22).trans rfl
                have hcz16_23 : w9.cell? ⟨gb143, 23, none⟩ = some (.slice A1_23 l1_23.length c1_23) := (blk_cell BK143.out 23).trans rfl
                have hcz16_24 : w9.cell? ⟨gb143, 24, none⟩ = some (.slice A1_24 l1_24.length c1_24) := (blk_cell BK143.out 24).trans rfl
                have hfz16_0 := blk_frozen BK143.out 0
                have hfz16_1 := blk_frozen BK143.out 1
                have hfz16_2 := blk_frozen BK143.out 2
                have hfz16_3 := blk_frozen BK143.out 3
                have hfz16_4 := blk_frozen BK143.out 4
                have hfz16_5 := blk_frozen BK143.out 5
                have hfz16_6 := blk_frozen BK143.out 6
                have hfz16_7 := blk_frozen BK143.out 7
                have hfz16_8 := blk_frozen BK143.out 8
                have hfz16_9 := blk_frozen BK143.out 9
                have hfz16_10 := blk_frozen BK143.out 10
                have hfz16_11 := blk_frozen BK143.out 11
                have hfz16_12 := blk_frozen BK143.out 12
                have hfz16_13 := blk_frozen BK143.out 13
                have hfz16_14 := blk_frozen BK143.out 14
                have hfz16_15 := blk_frozen BK143.out 15
                have hfz16_16 := blk_frozen BK143.out 16
                have hfz16_17 := blk_frozen BK143.out 17
                have hfz16_18 := blk_frozen BK143.out 18
                have hfz16_19 := blk_frozen BK143.out 19
                have hfz16_20 := blk_frozen BK143.out 20
                have hfz16_21 := blk_frozen BK143.out 21
                have hfz16_22 := blk_frozen BK143.out 22
                have hfz16_23 := blk_frozen BK143.out 23
                have hfz16_24 := blk_frozen BK143.out 24
                go_wp2
                go_meet
                case rel => exact ⟨_, (a1_1), (by first | rfl | (simp; done) | (simp [*]; done) | (simp; exact bne_nil_isEmpty _) | exact bne_nil_isEmpty _ | (simp; exact (bne_nil_isEmpty _).symm) | (simp; exact bne_nil_isEmpty' _)), H', ⟨by first | omega | exact Nat.le_refl _⟩, ⟨by (with_reducible repeat (first | refine blk_drewN ?_ _ | refine blk_drew ?_ | refine blk_alloc ?_ _)); exact BK143.out⟩, ⟨by repeat (first | (with_reducible first | exact HB.out | apply below_alloc | apply pw_below_drewN | apply below_drew1 | refine below_set ?_ GE143.out) | exact HB.out)⟩⟩
              · rw [if_neg c15] at H
                have c15b0 : (a1_3 == 0) = false := beq_eq_false_iff_ne.mpr c15
                have c15b1 : (a1_3 != 0) = true := bne_iff_ne.mpr c15
                have H' := Aside0.mk H
                clear H
                have hcz17_0 : w9.cell? ⟨gb143, 0, none⟩ = some (.int .i64 a1_0) := (blk_cell BK143.out 0).trans rfl
                have hcz17_1 : w9.cell? ⟨gb143, 1, none⟩ = some (.bool a1_1) := (blk_cell BK143.out 1).trans rfl
                have hcz17_2 : w9.cell? ⟨gb143, 2, none⟩ = some (.bool a1_2) := (blk_cell BK143.out 2).trans rfl
                have hcz17_3 : w9.cell? ⟨gb143, 3, none⟩ = some (.int .i64 a1_3) := (blk_cell BK143.out 3).trans rfl
                have hcz17_4 : w9.cell? ⟨gb143, 4, none⟩ = some (.int .i64 a1_4) := (blk_cell BK143.out 4).trans rfl
                have hcz17_5 : w9.cell? ⟨gb143, 5, none⟩ = some (.string a1_5) := (blk_cell BK143.out 5).trans rfl
                have hcz17_6 : w9.cell? ⟨gb143, 6, none⟩ = some (.string a1_6) := (blk_cell BK143.out 6).trans rfl
                have hcz17_7 : w9.cell? ⟨gb143, 7, none⟩ = some (.bool a1_7) := (blk_cell BK143.out 7).trans rfl
                have hcz17_8 : w9.cell? ⟨gb143, 8, none⟩ = some (.int .i64 a1_8) := (blk_cell BK143.out 8).trans rfl
                have hcz17_9 : w9.cell? ⟨gb143, 9, none⟩ = some (.string a1_9) := (blk_cell BK143.out 9).trans rfl
                have hcz17_10 : w9.cell? ⟨gb143, 10, none⟩ = some (.bool a1_10) := (blk_cell BK143.out 10).trans rfl
                have hcz17_11 : w9.cell? ⟨gb143, 11, none⟩ = some (.string a1_11) := (blk_cell BK143.out 11).trans rfl
                have hcz17_12 : w9.cell? ⟨gb143, 12, none⟩ = some (.bool a1_12) := (blk_cell BK143.out 12).trans rfl
                have hcz17_13 : w9.cell? ⟨gb143, 13, none⟩ = some (.string a1_13) := (blk_cell BK143.out 13).trans rfl
                have hcz17_14 : w9.cell? ⟨gb143, 14, none⟩ = some (.bool a1_14) := (blk_cell BK143.out 14).trans rfl
                have hcz17_15 : w9.cell? ⟨gb143, 15, none⟩ = some (.string a1_15) := (blk_cell BK143.out 15).trans rfl
                have hcz17_16 : w9.cell? ⟨gb143, 16, none⟩ = some (.string a1_16) := (blk_cell BK143.out 16).trans rfl
                have hcz17_17 : w9.cell? ⟨gb143, 17, none⟩ = some (.int .i64 a1_17) := (blk_cell BK143.out 17).trans rfl
                have hcz17_18 : w9.cell? ⟨gb143, 18, none⟩ = some (.bool a1_18) := (blk_cell BK143.out 18).trans rfl
                have hcz17_19 : w9.cell? ⟨gb143, 19, none⟩ = some (.slice A1_19 l1_19.length c1_19) := (blk_cell BK143.out 19).trans rfl
                have hcz17_20 : w9.cell? ⟨gb143, 20, none⟩ = some (.bool a1_20) := (blk_cell BK143.out 20).trans rfl
                have hcz17_21 : w9.cell? ⟨gb143, 21, none⟩ = some (.int .i64 a1_21) := (blk_cell BK143.out 21).trans rfl
                have hcz17_22 : w9.cell? ⟨gb143, 22, none⟩ = some (.slice A1_22 l1_22.length c1_22) := (blk_cell BK143.out 22).trans rfl
                have hcz17_23 : w9.cell? ⟨gb143, 23, none⟩ = some (.slice A1_23 l1_23.length c1_23) := (blk_cell BK143.out 23).trans rfl
                have hcz17_24 : w9.cell? ⟨gb143, 24, none⟩ = some (.slice A1_24 l1_24.length c1_24) := (blk_cell BK143.out 24).trans rfl
                have hfz17_0 := blk_frozen BK143.out 0
                have hfz17_1 := blk_frozen BK143.out 1
                have hfz17_2 := blk_frozen BK143.out 2
                have hfz17_3 := blk_frozen BK143.out 3
                have hfz17_4 := blk_frozen BK143.out 4
                have hfz17_5 := blk_frozen BK143.out 5
                have hfz17_6 := blk_frozen BK143.out 6
                have hfz17_7 := blk_frozen BK143.out 7
                have hfz17_8 := blk_frozen BK143.out 8
                have hfz17_9 := blk_frozen BK143.out 9
                have hfz17_10 := blk_frozen BK143.out 10
                have hfz17_11 := blk_frozen BK143.out 11
                have hfz17_12 := blk_frozen BK143.out 12
                have hfz17_13 := blk_frozen BK143.out 13
                have hfz17_14 := blk_frozen BK143.out 14
                have hfz17_15 := blk_frozen BK143.out 15
                have hfz17_16 := blk_frozen BK143.out 16
                have hfz17_17 := blk_frozen BK143.out 17
                have hfz17_18 := blk_frozen BK143.out 18
                have hfz17_19 := blk_frozen BK143.out 19
                have hfz17_20 := blk_frozen BK143.out 20
                have hfz17_21 := blk_frozen BK143.out 21
                have hfz17_22 := blk_frozen BK143.out 22
                have hfz17_23 := blk_frozen BK143.out 23
                have hfz17_24 := blk_frozen BK143.out 24
                go_wp2
                go_meet
                case rel => exact ⟨_, (false), (by first | rfl | (simp; done) | (simp [*]; done) | (simp; exact bne_nil_isEmpty _) | exact bne_nil_isEmpty _ | (simp; exact (bne_nil_isEmpty _).symm) | (simp; exact bne_nil_isEmpty' _)), H', ⟨by first | omega | exact Nat.le_refl _⟩, ⟨by (with_reducible repeat (first | refine blk_drewN ?_ _ | refine blk_drew ?_ | refine blk_alloc ?_ _)); exact BK143.out⟩, ⟨by repeat (first | (with_reducible first | exact HB.out | apply below_alloc | apply pw_below_drewN | apply below_drew1 | refine below_set ?_ GE143.out) | exact HB.out)⟩⟩
        case rest =>
          clear HC8
          (try clear c1);(try clear p2);(try clear c4);(try clear c6);(try clear c7);(try clear c7b0);(try clear c7b1);(try clear c11);(try clear c11b0);(try clear c13);(try clear c13b0);(try clear c15);(try clear c15b0);(try clear c15b1);(try clear hcz10_0);(try clear hcz10_1);(try clear hcz10_10);(try clear hcz10_11);(try clear hcz10_12);(try clear hcz10_13);(try clear hcz10_14);(try clear hcz10_15);(try clear hcz10_16);(try clear hcz10_17);(try clear hcz10_18);(try clear hcz10_19);(try clear hcz10_2);(try clear hcz10_20);(try clear hcz10_21);(try clear hcz10_22);(try clear hcz10_23);(try clear hcz10_24);(try clear hcz10_3);(try clear hcz10_4);(try clear hcz10_5);(try clear hcz10_6);(try clear hcz10_7);(try clear hcz10_8);(try clear hcz10_9);(try clear hcz12_0);(try clear hcz12_1);(try clear hcz12_10);(try clear hcz12_11);(try clear hcz12_12);(try clear hcz12_13);(try clear hcz12_14);(try clear hcz12_15);(try clear hcz12_16);(try clear hcz12_17);(try clear hcz12_18);(try clear hcz12_19);(try clear hcz12_2);(try clear hcz12_20);(try clear hcz12_21);(try clear hcz12_22);(try clear hcz12_23);(try clear hcz12_24);(try clear hcz12_3);(try clear hcz12_4);(try clear hcz12_5);(try clear hcz12_6);(try clear hcz12_7);(try clear hcz12_8);(try clear hcz12_9);(try clear hcz14_0);(try clear hcz14_1);(try clear hcz14_10);(try clear hcz14_11);(try clear hcz14_12);(try clear hcz14_13);(try clear hcz14_14);(try clear hcz14_15);(try clear hcz14_16);(try clear hcz14_17);(try clear hcz14_18);(try clear hcz14_19);(try clear hcz14_2);(try clear hcz14_20);(try clear hcz14_21);(try clear hcz14_22);(try clear hcz14_23);(try clear hcz14_24);(try clear hcz14_3);(try clear hcz14_4);(try clear hcz14_5);(try clear hcz14_6);(try clear hcz14_7);(try clear hcz14_8);(try clear hcz14_9);(try clear hcz16_0);(try clear hcz16_1);(try clear hcz16_10);(try clear hcz16_11);(try clear hcz16_12);(try clear hcz16_13);(try clear hcz16_14);(try clear hcz16_15);(try clear hcz16_16);(try clear hcz16_17);(try clear hcz16_18);(try clear hcz16_19);(try clear hcz16_2);(try clear hcz16_20);(try clear hcz16_21);(try clear hcz16_22);(try clear hcz16_23);(try clear hcz16_24);(try clear hcz16_3);(try clear hcz16_4);(try clear hcz16_5);(try clear hcz16_6);(try clear hcz16_7);(try clear hcz16_8);(try clear hcz16_9);(try clear hcz17_0);(try clear hcz17_1);(try clear hcz17_10);(try clear hcz17_11);(try clear hcz17_12);(try clear hcz17_13);(try clear hcz17_14);(try clear hcz17_15);(try clear hcz17_16);(try clear hcz17_17);(try clear hcz17_18);(try clear hcz17_19);(try clear hcz17_2);(try clear hcz17_20);(try clear hcz17_21);(try clear hcz17_22);(try clear hcz17_23);(try clear hcz17_24);(try clear hcz17_3);(try clear hcz17_4);(try clear hcz17_5);(try clear hcz17_6);(try clear hcz17_7);(try clear hcz17_8);(try clear hcz17_9);(try clear hfz10_0);(try clear hfz10_1);(try clear hfz10_10);(try clear hfz10_11);(try clear hfz10_12);(try clear hfz10_13);(try clear hfz10_14);(try clear hfz10_15);(try clear hfz10_16);(try clear hfz10_17);(try clear hfz10_18);(try clear hfz10_19);(try clear hfz10_2);(try clear hfz10_20);(try clear hfz10_21);(try clear hfz10_22);(try clear hfz10_23);(try clear hfz10_24);(try clear hfz10_3);(try clear hfz10_4);(try clear hfz10_5);(try clear hfz10_6);(try clear hfz10_7);(try clear hfz10_8);(try clear hfz10_9);(try clear hfz12_0);(try clear hfz12_1);(try clear hfz12_10);(try clear hfz12_11);(try clear hfz12_12);(try clear hfz12_13);(try clear hfz12_14);(try clear hfz12_15);(try clear hfz12_16);(try clear hfz12_17);(try clear hfz12_18);(try clear hfz12_19);(try clear hfz12_2);(try clear hfz12_20);(try clear hfz12_21);(try clear hfz12_22);(try clear hfz12_23);(try clear hfz12_24);(try clear hfz12_3);(try clear hfz12_4);(try clear hfz12_5);(try clear hfz12_6);(try clear hfz12_7);(try clear hfz12_8);(try clear hfz12_9);(try clear hfz14_0);(try clear hfz14_1);(try clear hfz14_10);(try clear hfz14_11);(try clear hfz14_12);(try clear hfz14_13);(try clear hfz14_14);(try clear hfz14_15);(try clear hfz14_16);(try clear hfz14_17);(try clear hfz14_18);(try clear hfz14_19);(try clear hfz14_2);(try clear hfz14_20);(try clear hfz14_21);(try clear hfz14_22);(try clear hfz14_23);(try clear hfz14_24);(try clear hfz14_3);(try clear hfz14_4);(try clear hfz14_5);(try clear hfz14_6);(try clear hfz14_7);(try clear hfz14_8);(try clear hfz14_9);(try clear hfz16_0);(try clear hfz16_1);(try clear hfz16_10);(try clear hfz16_11);(try clear hfz16_12);(try clear hfz16_13);(try clear hfz16_14);(try clear hfz16_15);(try clear hfz16_16);(try clear hfz16_17);(try clear hfz16_18);(try clear hfz16_19);(try clear hfz16_2);(try clear hfz16_20);(try clear hfz16_21);(try clear hfz16_22);(try clear hfz16_23);(try clear hfz16_24);(try clear hfz16_3);(try clear hfz16_4);(try clear hfz16_5);(try clear hfz16_6);(try clear hfz16_7);(try clear hfz16_8);(try clear hfz16_9);(try clear hfz17_0);(try clear hfz17_1);(try clear hfz17_10);(try clear hfz17_11);(try clear hfz17_12);(try clear hfz17_13);(try clear hfz17_14);(try clear hfz17_15);(try clear hfz17_16);(try clear hfz17_17);(try clear hfz17_18);(try clear hfz17_19);(try clear hfz17_2);(try clear hfz17_20);(try clear hfz17_21);(try clear hfz17_22);(try clear hfz17_23);(try clear hfz17_24);(try clear hfz17_3);(try clear hfz17_4);(try clear hfz17_5);(try clear hfz17_6);(try clear hfz17_7);(try clear hfz17_8);(try clear hfz17_9)
          obtain ⟨kq, x37_7, rfl, HA, HJ7, BK143, HB⟩ := hcut
          cases kq with
          | zero => exact absurd HA.out (by simp [head_Flags.j0])
          | succ kj7 =>
            have H := HA.out
            clear HA
            simp only [head_Flags.j0] at H
            by_cases c18 : x37_7 = true
            · subst c18
              have H1 : (some (0, 7)) = some (r1, r2) := by rw [if_pos rfl] at H; exact H
              clear H
              have H := H1
              clear H1
              simp only [Option.some.injEq, Prod.mk.injEq] at H
              obtain ⟨rfl, rfl⟩ := H
              go_wp2
              go_ret2
              exact ⟨by first | rfl | (simp [errW_none, errW_some] <;> rfl) | (simp [*, errW_none, errW_some] <;> rfl), by repeat (first | (with_reducible first | exact HB.out | apply below_alloc | apply pw_below_drewN | apply below_drew1 | refine below_set ?_ GE143.out) | exact HB.out)⟩
            · replace c18 := Bool.eq_false_iff.mpr c18
              subst c18
              have H1 : (if a1_2 = true then (if a1_1 = true then (some (Go.bits .or .i64 (Go.bits .or .i64 (wrap64 (a1_3 * 2)) 1) 8, 0)) else (some (Go.bits .or .i64 (wrap64 (a1_3 * 2)) 1, 0))) else (if a1_1 = true then (some (Go.bits .or .i64 (wrap64 (a1_3 * 2)) 8, 0)) else (some (wrap64 (a1_3 * 2), 0)))) = some (r1, r2) := by rw [if_neg (show ¬ (false = true) by decide)] at H; exact H
              clear H
              have H := H1
              clear H1
              by_cases c19 : a1_2 = true
              · subst c19
                have H1 : (if a1_1 = true then (some (Go.bits .or .i64 (Go.bits .or .i64 (wrap64 (a1_3 * 2)) 1) 8, 0)) else (some (Go.bits .or .i64 (wrap64 (a1_3 * 2)) 1, 0))) = some (r1, r2) := by rw [if_pos rfl] at H; exact H
                clear H
                have H := H1
                clear H1
                by_cases c20 : a1_1 = true
                · subst c20
                  have H1 : (some (Go.bits .or .i64 (Go.bits .or .i64 (wrap64 (a1_3 * 2)) 1) 8, 0)) = some (r1, r2) := by rw [if_pos rfl] at H; exact H
                  clear H
                  have H := H1
                  clear H1
                  simp only [Option.some.injEq, Prod.mk.injEq] at H
                  obtain ⟨rfl, rfl⟩ := H
                  have hcz21_0 : wc.cell? ⟨gb143, 0, none⟩ = some (.int .i64 a1_0) := (blk_cell BK143.out 0).trans rfl
                  have hcz21_1 : wc.cell? ⟨gb143, 1, none⟩ = some (.bool true) := (blk_cell BK143.out 1).trans rfl
                  have hcz21_2 : wc.cell? ⟨gb143, 2, none⟩ = some (.bool true) := (blk_cell BK143.out 2).trans rfl
                  have hcz21_3 : wc.cell? ⟨gb143, 3, none⟩ = some (.int .i64 a1_3) := (blk_cell BK143.out 3).trans rfl
                  have hcz21_4 : wc.cell? ⟨gb143, 4, none⟩ = some (.int .i64 a1_4) := (blk_cell BK143.out 4).trans rfl
                  have hcz21_5 : wc.cell? ⟨gb143, 5, none⟩ = some (.string a1_5) := (blk_cell BK143.out 5).trans rfl
                  have hcz21_6 : wc.cell? ⟨gb143, 6, none⟩ = some (.string a1_6) := (blk_cell BK143.out 6).trans rfl
                  have hcz21_7 : wc.cell? ⟨gb143, 7, none⟩ = some (.bool a1_7) := (blk_cell BK143.out 7).trans rfl
                  have hcz21_8 : wc.cell? ⟨gb143, 8, none⟩ = some (.int .i64 a1_8) := (blk_cell BK143.out 8).trans rfl
                  have hcz21_9 : wc.cell? ⟨gb143, 9, none⟩ = some (.string a1_9) := (blk_cell BK143.out 9).trans rfl
                  have hcz21_10 : wc.cell? ⟨gb143, 10, none⟩ = some (.bool a1_10) := (blk_cell BK143.out 10).trans rfl
                  have hcz21_11 : wc.cell? ⟨gb143, 11, none⟩ = some (.string a1_11) := (blk_cell BK143.out 11).trans rfl
                  have hcz21_12 : wc.cell? ⟨gb143, 12, none⟩ = some (.bool a1_12) := (blk_cell BK143.out 12).trans rfl
                  have hcz21_13 : wc.cell? ⟨gb143, 13, none⟩ = some (.string a1_13) := (blk_cell BK143.out 13).trans rfl
                  have hcz21_14 : wc.cell? ⟨gb143, 14, none⟩ = some (.bool a1_14) := (blk_cell BK143.out 14).trans rfl
                  have hcz21_15 : wc.cell? ⟨gb143, 15, none⟩ = some (.string a1_15) := (blk_cell BK143.out 15).trans rfl
                  have hcz21_16 : wc.cell? ⟨gb143, 16, none⟩ = some (.string a1_16) := (blk_cell BK143.out 16).trans rfl
                  have hcz21_17 : wc.cell? ⟨gb143, 17, none⟩ = some (.int .i64 a1_17) := (blk_cell BK143.out 17).trans rfl
                  have hcz21_18 : wc.cell? ⟨gb143, 18, none⟩ = some (.bool a1_18) := (blk_cell BK143.out 18).trans rfl
                  have hcz21_19 : wc.cell? ⟨gb143, 19, none⟩ = some (.slice A1_19 l1_19.length c1_19) := (blk_cell BK143.out 19).trans rfl
                  have hcz21_20 : wc.cell? ⟨gb143, 20, none⟩ = some (.bool a1_20) := (blk_cell BK143.out 20).trans rfl
                  have hcz21_21 : wc.cell? ⟨gb143, 21, none⟩ = some (.int .i64 a1_21) := (blk_cell BK143.out 21).trans rfl
                  have hcz21_22 : wc.cell? ⟨gb143, 22, none⟩ = some (.slice A1_22 l1_22.length c1_22) := (blk_cell BK143.out 22).trans rfl
                  have hcz21_23 : wc.cell? ⟨gb143, 23, none⟩ = some (.slice A1_23 l1_23.length c1_23) := (blk_cell BK143.out 23).trans rfl
                  have hcz21_24 : wc.cell? ⟨gb143, 24, none⟩ = some (.slice A1_24 l1_24.length c1_24) := (blk_cell BK143.out 24).trans rfl
                  have hfz21_0 := blk_frozen BK143.out 0
                  have hfz21_1 := blk_frozen BK143.out 1
                  have hfz21_2 := blk_frozen BK143.out 2
                  have hfz21_3 := blk_frozen BK143.out 3
                  have hfz21_4 := blk_frozen BK143.out 4
                  have hfz21_5 := blk_frozen BK143.out 5
                  have hfz21_6 := blk_frozen BK143.out 6
                  have hfz21_7 := blk_frozen BK143.out 7
                  have hfz21_8 := blk_frozen BK143.out 8
                  have hfz21_9 := blk_frozen BK143.out 9
                  have hfz21_10 := blk_frozen BK143.out 10
                  have hfz21_11 := blk_frozen BK143.out 11
                  have hfz21_12 := blk_frozen BK143.out 12
                  have hfz21_13 := blk_frozen BK143.out 13
                  have hfz21_14 := blk_frozen BK143.out 14
                  have hfz21_15 := blk_frozen BK143.out 15
                  have hfz21_16 := blk_frozen BK143.out 16
                  have hfz21_17 := blk_frozen BK143.out 17
                  have hfz21_18 := blk_frozen BK143.out 18
                  have hfz21_19 := blk_frozen BK143.out 19
                  have hfz21_20 := blk_frozen BK143.out 20
                  have hfz21_21 := blk_frozen BK143.out 21
                  have hfz21_22 := blk_frozen BK143.out 22
                  have hfz21_23 := blk_frozen BK143.out 23
                  have hfz21_24 := blk_frozen BK143.out 24
                  go_wp2
                  go_ret2
                  exact ⟨by first | rfl | (simp [errW_none, errW_some] <;> rfl) | (simp [*, errW_none, errW_some] <;> rfl), by repeat (first | (with_reducible first | exact HB.out | apply below_alloc | apply pw_below_drewN | apply below_drew1 | refine below_set ?_ GE143.out) | exact HB.out)⟩
                · replace c20 := Bool.eq_false_iff.mpr c20
                  subst c20
                  have H1 : (some (Go.bits .or .i64 (wrap64 (a1_3 * 2)) 1, 0)) = some (r1, r2) := by rw [if_neg (show ¬ (false = true) by decide)] at H; exact H
                  clear H
                  have H := H1
                  clear H1
                  simp only [Option.some.injEq, Prod.mk.injEq] at H
                  obtain ⟨rfl, rfl⟩ := H
                  have hcz22_0 : wc.cell? ⟨gb143, 0, none⟩ = some (.int .i64 a1_0) := (blk_cell BK143.out 0).trans rfl
                  have hcz22_1 : wc.cell? ⟨gb143, 1, none⟩ = some (.bool false) := (blk_cell BK143.out 1).trans rfl
                  have hcz22_2 : wc.cell? ⟨gb143, 2, none⟩ = some (.bool true) := (blk_cell BK143.out 2).trans rfl
                  have hcz22_3 : wc.cell? ⟨gb143, 3, none⟩ = some (.int .i64 a1_3) := (blk_cell BK143.out 3).trans rfl
                  have hcz22_4 : wc.cell? ⟨gb143, 4, none⟩ = some (.int .i64 a1_4) := (blk_cell BK143.out 4).trans rfl
                  have hcz22_5 : wc.cell? ⟨gb143, 5, none⟩ = some (.string a1_5) := (blk_cell BK143.out 5).trans rfl
                  have hcz22_6 : wc.cell? ⟨gb143, 6, none⟩ = some (.string a1_6) := (blk_cell BK143.out 6).trans rfl
                  have hcz22_7 : wc.cell? ⟨gb143, 7, none⟩ = some (.bool a1_7) := (blk_cell BK143.out 7).trans rfl
                  have hcz22_8 : wc.cell? ⟨gb143, 8, none⟩ = some (.int .i64 a1_8) := (blk_cell BK143.out 8).trans rfl
                  have hcz22_9 : wc.cell? ⟨gb143, 9, none⟩ = some (.string a1_9) := (blk_cell BK143.out 9).trans rfl
                  have hcz22_10 : wc.cell? ⟨gb143, 10, none⟩ = some (.bool a1_10) := (blk_cell BK143.out 10).trans rfl
                  have hcz22_11 : wc.cell? ⟨gb143, 11, none⟩ = some (.string a1_11) := (blk_cell BK143.out 11).trans rfl
                  have hcz22_12 : wc.cell? ⟨gb143, 12, none⟩ = some (.bool a1_12) := (blk_cell BK143.out 12).trans rfl
                  have hcz22_13 : wc.cell? ⟨gb143, 13, none⟩ = some (.string a1_13) := (blk_cell BK143.out 13).trans rfl
                  have hcz22_14 : wc.cell? ⟨gb143, 14, none⟩ = some (.bool a1_14) := (blk_cell BK143.out 14).trans rfl
                  have hcz22_15 : wc.cell? ⟨gb143, 15, none⟩ = some (.string a1_15) := (blk_cell BK143.out 15).trans rfl
                  have hcz22_16 : wc.cell? ⟨gb143, 16, none⟩ = some (.string a1_16) := (blk_cell BK143.out 16).trans rfl
                  have hcz22_17 : wc.cell? ⟨gb143, 17, none⟩ = some (.int .i64 a1_17) := (blk_cell BK143.out 17).trans rfl
                  have hcz22_18 : wc.cell? ⟨gb143, 18, none⟩ = some (.bool a1_18) := (blk_cell BK143.out 18).trans rfl
                  have hcz22_19 : wc.cell? ⟨gb143, 19, none⟩ = some (.slice A1_19 l1_19.length c1_19) := (blk_cell BK143.out 19).trans rfl
                  have hcz22_20 : wc.cell? ⟨gb143, 20, none⟩ = some (.bool a1_20) := (blk_cell BK143.out 20).trans rfl
                  have hcz22_21 : wc.cell? ⟨gb143, 21, none⟩ = some (.int .i64 a1_21) := (blk_cell BK143.out 21).trans rfl
                  have hcz22_22 : wc.cell? ⟨gb143, 22, none⟩ = some (.slice A1_22 l1_22.length c1_22) := (blk_cell BK143.out 22).trans rfl
                  have hcz22_23 : wc.cell? ⟨gb143, 23, none⟩ = some (.slice A1_23 l1_23.length c1_23) := (blk_cell BK143.out 23).trans rfl
                  have hcz22_24 : wc.cell? ⟨gb143, 24, none⟩ = some (.slice A1_24 l1_24.length c1_24) := (blk_cell BK143.out 24).trans rfl
                  have hfz22_0 := blk_frozen BK143.out 0
                  have hfz22_1 := blk_frozen BK143.out 1
                  have hfz22_2 := blk_frozen BK143.out 2
                  have hfz22_3 := blk_frozen BK143.out 3
                  have hfz22_4 := blk_frozen BK143.out 4
                  have hfz22_5 := blk_frozen BK143.out 5
                  have hfz22_6 := blk_frozen BK143.out 6
                  have hfz22_7 := blk_frozen BK143.out 7
                  have hfz22_8 := blk_frozen BK143.out 8
                  have hfz22_9 := blk_frozen BK143.out 9
                  have hfz22_10 := blk_frozen BK143.out 10
                  have hfz22_11 := blk_frozen BK143.out 11
                  have hfz22_12 := blk_frozen BK143.out 12
                  have hfz22_13 := blk_frozen BK143.out 13
                  have hfz22_14 := blk_frozen BK143.out 14
                  have hfz22_15 := blk_frozen BK143.out 15
                  have hfz22_16 := blk_frozen BK143.out 16
                  have hfz22_17 := blk_frozen BK143.out 17
                  have hfz22_18 := blk_frozen BK143.out 18
                  have hfz22_19 := blk_frozen BK143.out 19
                  have hfz22_20 := blk_frozen BK143.out 20
                  have hfz22_21 := blk_frozen BK143.out 21
                  have hfz22_22 := blk_frozen BK143.out 22
                  have hfz22_23 := blk_frozen BK143.out 23
                  have hfz22_24 := blk_frozen BK143.out 24
                  go_wp2
                  go_ret2
                  exact ⟨by first | rfl | (simp [errW_none, errW_some] <;> rfl) | (simp [*, errW_none, errW_some] <;> rfl), by repeat (first | (with_reducible first | exact HB.out | apply below_alloc | apply pw_below_drewN | apply below_drew1 | refine below_set ?_ GE143.out) | exact HB.out)⟩
              · replace c19 := Bool.eq_false_iff.mpr c19
                subst c19
                have H1 : (if a1_1 = true then (some (Go.bits .or .i64 (wrap64 (a1_3 * 2)) 8, 0)) else (some (wrap64 (a1_3 * 2), 0))) = some (r1, r2) := by rw [if_neg (show ¬ (false = true) by decide)] at H; exact H
                clear H
                have H := H1
                clear H1
                by_cases c23 : a1_1 = true
                · subst c23
                  have H1 : (some (Go.bits .or .i64 (wrap64 (a1_3 * 2)) 8, 0)) = some (r1, r2) := by rw [if_pos rfl] at H; exact H
                  clear H
                  have H := H1
                  clear H1
                  simp only [Option.some.injEq, Prod.mk.injEq] at H
                  obtain ⟨rfl, rfl⟩ := H
                  have hcz24_0 : wc.cell? ⟨gb143, 0, none⟩ = some (.int .i64 a1_0) := (blk_cell BK143.out 0).trans rfl
                  have hcz24_1 : wc.cell? ⟨gb143, 1, none⟩ = some (.bool true) := (blk_cell BK143.out 1).trans rfl
                  have hcz24_2 : wc.cell? ⟨gb143, 2, none⟩ = some (.bool false) := (blk_cell BK143.out 2).trans rfl
                  have hcz24_3 : wc.cell? ⟨gb143, 3, none⟩ = some (.int .i64 a1_3) := (blk_cell BK143.out 3).trans rfl
                  have hcz24_4 : wc.cell? ⟨gb143, 4, none⟩ = some (.int .i64 a1_4) := (blk_cell BK143.out 4).trans rfl
                  have hcz24_5 : wc.cell? ⟨gb143, 5, none⟩ = some (.string a1_5) := (blk_cell BK143.out 5).trans rfl
                  have hcz24_6 : wc.cell? ⟨gb143, 6, none⟩ = some (.string a1_6) := (blk_cell BK143.out 6).trans rfl
                  have hcz24_7 : wc.cell? ⟨gb143, 7, none⟩ = some (.bool a1_7) := (blk_cell BK143.out 7).trans rfl
                  have hcz24_8 : wc.cell? ⟨gb143, 8, none⟩ = some (.int .i64 a1_8) := (blk_cell BK143.out 8).trans rfl
                  have hcz24_9 : wc.cell? ⟨gb143, 9, none⟩ = some (.string a1_9) := (blk_cell BK143.out 9).trans rfl
                  have hcz24_10 : wc.cell? ⟨gb143, 10, none⟩ = some (.bool a1_10) := (blk_cell BK143.out 10).trans rfl
                  have hcz24_11 : wc.cell? ⟨gb143, 11, none⟩ = some (.string a1_11) := (blk_cell BK143.out 11).trans rfl
                  have hcz24_12 : wc.cell? ⟨gb143, 12, none⟩ = some (.bool a1_12) := (blk_cell BK143.out 12).trans rfl
                  have hcz24_13 : wc.cell? ⟨gb143, 13, none⟩ = some (.string a1_13) := (blk_cell BK143.out 13).trans rfl
                  have hcz24_14 : wc.cell? ⟨gb143, 14, none⟩ = some (.bool a1_14) := (blk_cell BK143.out 14).trans rfl
                  have hcz24_15 : wc.cell? ⟨gb143, 15, none⟩ = some (.string a1_15) := (blk_cell BK143.out 15).trans rfl
                  have hcz24_16 : wc.cell? ⟨gb143, 16, none⟩ = some (.string a1_16) := (blk_cell BK143.out 16).trans rfl
                  have hcz24_17 : wc.cell? ⟨gb143, 17, none⟩ = some (.int .i64 a1_17) := (blk_cell BK143.out 17).trans rfl
                  have hcz24_18 : wc.cell? ⟨gb143, 18, none⟩ = some (.bool a1_18) := (blk_cell BK143.out 18).trans rfl
                  have hcz24_19 : wc.cell? ⟨gb143, 19, none⟩ = some (.slice A1_19 l1_19.length c1_19) := (blk_cell BK143.out 19).trans rfl
                  have hcz24_20 : wc.cell? ⟨gb143, 20, none⟩ = some (.bool a1_20) := (blk_cell BK143.out 20).trans rfl
                  have hcz24_21 : wc.cell? ⟨gb143, 21, none⟩ = some (.int .i64 a1_21) := (blk_cell BK143.out 21).trans rfl
                  have hcz24_22 : wc.cell? ⟨gb143, 22, none⟩ = some (.slice A1_22 l1_22.length c1_22) := (blk_cell BK143.out 22).trans rfl
                  have hcz24_23 : wc.cell? ⟨gb143, 23, none⟩ = some (.slice A1_23 l1_23.length c1_23) := (blk_cell BK143.out 23).trans rfl
                  have hcz24_24 : wc.cell? ⟨gb143, 24, none⟩ = some (.slice A1_24 l1_24.length c1_24) := (blk_cell BK143.out 24).trans rfl
                  have hfz24_0 := blk_frozen BK143.out 0
                  have hfz24_1 := blk_frozen BK143.out 1
                  have hfz24_2 := blk_frozen BK143.out 2
                  have hfz24_3 := blk_frozen BK143.out 3
                  have hfz24_4 := blk_frozen BK143.out 4
                  have hfz24_5 := blk_frozen BK143.out 5
                  have hfz24_6 := blk_frozen BK143.out 6
                  have hfz24_7 := blk_frozen BK143.out 7
                  have hfz24_8 := blk_frozen BK143.out 8
                  have hfz24_9 := blk_frozen BK143.out 9
                  have hfz24_10 := blk_frozen BK143.out 10
                  have hfz24_11 := blk_frozen BK143.out 11
                  have hfz24_12 := blk_frozen BK143.out 12
                  have hfz24_13 := blk_frozen BK143.out 13
                  have hfz24_14 := blk_frozen BK143.out 14
                  have hfz24_15 := blk_frozen BK143.out 15
                  have hfz24_16 := blk_frozen BK143.out 16
                  have hfz24_17 := blk_frozen BK143.out 17
                  have hfz24_18 := blk_frozen BK143.out 18
                  have hfz24_19 := blk_frozen BK143.out 19
                  have hfz24_20 := blk_frozen BK143.out 20
                  have hfz24_21 := blk_frozen BK143.out 21
                  have hfz24_22 := blk_frozen BK143.out 22
                  have hfz24_23 := blk_frozen BK143.out 23
                  have hfz24_24 := blk_frozen BK143.out 24
                  go_wp2
                  go_ret2
                  exact ⟨by first | rfl | (simp [errW_none, errW_some] <;> rfl) | (simp [*, errW_none, errW_some] <;> rfl), by repeat (first | (with_reducible first | exact HB.out | apply below_alloc | apply pw_below_drewN | apply below_drew1 | refine below_set ?_ GE143.out) | exact HB.out)⟩
                · replace c23 := Bool.eq_false_iff.mpr c23
                  subst c23
                  have H1 : (some (wrap64 (a1_3 * 2), 0)) = some (r1, r2) := by rw [if_neg (show ¬ (false = true) by decide)] at H; exact H
                  clear H
                  have H := H1
                  clear H1
                  simp only [Option.some.injEq, Prod.mk.injEq] at H
                  obtain ⟨rfl, rfl⟩ := H
                  have hcz25_0 : wc.cell? ⟨gb143, 0, none⟩ = some (.int .i64 a1_0) := (blk_cell BK143.out 0).trans rfl
                  have hcz25_1 : wc.cell? ⟨gb143, 1, none⟩ = some (.bool false) := (blk_cell BK143.out 1).trans rfl
                  have hcz25_2 : wc.cell? ⟨gb143, 2, none⟩ = some (.bool false) := (blk_cell BK143.out 2).trans rfl
                  have hcz25_3 : wc.cell? ⟨gb143, 3, none⟩ = some (.int .i64 a1_3) := (blk_cell BK143.out 3).trans rfl
                  have hcz25_4 : wc.cell? ⟨gb143, 4, none⟩ = some (.int .i64 a1_4) := (blk_cell BK143.out 4).trans rfl
                  have hcz25_5 : wc.cell? ⟨gb143, 5, none⟩ = some (.string a1_5) := (blk_cell BK143.out 5).trans rfl
                  have hcz25_6 : wc.cell? ⟨gb143, 6, none⟩ = some (.string a1_6) := (blk_cell BK143.out 6).trans rfl
                  have hcz25_7 : wc.cell? ⟨gb143, 7, none⟩ = some (.bool a1_7) := (blk_cell BK143.out 7).trans rfl
                  have hcz25_8 : wc.cell? ⟨gb143, 8, none⟩ = some (.int .i64 a1_8) := (blk_cell BK143.out 8).trans rfl
                  have hcz25_9 : wc.cell? ⟨gb143, 9, none⟩ = some (.string a1_9) := (blk_cell BK143.out 9).trans rfl
                  have hcz25_10 : wc.cell? ⟨gb143, 10, none⟩ = some (.bool a1_10) := (blk_cell BK143.out 10).trans rfl
                  have hcz25_11 : wc.cell? ⟨gb143, 11, none⟩ = some (.string a1_11) := (blk_cell BK143.out 11).trans rfl
                  have hcz25_12 : wc.cell? ⟨gb143, 12, none⟩ = some (.bool a1_12) := (blk_cell BK143.out 12).trans rfl
                  have hcz25_13 : wc.cell? ⟨gb143, 13, none⟩ = some (.string a1_13) := (blk_cell BK143.out 13).trans rfl
                  have hcz25_14 : wc.cell? ⟨gb143, 14, none⟩ = some (.bool a1_14) := (blk_cell BK143.out 14).trans rfl
                  have hcz25_15 : wc.cell? ⟨gb143, 15, none⟩ = some (.string a1_15) := (blk_cell BK143.out 15).trans rfl
                  have hcz25_16 : wc.cell? ⟨gb143, 16, none⟩ = some (.string a1_16) := (blk_cell BK143.out 16).trans rfl
                  have hcz25_17 : wc.cell? ⟨gb143, 17, none⟩ = some (.int .i64 a1_17) := (blk_cell BK143.out 17).trans rfl
                  have hcz25_18 : wc.cell? ⟨gb143, 18, none⟩ = some (.bool a1_18) := (blk_cell BK143.out 18).trans rfl
                  have hcz25_19 : wc.cell? ⟨gb143, 19, none⟩ = some (.slice A1_19 l1_19.length c1_19) := (blk_cell BK143.out 19).trans rfl
                  have hcz25_20 : wc.cell? ⟨gb143, 20, none⟩ = some (.bool a1_20) := (blk_cell BK143.out 20).trans rfl
                  have hcz25_21 : wc.cell? ⟨gb143, 21, none⟩ = some (.int .i64 a1_21) := (blk_cell BK143.out 21).trans rfl
                  have hcz25_22 : wc.cell? ⟨gb143, 22, none⟩ = some (.slice A1_22 l1_22.length c1_22) := (blk_cell BK143.out 22).trans rfl
                  have hcz25_23 : wc.cell? ⟨gb143, 23, none⟩ = some (.slice A1_23 l1_23.length c1_23) := (blk_cell BK143.out 23).trans rfl
                  have hcz25_24 : wc.cell? ⟨gb143, 24, none⟩ = some (.slice A1_24 l1_24.length c1_24) := (blk_cell BK143.out 24).trans rfl
                  have hfz25_0 := blk_frozen BK143.out 0
                  have hfz25_1 := blk_frozen BK143.out 1
                  have hfz25_2 := blk_frozen BK143.out 2
                  have hfz25_3 := blk_frozen BK143.out 3
                  have hfz25_4 := blk_frozen BK143.out 4
                  have hfz25_5 := blk_frozen BK143.out 5
                  have hfz25_6 := blk_frozen BK143.out 6
                  have hfz25_7 := blk_frozen BK143.out 7
                  have hfz25_8 := blk_frozen BK143.out 8
                  have hfz25_9 := blk_frozen BK143.out 9
                  have hfz25_10 := blk_frozen BK143.out 10
                  have hfz25_11 := blk_frozen BK143.out 11
                  have hfz25_12 := blk_frozen BK143.out 12
                  have hfz25_13 := blk_frozen BK143.out 13
                  have hfz25_14 := blk_frozen BK143.out 14
                  have hfz25_15 := blk_frozen BK143.out 15
                  have hfz25_16 := blk_frozen BK143.out 16
                  have hfz25_17 := blk_frozen BK143.out 17
                  have hfz25_18 := blk_frozen BK143.out 18
                  have hfz25_19 := blk_frozen BK143.out 19
                  have hfz25_20 := blk_frozen BK143.out 20
                  have hfz25_21 := blk_frozen BK143.out 21
                  have hfz25_22 := blk_frozen BK143.out 22
                  have hfz25_23 := blk_frozen BK143.out 23
                  have hfz25_24 := blk_frozen BK143.out 24
                  go_wp2
                  go_ret2
                  exact ⟨by first | rfl | (simp [errW_none, errW_some] <;> rfl) | (simp [*, errW_none, errW_some] <;> rfl), by repeat (first | (with_reducible first | exact HB.out | apply below_alloc | apply pw_below_drewN | apply below_drew1 | refine below_set ?_ GE143.out) | exact HB.out)⟩
      · rw [if_neg c7] at H
        have c7b0 : (a1_0 == 3) = false := beq_eq_false_iff_ne.mpr c7
        have c7b1 : (a1_0 != 3) = true := bne_iff_ne.mpr c7
        replace H := Option.bind_eq_some_iff.mp H
        obtain ⟨t146, A260, H⟩ := H
        replace H : (some (t146, 0)) = some (r1, r2) := H
        have A26 := Aside0.mk A260
        clear A260
        simp only [Option.some.injEq, Prod.mk.injEq] at H
        obtain ⟨rfl, rfl⟩ := H
        go_enter Try.func49, Try.ntmps49
        go_wp2_with (first | ((with_reducible refine gate_dst (N := 3) rfl ?_); refine box_event ?hg (N := 3) ?hd (cs := #[.int .i64 a1_0, .bool a1_1, .bool a1_2, .int .i64 a1_3, .int .i64 a1_4, .string a1_5, .string a1_6, .bool a1_7, .int .i64 a1_8, .string a1_9, .bool a1_10, .string a1_11, .bool a1_12, .string a1_13, .bool a1_14, .string a1_15, .string a1_16, .int .i64 a1_17, .bool a1_18, .slice A1_19 l1_19.length c1_19, .bool a1_20, .int .i64 a1_21, .slice A1_22 l1_22.length c1_22, .slice A1_23 l1_23.length c1_23, .slice A1_24 l1_24.length c1_24]) (t := 48) ?hr ?_; (case hd => rfl); (case hg => rfl); (case hr => first | (go_simp; done) | (go_simp; rfl)); intro gb143 hg w27 hbox hb; have n0_ := Aside0.mk (below_step (by repeat (first | (with_reducible first | exact HB.out | apply below_alloc | apply pw_below_drewN | apply below_drew1) | exact HB.out)) hb); have n1_ := Aside0.mk (hbox); have n2_ := Aside0.mk ((by rw [hg]; exact (below_size (by repeat (first | (with_reducible first | exact HB.out | apply below_alloc | apply pw_below_drewN | apply below_drew1) | exact HB.out))) : w.heap.size ≤ gb143)); have n3_ := Aside0.mk ((by rw [hg]; exact (below_size (by repeat (first | (with_reducible first | exact HB.out | apply below_alloc | apply pw_below_drewN | apply below_drew1) | exact HB.out))) : w.heap.size ≤ gb143)); clear HB; have HB := n0_; have BK143 := n1_; have GW143 := n2_; have GE143 := n3_; clear n0_ n1_ n2_ n3_; clear hb hbox hg) | ((with_reducible refine gate_callee (f := 67) rfl ?_); refine goesL_ (some 8) rfl rfl Try.func67 (by kernel_rfl) rfl #[.int .i64 a0] rfl (by (try simp only [List.map_toArray, List.map_cons, List.map_nil]); first | done | rfl | (simp only [List.length_drop, List.length_take]; rfl)) ?_; (with_reducible refine (head_known.calls a0 true _ A3.out).mono ?_); rintro e w' ⟨rfl, ⟨nd, rfl⟩⟩; refine ⟨_, rfl, ?_⟩; have hcz28_0 : w27.cell? ⟨gb143, 0, none⟩ = some (.int .i64 a1_0) := (blk_cell BK143.out 0).trans rfl; have hcz28_1 : w27.cell? ⟨gb143, 1, none⟩ = some (.bool a1_1) := (blk_cell BK143.out 1).trans rfl; have hcz28_2 : w27.cell? ⟨gb143, 2, none⟩ = some (.bool a1_2) := (blk_cell BK143.out 2).trans rfl; have hcz28_3 : w27.cell? ⟨gb143, 3, none⟩ = some (.int .i64 a1_3) := (blk_cell BK143.out 3).trans rfl; have hcz28_4 : w27.cell? ⟨gb143, 4, none⟩ = some (.int .i64 a1_4) := (blk_cell BK143.out 4).trans rfl; have hcz28_5 : w27.cell? ⟨gb143, 5, none⟩ = some (.string a1_5) := (blk_cell BK143.out 5).trans rfl; have hcz28_6 : w27.cell? ⟨gb143, 6, none⟩ = some (.string a1_6) := (blk_cell BK143.out 6).trans rfl; have hcz28_7 : w27.cell? ⟨gb143, 7, none⟩ = some (.bool a1_7) := (blk_cell BK143.out 7).trans rfl; have hcz28_8 : w27.cell? ⟨gb143, 8, none⟩ = some (.int .i64 a1_8) := (blk_cell BK143.out 8).trans rfl; have hcz28_9 : w27.cell? ⟨gb143, 9, none⟩ = some (.string a1_9) := (blk_cell BK143.out 9).trans rfl; have hcz28_10 : w27.cell? ⟨gb143, 10, none⟩ = some (.bool a1_10) := (blk_cell BK143.out 10).trans rfl; have hcz28_11 : w27.cell? ⟨gb143, 11, none⟩ = some (.string a1_11) := (blk_cell BK143.out 11).trans rfl; have hcz28_12 : w27.cell? ⟨gb143, 12, none⟩ = some (.bool a1_12) := (blk_cell BK143.out 12).trans rfl; have hcz28_13 : w27.cell? ⟨gb143, 13, none⟩ = some (.string a1_13) := (blk_cell BK143.out 13).trans rfl; have hcz28_14 : w27.cell? ⟨gb143, 14, none⟩ = some (.bool a1_14) := (blk_cell BK143.out 14).trans rfl; have hcz28_15 : w27.cell? ⟨gb143, 15, none⟩ = some (.string a1_15) := (blk_cell BK143.out 15).trans rfl; have hcz28_16 : w27.cell? ⟨gb143, 16, none⟩ = some (.string a1_16) := (blk_cell BK143.out 16).trans rfl; have hcz28_17 : w27.cell? ⟨gb143, 17, none⟩ = some (.int .i64 a1_17) := (blk_cell BK143.out 17).trans rfl; have hcz28_18 : w27.cell? ⟨gb143, 18, none⟩ = some (.bool a1_18) := (blk_cell BK143.out 18).trans rfl; have hcz28_19 : w27.cell? ⟨gb143, 19, none⟩ = some (.slice A1_19 l1_19.length c1_19) := (blk_cell BK143.out 19).trans rfl; have hcz28_20 : w27.cell? ⟨gb143, 20, none⟩ = some (.bool a1_20) := (blk_cell BK143.out 20).trans rfl; have hcz28_21 : w27.cell? ⟨gb143, 21, none⟩ = some (.int .i64 a1_21) := (blk_cell BK143.out 21).trans rfl; have hcz28_22 : w27.cell? ⟨gb143, 22, none⟩ = some (.slice A1_22 l1_22.length c1_22) := (blk_cell BK143.out 22).trans rfl; have hcz28_23 : w27.cell? ⟨gb143, 23, none⟩ = some (.slice A1_23 l1_23.length c1_23) := (blk_cell BK143.out 23).trans rfl; have hcz28_24 : w27.cell? ⟨gb143, 24, none⟩ = some (.slice A1_24 l1_24.length c1_24) := (blk_cell BK143.out 24).trans rfl; have hfz28_0 := blk_frozen BK143.out 0; have hfz28_1 := blk_frozen BK143.out 1; have hfz28_2 := blk_frozen BK143.out 2; have hfz28_3 := blk_frozen BK143.out 3; have hfz28_4 := blk_frozen BK143.out 4; have hfz28_5 := blk_frozen BK143.out 5; have hfz28_6 := blk_frozen BK143.out 6; have hfz28_7 := blk_frozen BK143.out 7; have hfz28_8 := blk_frozen BK143.out 8; have hfz28_9 := blk_frozen BK143.out 9; have hfz28_10 := blk_frozen BK143.out 10; have hfz28_11 := blk_frozen BK143.out 11; have hfz28_12 := blk_frozen BK143.out 12; have hfz28_13 := blk_frozen BK143.out 13; have hfz28_14 := blk_frozen BK143.out 14; have hfz28_15 := blk_frozen BK143.out 15; have hfz28_16 := blk_frozen BK143.out 16; have hfz28_17 := blk_frozen BK143.out 17; have hfz28_18 := blk_frozen BK143.out 18; have hfz28_19 := blk_frozen BK143.out 19; have hfz28_20 := blk_frozen BK143.out 20; have hfz28_21 := blk_frozen BK143.out 21; have hfz28_22 := blk_frozen BK143.out 22; have hfz28_23 := blk_frozen BK143.out 23; have hfz28_24 := blk_frozen BK143.out 24) | ((with_reducible refine gate_callee (f := 68) rfl ?_); refine goesL_ (some 13) rfl rfl Try.func68 (by kernel_rfl) rfl #[.int .i64 a0, .int .i64 a1_0] rfl (by (try simp only [List.map_toArray, List.map_cons, List.map_nil]); first | done | rfl | (simp only [List.length_drop, List.length_take]; rfl)) ?_; (with_reducible refine (head_kinds.calls a0 a1_0 true _ A5.out).mono ?_); rintro e w' ⟨rfl, ⟨nd, rfl⟩⟩; refine ⟨_, rfl, ?_⟩) | ((with_reducible refine gate_callee (f := 69) rfl ?_); refine goesL_ (some 20) rfl rfl Try.func69 (by kernel_rfl) rfl #[.int .i64 a1_0] rfl (by (try simp only [List.map_toArray, List.map_cons, List.map_nil]); first | done | rfl | (simp only [List.length_drop, List.length_take]; rfl)) ?_; (with_reducible refine (head_fixed.calls a1_0 t146 _ A26.out).mono ?_); rintro e w' ⟨rfl, ⟨nd, rfl⟩⟩; refine ⟨_, rfl, ?_⟩))
        go_ret2
        exact ⟨by first | rfl | (simp [errW_none, errW_some] <;> rfl) | (simp [*, errW_none, errW_some] <;> rfl), by repeat (first | (with_reducible first | exact HB.out | apply below_alloc | apply pw_below_drewN | apply below_drew1 | refine below_set ?_ GE143.out) | exact HB.out)⟩
    · replace c6 := Bool.eq_false_iff.mpr c6
      subst c6
      have H1 : (some (0, 8)) = some (r1, r2) := by rw [if_neg (show ¬ (false = true) by decide)] at H; exact H
      clear H
      have H := H1
      clear H1
      simp only [Option.some.injEq, Prod.mk.injEq] at H
      obtain ⟨rfl, rfl⟩ := H
      go_enter Try.func49, Try.ntmps49
      go_wp2_with (first | ((with_reducible refine gate_dst (N := 3) rfl ?_); refine box_event ?hg (N := 3) ?hd (cs := #[.int .i64 a1_0, .bool a1_1, .bool a1_2, .int .i64 a1_3, .int .i64 a1_4, .string a1_5, .string a1_6, .bool a1_7, .int .i64 a1_8, .string a1_9, .bool a1_10, .string a1_11, .bool a1_12, .string a1_13, .bool a1_14, .string a1_15, .string a1_16, .int .i64 a1_17, .bool a1_18, .slice A1_19 l1_19.length c1_19, .bool a1_20, .int .i64 a1_21, .slice A1_22 l1_22.length c1_22, .slice A1_23 l1_23.length c1_23, .slice A1_24 l1_24.length c1_24]) (t := 48) ?hr ?_; (case hd => rfl); (case hg => rfl); (case hr => first | (go_simp; done) | (go_simp; rfl)); intro gb143 hg w29 hbox hb; have n0_ := Aside0.mk (below_step (by repeat (first | (with_reducible first | exact HB.out | apply below_alloc | apply pw_below_drewN | apply below_drew1) | exact HB.out)) hb); have n1_ := Aside0.mk (hbox); have n2_ := Aside0.mk ((by rw [hg]; exact (below_size (by repeat (first | (with_reducible first | exact HB.out | apply below_alloc | apply pw_below_drewN | apply below_drew1) | exact HB.out))) : w.heap.size ≤ gb143)); have n3_ := Aside0.mk ((by rw [hg]; exact (below_size (by repeat (first | (with_reducible first | exact HB.out | apply below_alloc | apply pw_below_drewN | apply below_drew1) | exact HB.out))) : w.heap.size ≤ gb143)); clear HB; have HB := n0_; have BK143 := n1_; have GW143 := n2_; have GE143 := n3_; clear n0_ n1_ n2_ n3_; clear hb hbox hg) | ((with_reducible refine gate_callee (f := 67) rfl ?_); refine goesL_ (some 8) rfl rfl Try.func67 (by kernel_rfl) rfl #[.int .i64 a0] rfl (by (try simp only [List.map_toArray, List.map_cons, List.map_nil]); first | done | rfl | (simp only [List.length_drop, List.length_take]; rfl)) ?_; (with_reducible refine (head_known.calls a0 true _ A3.out).mono ?_); rintro e w' ⟨rfl, ⟨nd, rfl⟩⟩; refine ⟨_, rfl, ?_⟩; have hcz30_0 : w29.cell? ⟨gb143, 0, none⟩ = some (.int .i64 a1_0) := (blk_cell BK143.out 0).trans rfl; have hcz30_1 : w29.cell? ⟨gb143, 1, none⟩ = some (.bool a1_1) := (blk_cell BK143.out 1).trans rfl; have hcz30_2 : w29.cell? ⟨gb143, 2, none⟩ = some (.bool a1_2) := (blk_cell BK143.out 2).trans rfl; have hcz30_3 : w29.cell? ⟨gb143, 3, none⟩ = some (.int .i64 a1_3) := (blk_cell BK143.out 3).trans rfl; have hcz30_4 : w29.cell? ⟨gb143, 4, none⟩ = some (.int .i64 a1_4) := (blk_cell BK143.out 4).trans rfl; have hcz30_5 : w29.cell? ⟨gb143, 5, none⟩ = some (.string a1_5) := (blk_cell BK143.out 5).trans rfl; have hcz30_6 : w29.cell? ⟨gb143, 6, none⟩ = some (.string a1_6) := (blk_cell BK143.out 6).trans rfl; have hcz30_7 : w29.cell? ⟨gb143, 7, none⟩ = some (.bool a1_7) := (blk_cell BK143.out 7).trans rfl; have hcz30_8 : w29.cell? ⟨gb143, 8, none⟩ = some (.int .i64 a1_8) := (blk_cell BK143.out 8).trans rfl; have hcz30_9 : w29.cell? ⟨gb143, 9, none⟩ = some (.string a1_9) := (blk_cell BK143.out 9).trans rfl; have hcz30_10 : w29.cell? ⟨gb143, 10, none⟩ = some (.bool a1_10) := (blk_cell BK143.out 10).trans rfl; have hcz30_11 : w29.cell? ⟨gb143, 11, none⟩ = some (.string a1_11) := (blk_cell BK143.out 11).trans rfl; have hcz30_12 : w29.cell? ⟨gb143, 12, none⟩ = some (.bool a1_12) := (blk_cell BK143.out 12).trans rfl; have hcz30_13 : w29.cell? ⟨gb143, 13, none⟩ = some (.string a1_13) := (blk_cell BK143.out 13).trans rfl; have hcz30_14 : w29.cell? ⟨gb143, 14, none⟩ = some (.bool a1_14) := (blk_cell BK143.out 14).trans rfl; have hcz30_15 : w29.cell? ⟨gb143, 15, none⟩ = some (.string a1_15) := (blk_cell BK143.out 15).trans rfl; have hcz30_16 : w29.cell? ⟨gb143, 16, none⟩ = some (.string a1_16) := (blk_cell BK143.out 16).trans rfl; have hcz30_17 : w29.cell? ⟨gb143, 17, none⟩ = some (.int .i64 a1_17) := (blk_cell BK143.out 17).trans rfl; have hcz30_18 : w29.cell? ⟨gb143, 18, none⟩ = some (.bool a1_18) := (blk_cell BK143.out 18).trans rfl; have hcz30_19 : w29.cell? ⟨gb143, 19, none⟩ = some (.slice A1_19 l1_19.length c1_19) := (blk_cell BK143.out 19).trans rfl; have hcz30_20 : w29.cell? ⟨gb143, 20, none⟩ = some (.bool a1_20) := (blk_cell BK143.out 20).trans rfl; have hcz30_21 : w29.cell? ⟨gb143, 21, none⟩ = some (.int .i64 a1_21) := (blk_cell BK143.out 21).trans rfl; have hcz30_22 : w29.cell? ⟨gb143, 22, none⟩ = some (.slice A1_22 l1_22.length c1_22) := (blk_cell BK143.out 22).trans rfl; have hcz30_23 : w29.cell? ⟨gb143, 23, none⟩ = some (.slice A1_23 l1_23.length c1_23) := (blk_cell BK143.out 23).trans rfl; have hcz30_24 : w29.cell? ⟨gb143, 24, none⟩ = some (.slice A1_24 l1_24.length c1_24) := (blk_cell BK143.out 24).trans rfl; have hfz30_0 := blk_frozen BK143.out 0; have hfz30_1 := blk_frozen BK143.out 1; have hfz30_2 := blk_frozen BK143.out 2; have hfz30_3 := blk_frozen BK143.out 3; have hfz30_4 := blk_frozen BK143.out 4; have hfz30_5 := blk_frozen BK143.out 5; have hfz30_6 := blk_frozen BK143.out 6; have hfz30_7 := blk_frozen BK143.out 7; have hfz30_8 := blk_frozen BK143.out 8; have hfz30_9 := blk_frozen BK143.out 9; have hfz30_10 := blk_frozen BK143.out 10; have hfz30_11 := blk_frozen BK143.out 11; have hfz30_12 := blk_frozen BK143.out 12; have hfz30_13 := blk_frozen BK143.out 13; have hfz30_14 := blk_frozen BK143.out 14; have hfz30_15 := blk_frozen BK143.out 15; have hfz30_16 := blk_frozen BK143.out 16; have hfz30_17 := blk_frozen BK143.out 17; have hfz30_18 := blk_frozen BK143.out 18; have hfz30_19 := blk_frozen BK143.out 19; have hfz30_20 := blk_frozen BK143.out 20; have hfz30_21 := blk_frozen BK143.out 21; have hfz30_22 := blk_frozen BK143.out 22; have hfz30_23 := blk_frozen BK143.out 23; have hfz30_24 := blk_frozen BK143.out 24) | ((with_reducible refine gate_callee (f := 68) rfl ?_); refine goesL_ (some 13) rfl rfl Try.func68 (by kernel_rfl) rfl #[.int .i64 a0, .int .i64 a1_0] rfl (by (try simp only [List.map_toArray, List.map_cons, List.map_nil]); first | done | rfl | (simp only [List.length_drop, List.length_take]; rfl)) ?_; (with_reducible refine (head_kinds.calls a0 a1_0 false _ A5.out).mono ?_); rintro e w' ⟨rfl, ⟨nd, rfl⟩⟩; refine ⟨_, rfl, ?_⟩))
      go_ret2
      exact ⟨by first | rfl | (simp [errW_none, errW_some] <;> rfl) | (simp [*, errW_none, errW_some] <;> rfl), by repeat (first | (with_reducible first | exact HB.out | apply below_alloc | apply pw_below_drewN | apply below_drew1 | refine below_set ?_ GE143.out) | exact HB.out)⟩
  · replace c4 := Bool.eq_false_iff.mpr c4
    subst c4
    have H1 : (some (0, 2)) = some (r1, r2) := by rw [if_neg (show ¬ (false = true) by decide)] at H; exact H
    clear H
    have H := H1
    clear H1
    simp only [Option.some.injEq, Prod.mk.injEq] at H
    obtain ⟨rfl, rfl⟩ := H
    go_enter Try.func49, Try.ntmps49
    go_wp2_with (first | ((with_reducible refine gate_dst (N := 3) rfl ?_); refine box_event ?hg (N := 3) ?hd (cs := #[.int .i64 a1_0, .bool a1_1, .bool a1_2, .int .i64 a1_3, .int .i64 a1_4, .string a1_5, .string a1_6, .bool a1_7, .int .i64 a1_8, .string a1_9, .bool a1_10, .string a1_11, .bool a1_12, .string a1_13, .bool a1_14, .string a1_15, .string a1_16, .int .i64 a1_17, .bool a1_18, .slice A1_19 l1_19.length c1_19, .bool a1_20, .int .i64 a1_21, .slice A1_22 l1_22.length c1_22, .slice A1_23 l1_23.length c1_23, .slice A1_24 l1_24.length c1_24]) (t := 48) ?hr ?_; (case hd => rfl); (case hg => rfl); (case hr => first | (go_simp; done) | (go_simp; rfl)); intro gb143 hg w31 hbox hb; have n0_ := Aside0.mk (below_step (by repeat (first | (with_reducible first | exact HB.out | apply below_alloc | apply pw_below_drewN | apply below_drew1) | exact HB.out)) hb); have n1_ := Aside0.mk (hbox); have n2_ := Aside0.mk ((by rw [hg]; exact (below_size (by repeat (first | (with_reducible first | exact HB.out | apply below_alloc | apply pw_below_drewN | apply below_drew1) | exact HB.out))) : w.heap.size ≤ gb143)); have n3_ := Aside0.mk ((by rw [hg]; exact (below_size (by repeat (first | (with_reducible first | exact HB.out | apply below_alloc | apply pw_below_drewN | apply below_drew1) | exact HB.out))) : w.heap.size ≤ gb143)); clear HB; have HB := n0_; have BK143 := n1_; have GW143 := n2_; have GE143 := n3_; clear n0_ n1_ n2_ n3_; clear hb hbox hg) | ((with_reducible refine gate_callee (f := 67) rfl ?_); refine goesL_ (some 8) rfl rfl Try.func67 (by kernel_rfl) rfl #[.int .i64 a0] rfl (by (try simp only [List.map_toArray, List.map_cons, List.map_nil]); first | done | rfl | (simp only [List.length_drop, List.length_take]; rfl)) ?_; (with_reducible refine (head_known.calls a0 false _ A3.out).mono ?_); rintro e w' ⟨rfl, ⟨nd, rfl⟩⟩; refine ⟨_, rfl, ?_⟩))
    go_ret2
    exact ⟨by first | rfl | (simp [errW_none, errW_some] <;> rfl) | (simp [*, errW_none, errW_some] <;> rfl), by repeat (first | (with_reducible first | exact HB.out | apply below_alloc | apply pw_below_drewN | apply below_drew1 | refine below_set ?_ GE143.out) | exact HB.out)⟩

end Go.Proofs.Ytngmipfobcaojaa.HA
end

-- YtngmipfobcaojaaHA38
section
namespace Go.Proofs.Ytngmipfobcaojaa.HA
open Go.RowKit Go.Proofs.YtngmipfobcaojaaW.PrintWords Go.Proofs.YtngmipfobcaojaaW.PrintLast Go.Proofs.YtngmipfobcaojaaW.PrintMore
attribute [local go_sem] max2_int min2_int max_two min_two max_three min_three max_four min_four

def prop_Valid.f (a0 : Int) (l1 : List (S27)) : Option (Int) := (prop_Bytes.f a0 l1).bind fun bt141 => (some bt141.2)
set_option maxHeartbeats 8000000 in
set_option maxRecDepth 100000 in
theorem prop_Valid.calls (a0 : Int) (A1 : Option Addr) (c1 : Nat) (l1 : List (S27)) (r : Int) (w : World) (hr1 : Kd.C k27 w A1 l1.length l1) (hc1 : l1.length ≤ c1) (h : prop_Valid.f a0 l1 = some r) :
    Calls Try.prog 16 #[.int .i64 a0, .slice A1 l1.length c1] w fun e w' => e = .returned (.int .i64 r) ∧ Below w.heap.size w w' := by
  have HR1 := Aside0.mk hr1
  have HC1 := Aside0.mk hc1
  clear hr1 hc1
  have HB := Aside0.mk (Below.refl w.heap.size w)
  have H : ((prop_Bytes.f a0 l1).bind fun bt141 => (some bt141.2)) = some r := h
  clear h
  replace H := Option.bind_eq_some_iff.mp H
  obtain ⟨⟨t141, t142⟩, A30, H⟩ := H
  replace H : (some t142) = some r := H
  have A3 := Aside0.mk A30
  clear A30
  obtain rfl := Option.some.inj H
  go_enter Try.func16, Try.ntmps16
  go_wp2_with (first | ((with_reducible refine gate_callee (f := 18) rfl ?_); refine goesL_ (some 10) rfl rfl Try.func18 (by kernel_rfl) rfl #[.int .i64 a0, .slice A1 l1.length c1] rfl (by (try simp only [List.map_toArray, List.map_cons, List.map_nil]); first | done | rfl | (simp only [List.length_drop, List.length_take]; rfl)) ?_; (with_reducible refine (prop_Bytes.calls a0 _ _ l1 t141 t142 _ ?side1 ?side2 A3.out).mono ?_); (case side1 => repeat (first | exact HR1.out | (with_reducible refine Kd.C_alloc ?_ _) | (with_reducible refine Kd.C_drewN ?_ _) | (with_reducible refine Kd.C_drew ?_))); (case side2 => exact HC1.out); rintro e w4 ⟨rfl, hb⟩; refine ⟨_, rfl, ?_⟩; have n0_ := Aside0.mk (below_step (by repeat (first | (with_reducible first | exact HB.out | apply below_alloc | apply pw_below_drewN | apply below_drew1) | exact HB.out)) hb); clear HB; have HB := n0_; clear n0_; (try clear hb); (try clear hb2); (try clear hk); (try clear hi)))
  go_ret
  exact ⟨by first | rfl | (simp [errW_none, errW_some] <;> rfl) | (simp [*, errW_none, errW_some] <;> rfl), by repeat (first | (with_reducible first | exact HB.out | apply below_alloc | apply pw_below_drewN | apply below_drew1) | exact HB.out)⟩

end Go.Proofs.Ytngmipfobcaojaa.HA
end

-- YtngmipfobcaojaaHAhPubLooks
section
namespace Go.Proofs.Ytngmipfobcaojaa.HA
open Go.RowKit Go.Proofs.YtngmipfobcaojaaW.PrintWords Go.Proofs.YtngmipfobcaojaaW.PrintLast Go.Proofs.YtngmipfobcaojaaW.PrintMore
def lookV (k : Nat) (a0 : Int) (a1_0 : Int) (a1_1 : Bool) (a1_2 : Bool) (a1_3 : Int) (a1_4 : Int) (a1_5 : ByteArray) (a1_6 : ByteArray) (a1_7 : Bool) (a1_8 : Int) (a1_9 : ByteArray) (a1_10 : Bool) (a1_11 : ByteArray) (a1_12 : Bool) (a1_13 : ByteArray) (a1_14 : Bool) (a1_15 : ByteArray) (a1_16 : ByteArray) (a1_17 : Int) (a1_18 : Bool) (l1_19 : List S27) (a1_20 : Bool) (a1_21 : Int) (l1_22 : List Int) (l1_23 : List S119) (l1_24 : List S27) : Nat → Option Int
  | 0 => (publish_known.f a0).bind fun t => some (if t = true ∧ a1_0 = 3 then 0 else 2)
  | 1 => (head_Flags.f k a0 a1_0 a1_1 a1_2 a1_3 a1_4 a1_5 a1_6 a1_7 a1_8 a1_9 a1_10 a1_11 a1_12 a1_13 a1_14 a1_15 a1_16 a1_17 a1_18 l1_19 a1_20 a1_21 l1_22 l1_23 l1_24).bind fun b => some b.2
  | 2 => (publish_fields.f k a0 a1_0 a1_1 a1_2 a1_3 a1_4 a1_5 a1_6 a1_7 a1_8 a1_9 a1_10 a1_11 a1_12 a1_13 a1_14 a1_15 a1_16 a1_17 a1_18 l1_19 a1_20 a1_21 l1_22 l1_23 l1_24).bind fun t => some (if t = true then 0 else 2)
  | 3 => (publish_named.f k a0 a1_0 a1_1 a1_2 a1_3 a1_4 a1_5 a1_6 a1_7 a1_8 a1_9 a1_10 a1_11 a1_12 a1_13 a1_14 a1_15 a1_16 a1_17 a1_18 l1_19 a1_20 a1_21 l1_22 l1_23 l1_24).bind fun t => some (if t = true then 0 else 10)
  | _ => prop_Valid.f 3 l1_24
def restV (k : Nat) (a0 : Int) (a1_0 : Int) (a1_1 : Bool) (a1_2 : Bool) (a1_3 : Int) (a1_4 : Int) (a1_5 : ByteArray) (a1_6 : ByteArray) (a1_7 : Bool) (a1_8 : Int) (a1_9 : ByteArray) (a1_10 : Bool) (a1_11 : ByteArray) (a1_12 : Bool) (a1_13 : ByteArray) (a1_14 : Bool) (a1_15 : ByteArray) (a1_16 : ByteArray) (a1_17 : Int) (a1_18 : Bool) (l1_19 : List S27) (a1_20 : Bool) (a1_21 : Int) (l1_22 : List Int) (l1_23 : List S119) (l1_24 : List S27) : Nat → Nat → Option Int
  | 0, _ => some 0
  | d + 1, i => (lookV k a0 a1_0 a1_1 a1_2 a1_3 a1_4 a1_5 a1_6 a1_7 a1_8 a1_9 a1_10 a1_11 a1_12 a1_13 a1_14 a1_15 a1_16 a1_17 a1_18 l1_19 a1_20 a1_21 l1_22 l1_23 l1_24 i).bind fun e => if e = 0 then restV k a0 a1_0 a1_1 a1_2 a1_3 a1_4 a1_5 a1_6 a1_7 a1_8 a1_9 a1_10 a1_11 a1_12 a1_13 a1_14 a1_15 a1_16 a1_17 a1_18 l1_19 a1_20 a1_21 l1_22 l1_23 l1_24 d (i + 1) else some e
def publish_Valid.f (k : Nat) (a0 : Int) (a1_0 : Int) (a1_1 : Bool) (a1_2 : Bool) (a1_3 : Int) (a1_4 : Int) (a1_5 : ByteArray) (a1_6 : ByteArray) (a1_7 : Bool) (a1_8 : Int) (a1_9 : ByteArray) (a1_10 : Bool) (a1_11 : ByteArray) (a1_12 : Bool) (a1_13 : ByteArray) (a1_14 : Bool) (a1_15 : ByteArray) (a1_16 : ByteArray) (a1_17 : Int) (a1_18 : Bool) (l1_19 : List S27) (a1_20 : Bool) (a1_21 : Int) (l1_22 : List Int) (l1_23 : List S119) (l1_24 : List S27) : Option Int := restV k a0 a1_0 a1_1 a1_2 a1_3 a1_4 a1_5 a1_6 a1_7 a1_8 a1_9 a1_10 a1_11 a1_12 a1_13 a1_14 a1_15 a1_16 a1_17 a1_18 l1_19 a1_20 a1_21 l1_22 l1_23 l1_24 5 0
set_option maxHeartbeats 4000000 in
set_option maxRecDepth 100000 in
theorem lookC0a (k : Nat) (v : Int) (P : Pk) (W : World) (gv gp : Nat) (HB : PkBox v P W gv gp) (hk : publish_known.f v = some false) :
    Calls Try.prog 45 #[.pointer (some ⟨gv, 0, none⟩), .pointer (some ⟨gp, 0, none⟩)] W fun e w' => e = .returned (.int .i64 2) ∧ Below W.heap.size W w' := by
  have hcv := HB.cv
  have hc0 := HB.c0
  have HX := Aside0.mk HB
  clear HB
  have HW : Aside0 (publish_when.f true 2 = some 2) := ⟨rfl⟩
  go_enter Try.func45, Try.ntmps45
  go_wp2_with (first | (go_at_call 47; refine (publish_known.calls v false _ hk).mono ?_; rintro e w1 ⟨rfl, ⟨⟨n1, rfl⟩⟩⟩) | (go_at_call 46; refine (publish_when.calls _ _ _ _ (HW.out)).mono ?_; rintro e w2 ⟨rfl, ⟨⟨n2, rfl⟩⟩⟩))
  go_ret
  exact ⟨rfl, by repeat (first | exact Below.refl _ _ | apply pw_below_drewN | apply below_drew1)⟩
set_option maxHeartbeats 4000000 in
set_option maxRecDepth 100000 in
theorem lookC0b (k : Nat) (v : Int) (P : Pk) (W : World) (gv gp : Nat) (HB : PkBox v P W gv gp) (hk : publish_known.f v = some true) (h3 : P.a0 = 3) :
    Calls Try.prog 45 #[.pointer (some ⟨gv, 0, none⟩), .pointer (some ⟨gp, 0, none⟩)] W fun e w' => e = .returned (.int .i64 0) ∧ Below W.heap.size W w' := by
  have hcv := HB.cv
  have hc0 := HB.c0
  have HX := Aside0.mk HB
  clear HB
  have HW : Aside0 (publish_when.f false 2 = some 0) := ⟨rfl⟩
  have t3 : (P.a0 != 3) = false := by simpa using h3
  have t3' : (P.a0 == 3) = true := by simpa using h3
  clear h3
  go_enter Try.func45, Try.ntmps45
  go_wp2_with (first | (go_at_call 47; refine (publish_known.calls v true _ hk).mono ?_; rintro e w1 ⟨rfl, ⟨⟨n1, rfl⟩⟩⟩) | (go_at_call 46; refine (publish_when.calls _ _ _ _ (HW.out)).mono ?_; rintro e w2 ⟨rfl, ⟨⟨n2, rfl⟩⟩⟩))
  go_ret
  exact ⟨rfl, by repeat (first | exact Below.refl _ _ | apply pw_below_drewN | apply below_drew1)⟩
set_option maxHeartbeats 4000000 in
set_option maxRecDepth 100000 in
theorem lookC0c (k : Nat) (v : Int) (P : Pk) (W : World) (gv gp : Nat) (HB : PkBox v P W gv gp) (hk : publish_known.f v = some true) (h3 : ¬ P.a0 = 3) :
    Calls Try.prog 45 #[.pointer (some ⟨gv, 0, none⟩), .pointer (some ⟨gp, 0, none⟩)] W fun e w' => e = .returned (.int .i64 2) ∧ Below W.heap.size W w' := by
  have hcv := HB.cv
  have hc0 := HB.c0
  have HX := Aside0.mk HB
  clear HB
  have HW : Aside0 (publish_when.f true 2 = some 2) := ⟨rfl⟩
  have t3 : (P.a0 != 3) = true := by simpa using h3
  have t3' : (P.a0 == 3) = false := by simpa using h3
  clear h3
  go_enter Try.func45, Try.ntmps45
  go_wp2_with (first | (go_at_call 47; refine (publish_known.calls v true _ hk).mono ?_; rintro e w1 ⟨rfl, ⟨⟨n1, rfl⟩⟩⟩) | (go_at_call 46; refine (publish_when.calls _ _ _ _ (HW.out)).mono ?_; rintro e w2 ⟨rfl, ⟨⟨n2, rfl⟩⟩⟩))
  go_ret
  exact ⟨rfl, by repeat (first | exact Below.refl _ _ | apply pw_below_drewN | apply below_drew1)⟩
set_option maxHeartbeats 4000000 in
set_option maxRecDepth 100000 in
theorem lookC1 (k : Nat) (v : Int) (P : Pk) (W : World) (gv gp : Nat) (HB : PkBox v P W gv gp) (r1 r2 : Int) (h : head_Flags.f k v P.a0 P.a1 P.a2 P.a3 P.a4 P.a5 P.a6 P.a7 P.a8 P.a9 P.a10 P.a11 P.a12 P.a13 P.a14 P.a15 P.a16 P.a17 P.a18 P.l19 P.a20 P.a21 P.l22 P.l23 P.l24 = some (r1, r2)) :
    Calls Try.prog 48 #[.pointer (some ⟨gv, 0, none⟩), .pointer (some ⟨gp, 0, none⟩)] W fun e w' => e = .returned (.int .i64 r2) ∧ Below W.heap.size W w' := by
  have hcv := HB.cv
  have HX := Aside0.mk HB
  clear HB
  have H := Aside0.mk h
  clear h
  go_enter Try.func48, Try.ntmps48
  go_wp2_with (first | ((with_reducible refine gate_packet rfl ?_); refine wpList_load_row rfl 48 _ rfl _ (by rfl) 48 _ _ _ HX.out.row Try.underlying48 rfl (by kernel_rfl) ?_) | (go_at_call 49; refine (head_Flags.calls k v P.a0 P.a1 P.a2 P.a3 P.a4 P.a5 P.a6 P.a7 P.a8 P.a9 P.a10 P.a11 P.a12 P.a13 P.a14 P.a15 P.a16 P.a17 P.a18 P.A19 P.c19 P.l19 P.a20 P.a21 P.A22 P.c22 P.l22 P.A23 P.c23 P.l23 P.A24 P.c24 P.l24 r1 r2 _ HX.out.pc.r19 HX.out.pc.m19 HX.out.pc.r22 HX.out.pc.m22 HX.out.pc.r23 HX.out.pc.m23 HX.out.pc.r24 HX.out.pc.m24 H.out).mono ?_; rintro e w1 ⟨rfl, hb⟩; have HB1 := Aside0.mk hb; clear hb))
  go_ret
  exact ⟨rfl, by repeat (with_reducible first | exact HB1.out | apply pw_below_drewN | apply below_drew1)⟩
set_option maxHeartbeats 4000000 in
set_option maxRecDepth 100000 in
theorem lookC2t (k : Nat) (v : Int) (P : Pk) (W : World) (gv gp : Nat) (HB : PkBox v P W gv gp) (h : publish_fields.f k v P.a0 P.a1 P.a2 P.a3 P.a4 P.a5 P.a6 P.a7 P.a8 P.a9 P.a10 P.a11 P.a12 P.a13 P.a14 P.a15 P.a16 P.a17 P.a18 P.l19 P.a20 P.a21 P.l22 P.l23 P.l24 = some true) :
    Calls Try.prog 50 #[.pointer (some ⟨gv, 0, none⟩), .pointer (some ⟨gp, 0, none⟩)] W fun e w' => e = .returned (.int .i64 0) ∧ Below W.heap.size W w' := by
  have hcv := HB.cv
  have HX := Aside0.mk HB
  clear HB
  have H := Aside0.mk h
  clear h
  have HW : Aside0 (publish_when.f false 2 = some 0) := ⟨rfl⟩
  go_enter Try.func50, Try.ntmps50
  go_wp2_with (first | ((with_reducible refine gate_packet rfl ?_); refine wpList_load_row rfl 48 _ rfl _ (by rfl) 48 _ _ _ HX.out.row Try.underlying48 rfl (by kernel_rfl) ?_) | (go_at_call 51; refine (publish_fields.calls k v P.a0 P.a1 P.a2 P.a3 P.a4 P.a5 P.a6 P.a7 P.a8 P.a9 P.a10 P.a11 P.a12 P.a13 P.a14 P.a15 P.a16 P.a17 P.a18 P.A19 P.c19 P.l19 P.a20 P.a21 P.A22 P.c22 P.l22 P.A23 P.c23 P.l23 P.A24 P.c24 P.l24 true _ HX.out.pc.r19 HX.out.pc.m19 HX.out.pc.r22 HX.out.pc.m22 HX.out.pc.r23 HX.out.pc.m23 HX.out.pc.r24 HX.out.pc.m24 H.out).mono ?_; rintro e w1 ⟨rfl, hb⟩; have HB1 := Aside0.mk hb; clear hb) | (go_at_call 46; refine (publish_when.calls _ _ _ _ (HW.out)).mono ?_; rintro e w2 ⟨rfl, ⟨⟨n2, rfl⟩⟩⟩))
  go_ret
  exact ⟨rfl, by repeat (with_reducible first | exact HB1.out | apply pw_below_drewN | apply below_drew1)⟩
set_option maxHeartbeats 4000000 in
set_option maxRecDepth 100000 in
theorem lookC2f (k : Nat) (v : Int) (P : Pk) (W : World) (gv gp : Nat) (HB : PkBox v P W gv gp) (h : publish_fields.f k v P.a0 P.a1 P.a2 P.a3 P.a4 P.a5 P.a6 P.a7 P.a8 P.a9 P.a10 P.a11 P.a12 P.a13 P.a14 P.a15 P.a16 P.a17 P.a18 P.l19 P.a20 P.a21 P.l22 P.l23 P.l24 = some false) :
    Calls Try.prog 50 #[.pointer (some ⟨gv, 0, none⟩), .pointer (some ⟨gp, 0, none⟩)] W fun e w' => e = .returned (.int .i64 2) ∧ Below W.heap.size W w' := by
  have hcv := HB.cv
  have HX := Aside0.mk HB
  clear HB
  have H := Aside0.mk h
  clear h
  have HW : Aside0 (publish_when.f true 2 = some 2) := ⟨rfl⟩
  go_enter Try.func50, Try.ntmps50
  go_wp2_with (first | ((with_reducible refine gate_packet rfl ?_); refine wpList_load_row rfl 48 _ rfl _ (by rfl) 48 _ _ _ HX.out.row Try.underlying48 rfl (by kernel_rfl) ?_) | (go_at_call 51; refine (publish_fields.calls k v P.a0 P.a1 P.a2 P.a3 P.a4 P.a5 P.a6 P.a7 P.a8 P.a9 P.a10 P.a11 P.a12 P.a13 P.a14 P.a15 P.a16 P.a17 P.a18 P.A19 P.c19 P.l19 P.a20 P.a21 P.A22 P.c22 P.l22 P.A23 P.c23 P.l23 P.A24 P.c24 P.l24 false _ HX.out.pc.r19 HX.out.pc.m19 HX.out.pc.r22 HX.out.pc.m22 HX.out.pc.r23 HX.out.pc.m23 HX.out.pc.r24 HX.out.pc.m24 H.out).mono ?_; rintro e w1 ⟨rfl, hb⟩; have HB1 := Aside0.mk hb; clear hb) | (go_at_call 46; refine (publish_when.calls _ _ _ _ (HW.out)).mono ?_; rintro e w2 ⟨rfl, ⟨⟨n2, rfl⟩⟩⟩))
  go_ret
  exact ⟨rfl, by repeat (with_reducible first | exact HB1.out | apply pw_below_drewN | apply below_drew1)⟩
set_option maxHeartbeats 4000000 in
set_option maxRecDepth 100000 in
theorem lookC3t (k : Nat) (v : Int) (P : Pk) (W : World) (gv gp : Nat) (HB : PkBox v P W gv gp) (h : publish_named.f k v P.a0 P.a1 P.a2 P.a3 P.a4 P.a5 P.a6 P.a7 P.a8 P.a9 P.a10 P.a11 P.a12 P.a13 P.a14 P.a15 P.a16 P.a17 P.a18 P.l19 P.a20 P.a21 P.l22 P.l23 P.l24 = some true) :
    Calls Try.prog 52 #[.pointer (some ⟨gv, 0, none⟩), .pointer (some ⟨gp, 0, none⟩)] W fun e w' => e = .returned (.int .i64 0) ∧ Below W.heap.size W w' := by
  have hcv := HB.cv
  have HX := Aside0.mk HB
  clear HB
  have H := Aside0.mk h
  clear h
  have HW : Aside0 (publish_when.f false 10 = some 0) := ⟨rfl⟩
  go_enter Try.func52, Try.ntmps52
  go_wp2_with (first | ((with_reducible refine gate_packet rfl ?_); refine wpList_load_row rfl 48 _ rfl _ (by rfl) 48 _ _ _ HX.out.row Try.underlying48 rfl (by kernel_rfl) ?_) | (go_at_call 53; refine (publish_named.calls k v P.a0 P.a1 P.a2 P.a3 P.a4 P.a5 P.a6 P.a7 P.a8 P.a9 P.a10 P.a11 P.a12 P.a13 P.a14 P.a15 P.a16 P.a17 P.a18 P.A19 P.c19 P.l19 P.a20 P.a21 P.A22 P.c22 P.l22 P.A23 P.c23 P.l23 P.A24 P.c24 P.l24 true _ HX.out.pc.r19 HX.out.pc.m19 HX.out.pc.r22 HX.out.pc.m22 HX.out.pc.r23 HX.out.pc.m23 HX.out.pc.r24 HX.out.pc.m24 H.out).mono ?_; rintro e w1 ⟨rfl, hb⟩; have HB1 := Aside0.mk hb; clear hb) | (go_at_call 46; refine (publish_when.calls _ _ _ _ (HW.out)).mono ?_; rintro e w2 ⟨rfl, ⟨⟨n2, rfl⟩⟩⟩))
  go_ret
  exact ⟨rfl, by repeat (with_reducible first | exact HB1.out | apply pw_below_drewN | apply below_drew1)⟩
set_option maxHeartbeats 4000000 in
set_option maxRecDepth 100000 in
theorem lookC3f (k : Nat) (v : Int) (P : Pk) (W : World) (gv gp : Nat) (HB : PkBox v P W gv gp) (h : publish_named.f k v P.a0 P.a1 P.a2 P.a3 P.a4 P.a5 P.a6 P.a7 P.a8 P.a9 P.a10 P.a11 P.a12 P.a13 P.a14 P.a15 P.a16 P.a17 P.a18 P.l19 P.a20 P.a21 P.l22 P.l23 P.l24 = some false) :
    Calls Try.prog 52 #[.pointer (some ⟨gv, 0, none⟩), .pointer (some ⟨gp, 0, none⟩)] W fun e w' => e = .returned (.int .i64 10) ∧ Below W.heap.size W w' := by
  have hcv := HB.cv
  have HX := Aside0.mk HB
  clear HB
  have H := Aside0.mk h
  clear h
  have HW : Aside0 (publish_when.f true 10 = some 10) := ⟨rfl⟩
  go_enter Try.func52, Try.ntmps52
  go_wp2_with (first | ((with_reducible refine gate_packet rfl ?_); refine wpList_load_row rfl 48 _ rfl _ (by rfl) 48 _ _ _ HX.out.row Try.underlying48 rfl (by kernel_rfl) ?_) | (go_at_call 53; refine (publish_named.calls k v P.a0 P.a1 P.a2 P.a3 P.a4 P.a5 P.a6 P.a7 P.a8 P.a9 P.a10 P.a11 P.a12 P.a13 P.a14 P.a15 P.a16 P.a17 P.a18 P.A19 P.c19 P.l19 P.a20 P.a21 P.A22 P.c22 P.l22 P.A23 P.c23 P.l23 P.A24 P.c24 P.l24 false _ HX.out.pc.r19 HX.out.pc.m19 HX.out.pc.r22 HX.out.pc.m22 HX.out.pc.r23 HX.out.pc.m23 HX.out.pc.r24 HX.out.pc.m24 H.out).mono ?_; rintro e w1 ⟨rfl, hb⟩; have HB1 := Aside0.mk hb; clear hb) | (go_at_call 46; refine (publish_when.calls _ _ _ _ (HW.out)).mono ?_; rintro e w2 ⟨rfl, ⟨⟨n2, rfl⟩⟩⟩))
  go_ret
  exact ⟨rfl, by repeat (with_reducible first | exact HB1.out | apply pw_below_drewN | apply below_drew1)⟩
set_option maxHeartbeats 4000000 in
set_option maxRecDepth 100000 in
theorem lookC4 (k : Nat) (v : Int) (P : Pk) (W : World) (gv gp : Nat) (HB : PkBox v P W gv gp) (r : Int) (h : prop_Valid.f 3 P.l24 = some r) :
    Calls Try.prog 54 #[.pointer (some ⟨gp, 0, none⟩)] W fun e w' => e = .returned (.int .i64 r) ∧ Below W.heap.size W w' := by
  have hc24 := HB.c24
  have HX := Aside0.mk HB
  clear HB
  have H := Aside0.mk h
  clear h
  go_enter Try.func54, Try.ntmps54
  go_wp2_with (first | (go_at_call 16; refine (prop_Valid.calls 3 P.A24 P.c24 P.l24 r _ HX.out.pc.r24 HX.out.pc.m24 H.out).mono ?_; rintro e w1 ⟨rfl, hb⟩; have HB1 := Aside0.mk hb; clear hb))
  go_ret
  exact ⟨rfl, by repeat (with_reducible first | exact HB1.out | apply pw_below_drewN | apply below_drew1)⟩
end Go.Proofs.Ytngmipfobcaojaa.HA
end

-- YtngmipfobcaojaaHAhPubValid
section
namespace Go.Proofs.Ytngmipfobcaojaa.HA
open Go.RowKit Go.Proofs.YtngmipfobcaojaaW.PrintWords Go.Proofs.YtngmipfobcaojaaW.PrintLast Go.Proofs.YtngmipfobcaojaaW.PrintMore
def looksObj (gv gp : Nat) : Obj := .cells #[.func (.func 45) #[] #[.pointer (some ⟨gv, 0, none⟩), .pointer (some ⟨gp, 0, none⟩)], .func (.func 48) #[] #[.pointer (some ⟨gv, 0, none⟩), .pointer (some ⟨gp, 0, none⟩)], .func (.func 50) #[] #[.pointer (some ⟨gv, 0, none⟩), .pointer (some ⟨gp, 0, none⟩)], .func (.func 52) #[] #[.pointer (some ⟨gv, 0, none⟩), .pointer (some ⟨gp, 0, none⟩)], .func (.func 54) #[] #[.pointer (some ⟨gp, 0, none⟩)]] 79 (0, 0)
theorem look_any0 (k : Nat) (v : Int) (P : Pk) (W : World) (gv gp : Nat) (HB : PkBox v P W gv gp) (r : Int) (h : lookV k v P.a0 P.a1 P.a2 P.a3 P.a4 P.a5 P.a6 P.a7 P.a8 P.a9 P.a10 P.a11 P.a12 P.a13 P.a14 P.a15 P.a16 P.a17 P.a18 P.l19 P.a20 P.a21 P.l22 P.l23 P.l24 0 = some r) :
    Calls Try.prog 45 #[.pointer (some ⟨gv, 0, none⟩), .pointer (some ⟨gp, 0, none⟩)] W fun e w' => e = .returned (.int .i64 r) ∧ Below W.heap.size W w' := by
  have h : ((publish_known.f v).bind fun t => some (if t = true ∧ P.a0 = 3 then (0 : Int) else 2)) = some r := h
  obtain ⟨t, ht, h⟩ := Option.bind_eq_some_iff.mp h
  obtain rfl := Option.some.inj h
  cases t with
  | false => exact lookC0a k v P W gv gp HB ht
  | true =>
    by_cases h3 : P.a0 = 3
    · rw [if_pos ⟨rfl, h3⟩]; exact lookC0b k v P W gv gp HB ht h3
    · rw [if_neg (fun q => h3 q.2)]; exact lookC0c k v P W gv gp HB ht h3
theorem look_any1 (k : Nat) (v : Int) (P : Pk) (W : World) (gv gp : Nat) (HB : PkBox v P W gv gp) (r : Int) (h : lookV k v P.a0 P.a1 P.a2 P.a3 P.a4 P.a5 P.a6 P.a7 P.a8 P.a9 P.a10 P.a11 P.a12 P.a13 P.a14 P.a15 P.a16 P.a17 P.a18 P.l19 P.a20 P.a21 P.l22 P.l23 P.l24 1 = some r) :
    Calls Try.prog 48 #[.pointer (some ⟨gv, 0, none⟩), .pointer (some ⟨gp, 0, none⟩)] W fun e w' => e = .returned (.int .i64 r) ∧ Below W.heap.size W w' := by
  have h : ((head_Flags.f k v P.a0 P.a1 P.a2 P.a3 P.a4 P.a5 P.a6 P.a7 P.a8 P.a9 P.a10 P.a11 P.a12 P.a13 P.a14 P.a15 P.a16 P.a17 P.a18 P.l19 P.a20 P.a21 P.l22 P.l23 P.l24).bind fun b => some b.2) = some r := h
  obtain ⟨⟨r1, r2⟩, ht, h⟩ := Option.bind_eq_some_iff.mp h
  obtain rfl : r2 = r := Option.some.inj h
  exact lookC1 k v P W gv gp HB r1 r2 ht
theorem look_any2 (k : Nat) (v : Int) (P : Pk) (W : World) (gv gp : Nat) (HB : PkBox v P W gv gp) (r : Int) (h : lookV k v P.a0 P.a1 P.a2 P.a3 P.a4 P.a5 P.a6 P.a7 P.a8 P.a9 P.a10 P.a11 P.a12 P.a13 P.a14 P.a15 P.a16 P.a17 P.a18 P.l19 P.a20 P.a21 P.l22 P.l23 P.l24 2 = some r) :
    Calls Try.prog 50 #[.pointer (some ⟨gv, 0, none⟩), .pointer (some ⟨gp, 0, none⟩)] W fun e w' => e = .returned (.int .i64 r) ∧ Below W.heap.size W w' := by
  have h : ((publish_fields.f k v P.a0 P.a1 P.a2 P.a3 P.a4 P.a5 P.a6 P.a7 P.a8 P.a9 P.a10 P.a11 P.a12 P.a13 P.a14 P.a15 P.a16 P.a17 P.a18 P.l19 P.a20 P.a21 P.l22 P.l23 P.l24).bind fun t => some (if t = true then (0 : Int) else 2)) = some r := h
  obtain ⟨t, ht, h⟩ := Option.bind_eq_some_iff.mp h
  obtain rfl := Option.some.inj h
  cases t with
  | true => exact lookC2t k v P W gv gp HB ht
  | false => exact lookC2f k v P W gv gp HB ht
theorem look_any3 (k : Nat) (v : Int) (P : Pk) (W : World) (gv gp : Nat) (HB : PkBox v P W gv gp) (r : Int) (h : lookV k v P.a0 P.a1 P.a2 P.a3 P.a4 P.a5 P.a6 P.a7 P.a8 P.a9 P.a10 P.a11 P.a12 P.a13 P.a14 P.a15 P.a16 P.a17 P.a18 P.l19 P.a20 P.a21 P.l22 P.l23 P.l24 3 = some r) :
    Calls Try.prog 52 #[.pointer (some ⟨gv, 0, none⟩), .pointer (some ⟨gp, 0, none⟩)] W fun e w' => e = .returned (.int .i64 r) ∧ Below W.heap.size W w' := by
  have h : ((publish_named.f k v P.a0 P.a1 P.a2 P.a3 P.a4 P.a5 P.a6 P.a7 P.a8 P.a9 P.a10 P.a11 P.a12 P.a13 P.a14 P.a15 P.a16 P.a17 P.a18 P.l19 P.a20 P.a21 P.l22 P.l23 P.l24).bind fun t => some (if t = true then (0 : Int) else 10)) = some r := h
  obtain ⟨t, ht, h⟩ := Option.bind_eq_some_iff.mp h
  obtain rfl := Option.some.inj h
  cases t with
  | true => exact lookC3t k v P W gv gp HB ht
  | false => exact lookC3f k v P W gv gp HB ht
theorem look_any4 (k : Nat) (v : Int) (P : Pk) (W : World) (gv gp : Nat) (HB : PkBox v P W gv gp) (r : Int) (h : lookV k v P.a0 P.a1 P.a2 P.a3 P.a4 P.a5 P.a6 P.a7 P.a8 P.a9 P.a10 P.a11 P.a12 P.a13 P.a14 P.a15 P.a16 P.a17 P.a18 P.l19 P.a20 P.a21 P.l22 P.l23 P.l24 4 = some r) :
    Calls Try.prog 54 #[.pointer (some ⟨gp, 0, none⟩)] W fun e w' => e = .returned (.int .i64 r) ∧ Below W.heap.size W w' := by
  exact lookC4 k v P W gv gp HB r h
theorem runs_makeFunc (fn : Fn) (first cap : Array Value) (w : World) : (Instr.makeFunc fn first cap).run Try.prog w = .ok (.func fn first cap) w := rfl
set_option maxHeartbeats 4000000 in
set_option maxRecDepth 100000 in
theorem valid9 (k : Nat) (v : Int) (P : Pk) (r : Int) (w : World) (PC : PkC P w) (h : restV k v P.a0 P.a1 P.a2 P.a3 P.a4 P.a5 P.a6 P.a7 P.a8 P.a9 P.a10 P.a11 P.a12 P.a13 P.a14 P.a15 P.a16 P.a17 P.a18 P.l19 P.a20 P.a21 P.l22 P.l23 P.l24 5 0 = some r) :
    Calls Try.prog 24 #[.int .i64 v, .agg P.cells] w fun e w' => e = .returned (.int .i64 r) ∧ Below w.heap.size w w' := by
  have hmf := runs_makeFunc
  have H := Aside0.mk h
  have HP := Aside0.mk PC
  clear h PC
  unfold Pk.cells
  go_enter Try.func24, Try.ntmps24
  go_wp2
  obtain ⟨w3, hw3⟩ : ∃ w3 : World, w3 = ((w.alloc (.cells #[.int .i64 v] 3)).alloc (.cells #[.int .i64 P.a0, .bool P.a1, .bool P.a2, .int .i64 P.a3, .int .i64 P.a4, .string P.a5, .string P.a6, .bool P.a7, .int .i64 P.a8, .string P.a9, .bool P.a10, .string P.a11, .bool P.a12, .string P.a13, .bool P.a14, .string P.a15, .string P.a16, .int .i64 P.a17, .bool P.a18, .slice P.A19 P.l19.length P.c19, .bool P.a20, .int .i64 P.a21, .slice P.A22 P.l22.length P.c22, .slice P.A23 P.l23.length P.c23, .slice P.A24 P.l24.length P.c24] 48)).alloc (looksObj w.heap.size (w.heap.size + 1)) := ⟨_, rfl⟩
  have hb3 : Below w.heap.size w w3 := by rw [hw3]; exact below_alloc (below_alloc (below_alloc (Below.refl _ _) _) _) _
  have hB3 : PkBox v P w3 w.heap.size (w.heap.size + 1) := by
    refine ⟨?_, ?_, HP.out.below hb3⟩
    · rw [hw3]; exact blk_alloc (blk_alloc (heap_alloc_new w _) _) _
    · rw [hw3]; refine blk_alloc ?_ _; have := heap_alloc_new (w.alloc (.cells #[.int .i64 v] 3)) (.cells #[.int .i64 P.a0, .bool P.a1, .bool P.a2, .int .i64 P.a3, .int .i64 P.a4, .string P.a5, .string P.a6, .bool P.a7, .int .i64 P.a8, .string P.a9, .bool P.a10, .string P.a11, .bool P.a12, .string P.a13, .bool P.a14, .string P.a15, .string P.a16, .int .i64 P.a17, .bool P.a18, .slice P.A19 P.l19.length P.c19, .bool P.a20, .int .i64 P.a21, .slice P.A22 P.l22.length P.c22, .slice P.A23 P.l23.length P.c23, .slice P.A24 P.l24.length P.c24] 48); rw [show (w.alloc (.cells #[.int .i64 v] 3)).heap.size = w.heap.size + 1 by simp] at this; exact this
  have hr3 : w3.heap[w.heap.size + 1 + 1]? = some (looksObj w.heap.size (w.heap.size + 1)) := by
    rw [hw3]; have := heap_alloc_new ((w.alloc (.cells #[.int .i64 v] 3)).alloc (.cells #[.int .i64 P.a0, .bool P.a1, .bool P.a2, .int .i64 P.a3, .int .i64 P.a4, .string P.a5, .string P.a6, .bool P.a7, .int .i64 P.a8, .string P.a9, .bool P.a10, .string P.a11, .bool P.a12, .string P.a13, .bool P.a14, .string P.a15, .string P.a16, .int .i64 P.a17, .bool P.a18, .slice P.A19 P.l19.length P.c19, .bool P.a20, .int .i64 P.a21, .slice P.A22 P.l22.length P.c22, .slice P.A23 P.l23.length P.c23, .slice P.A24 P.l24.length P.c24] 48)) (looksObj w.heap.size (w.heap.size + 1)); rw [show ((w.alloc (.cells #[.int .i64 v] 3)).alloc (.cells #[.int .i64 P.a0, .bool P.a1, .bool P.a2, .int .i64 P.a3, .int .i64 P.a4, .string P.a5, .string P.a6, .bool P.a7, .int .i64 P.a8, .string P.a9, .bool P.a10, .string P.a11, .bool P.a12, .string P.a13, .bool P.a14, .string P.a15, .string P.a16, .int .i64 P.a17, .bool P.a18, .slice P.A19 P.l19.length P.c19, .bool P.a20, .int .i64 P.a21, .slice P.A22 P.l22.length P.c22, .slice P.A23 P.l23.length P.c23, .slice P.A24 P.l24.length P.c24] 48)).heap.size = w.heap.size + 1 + 1 by simp] at this; exact this
  unfold looksObj at hw3
  rw [← hw3]
  have HB3 := Aside0.mk hb3
  have HX3 := Aside0.mk hB3
  have HR3 := Aside0.mk hr3
  clear hb3 hB3 hr3 hw3 hmf HP
  obtain ⟨gp, hgp⟩ : ∃ gp, gp = w.heap.size + 1 := ⟨_, rfl⟩
  obtain ⟨gr, hgr⟩ : ∃ gr, gr = w.heap.size + 1 + 1 := ⟨_, rfl⟩
  rw [← hgr, ← hgp] at HR3
  rw [← hgp] at HX3
  rw [← hgr, ← hgp]
  clear hgr hgp
  go_loopg [17] 5 (fun gk v17 wx => ∃ (x : Int) (i : Nat), v17 = .int .i64 x ∧ x = (i : Int) ∧ i + gk = 5 ∧ Aside0 (restV k v P.a0 P.a1 P.a2 P.a3 P.a4 P.a5 P.a6 P.a7 P.a8 P.a9 P.a10 P.a11 P.a12 P.a13 P.a14 P.a15 P.a16 P.a17 P.a18 P.l19 P.a20 P.a21 P.l22 P.l23 P.l24 gk i = some r) ∧ Aside0 (PkBox v P wx w.heap.size gp) ∧ Aside0 (wx.heap[gr]? = some (looksObj w.heap.size gp)) ∧ Aside0 (Below w.heap.size w wx))
  case atStart => exact ⟨0, 0, rfl, rfl, rfl, H, HX3, HR3, HB3⟩
  case round =>
    clear H HX3 HR3 HB3
    obtain ⟨x, i, rfl, hx, hi, HA, HX, HR, HB⟩ := hrel
    cases gk with
    | zero =>
      have hr := Option.some.inj HA.out
      subst hr
      obtain rfl : x = 5 := by omega
      clear hx hi HA
      go_wp2
      go_ret
      exact ⟨rfl, HB.out⟩
    | succ d =>
      have h := HA.out
      clear HA
      rw [restV] at h
      obtain ⟨e, hl, h⟩ := Option.bind_eq_some_iff.mp h
      have HL := Aside0.mk hl
      have HH := Aside0.mk h
      clear hl h
      have hcase : i = 0 ∨ i = 1 ∨ i = 2 ∨ i = 3 ∨ i = 4 := by omega
      rcases hcase with rfl | hcase
      · obtain rfl : x = 0 := by omega
        obtain rfl : d = 4 := by omega
        clear hx hi
        have hcell : wr.cell? ⟨gr, 0, none⟩ = some (.func (.func 45) #[] #[.pointer (some ⟨w.heap.size, 0, none⟩), .pointer (some ⟨gp, 0, none⟩)]) := (blk_cell HR.out 0).trans rfl
        by_cases he : e = 0
        · have t1 : (e != 0) = false := by rw [he]; rfl
          have h := HH.out
          rw [if_pos he] at h
          have H1 := Aside0.mk h
          clear h HH he
          go_wp2_with (go_at_call 45; refine (look_any0 k v P _ w.heap.size gp HX.out e HL.out).mono ?_; rintro e_ w1 ⟨rfl, hb⟩; have HB1 := Aside0.mk (below_step HB.out hb); have HX1 := Aside0.mk (HX.out.below hb); have HR1 := Aside0.mk (blk_below HR.out hb); clear hb HX HR HB hcell)
          go_roundg 4
          case measure => omega
          case rel => exact ⟨1, 1, rfl, rfl, rfl, H1, HX1, HR1, HB1⟩
        · have t1 : (e != 0) = true := by simpa using he
          have h := HH.out
          rw [if_neg he] at h
          obtain rfl := Option.some.inj h
          clear h HH he
          go_wp2_with (go_at_call 45; refine (look_any0 k v P _ w.heap.size gp HX.out e HL.out).mono ?_; rintro e_ w1 ⟨rfl, hb⟩; have HB1 := Aside0.mk (below_step HB.out hb); have HX1 := Aside0.mk (HX.out.below hb); have HR1 := Aside0.mk (blk_below HR.out hb); clear hb HX HR HB hcell)
          go_ret
          exact ⟨rfl, HB1.out⟩
      rcases hcase with rfl | hcase
      · obtain rfl : x = 1 := by omega
        obtain rfl : d = 3 := by omega
        clear hx hi
        have hcell : wr.cell? ⟨gr, 1, none⟩ = some (.func (.func 48) #[] #[.pointer (some ⟨w.heap.size, 0, none⟩), .pointer (some ⟨gp, 0, none⟩)]) := (blk_cell HR.out 1).trans rfl
        by_cases he : e = 0
        · have t1 : (e != 0) = false := by rw [he]; rfl
          have h := HH.out
          rw [if_pos he] at h
          have H1 := Aside0.mk h
          clear h HH he
          go_wp2_with (go_at_call 48; refine (look_any1 k v P _ w.heap.size gp HX.out e HL.out).mono ?_; rintro e_ w1 ⟨rfl, hb⟩; have HB1 := Aside0.mk (below_step HB.out hb); have HX1 := Aside0.mk (HX.out.below hb); have HR1 := Aside0.mk (blk_below HR.out hb); clear hb HX HR HB hcell)
          go_roundg 3
          case measure => omega
          case rel => exact ⟨2, 2, rfl, rfl, rfl, H1, HX1, HR1, HB1⟩
        · have t1 : (e != 0) = true := by simpa using he
          have h := HH.out
          rw [if_neg he] at h
          obtain rfl := Option.some.inj h
          clear h HH he
          go_wp2_with (go_at_call 48; refine (look_any1 k v P _ w.heap.size gp HX.out e HL.out).mono ?_; rintro e_ w1 ⟨rfl, hb⟩; have HB1 := Aside0.mk (below_step HB.out hb); have HX1 := Aside0.mk (HX.out.below hb); have HR1 := Aside0.mk (blk_below HR.out hb); clear hb HX HR HB hcell)
          go_ret
          exact ⟨rfl, HB1.out⟩
      rcases hcase with rfl | hcase
      · obtain rfl : x = 2 := by omega
        obtain rfl : d = 2 := by omega
        clear hx hi
        have hcell : wr.cell? ⟨gr, 2, none⟩ = some (.func (.func 50) #[] #[.pointer (some ⟨w.heap.size, 0, none⟩), .pointer (some ⟨gp, 0, none⟩)]) := (blk_cell HR.out 2).trans rfl
        by_cases he : e = 0
        · have t1 : (e != 0) = false := by rw [he]; rfl
          have h := HH.out
          rw [if_pos he] at h
          have H1 := Aside0.mk h
          clear h HH he
          go_wp2_with (go_at_call 50; refine (look_any2 k v P _ w.heap.size gp HX.out e HL.out).mono ?_; rintro e_ w1 ⟨rfl, hb⟩; have HB1 := Aside0.mk (below_step HB.out hb); have HX1 := Aside0.mk (HX.out.below hb); have HR1 := Aside0.mk (blk_below HR.out hb); clear hb HX HR HB hcell)
          go_roundg 2
          case measure => omega
          case rel => exact ⟨3, 3, rfl, rfl, rfl, H1, HX1, HR1, HB1⟩
        · have t1 : (e != 0) = true := by simpa using he
          have h := HH.out
          rw [if_neg he] at h
          obtain rfl := Option.some.inj h
          clear h HH he
          go_wp2_with (go_at_call 50; refine (look_any2 k v P _ w.heap.size gp HX.out e HL.out).mono ?_; rintro e_ w1 ⟨rfl, hb⟩; have HB1 := Aside0.mk (below_step HB.out hb); have HX1 := Aside0.mk (HX.out.below hb); have HR1 := Aside0.mk (blk_below HR.out hb); clear hb HX HR HB hcell)
          go_ret
          exact ⟨rfl, HB1.out⟩
      rcases hcase with rfl | hcase
      · obtain rfl : x = 3 := by omega
        obtain rfl : d = 1 := by omega
        clear hx hi
        have hcell : wr.cell? ⟨gr, 3, none⟩ = some (.func (.func 52) #[] #[.pointer (some ⟨w.heap.size, 0, none⟩), .pointer (some ⟨gp, 0, none⟩)]) := (blk_cell HR.out 3).trans rfl
        by_cases he : e = 0
        · have t1 : (e != 0) = false := by rw [he]; rfl
          have h := HH.out
          rw [if_pos he] at h
          have H1 := Aside0.mk h
          clear h HH he
          go_wp2_with (go_at_call 52; refine (look_any3 k v P _ w.heap.size gp HX.out e HL.out).mono ?_; rintro e_ w1 ⟨rfl, hb⟩; have HB1 := Aside0.mk (below_step HB.out hb); have HX1 := Aside0.mk (HX.out.below hb); have HR1 := Aside0.mk (blk_below HR.out hb); clear hb HX HR HB hcell)
          go_roundg 1
          case measure => omega
          case rel => exact ⟨4, 4, rfl, rfl, rfl, H1, HX1, HR1, HB1⟩
        · have t1 : (e != 0) = true := by simpa using he
          have h := HH.out
          rw [if_neg he] at h
          obtain rfl := Option.some.inj h
          clear h HH he
          go_wp2_with (go_at_call 52; refine (look_any3 k v P _ w.heap.size gp HX.out e HL.out).mono ?_; rintro e_ w1 ⟨rfl, hb⟩; have HB1 := Aside0.mk (below_step HB.out hb); have HX1 := Aside0.mk (HX.out.below hb); have HR1 := Aside0.mk (blk_below HR.out hb); clear hb HX HR HB hcell)
          go_ret
          exact ⟨rfl, HB1.out⟩
      obtain rfl := hcase
      obtain rfl : x = 4 := by omega
      obtain rfl : d = 0 := by omega
      clear hx hi
      have hcell : wr.cell? ⟨gr, 4, none⟩ = some (.func (.func 54) #[] #[.pointer (some ⟨gp, 0, none⟩)]) := (blk_cell HR.out 4).trans rfl
      by_cases he : e = 0
      · have t1 : (e != 0) = false := by rw [he]; rfl
        have h := HH.out
        rw [if_pos he] at h
        have H1 := Aside0.mk h
        clear h HH he
        go_wp2_with (go_at_call 54; refine (look_any4 k v P _ w.heap.size gp HX.out e HL.out).mono ?_; rintro e_ w1 ⟨rfl, hb⟩; have HB1 := Aside0.mk (below_step HB.out hb); have HX1 := Aside0.mk (HX.out.below hb); have HR1 := Aside0.mk (blk_below HR.out hb); clear hb HX HR HB hcell)
        go_roundg 0
        case measure => omega
        case rel => exact ⟨5, 5, rfl, rfl, rfl, H1, HX1, HR1, HB1⟩
      · have t1 : (e != 0) = true := by simpa using he
        have h := HH.out
        rw [if_neg he] at h
        obtain rfl := Option.some.inj h
        clear h HH he
        go_wp2_with (go_at_call 54; refine (look_any4 k v P _ w.heap.size gp HX.out e HL.out).mono ?_; rintro e_ w1 ⟨rfl, hb⟩; have HB1 := Aside0.mk (below_step HB.out hb); have HX1 := Aside0.mk (HX.out.below hb); have HR1 := Aside0.mk (blk_below HR.out hb); clear hb HX HR HB hcell)
        go_ret
        exact ⟨rfl, HB1.out⟩
theorem publish_Valid.calls (k : Nat) (a0 : Int) (a1_0 : Int) (a1_1 : Bool) (a1_2 : Bool) (a1_3 : Int) (a1_4 : Int) (a1_5 : ByteArray) (a1_6 : ByteArray) (a1_7 : Bool) (a1_8 : Int) (a1_9 : ByteArray) (a1_10 : Bool) (a1_11 : ByteArray) (a1_12 : Bool) (a1_13 : ByteArray) (a1_14 : Bool) (a1_15 : ByteArray) (a1_16 : ByteArray) (a1_17 : Int) (a1_18 : Bool) (A1_19 : Option Addr) (c1_19 : Nat) (l1_19 : List S27) (a1_20 : Bool) (a1_21 : Int) (A1_22 : Option Addr) (c1_22 : Nat) (l1_22 : List Int) (A1_23 : Option Addr) (c1_23 : Nat) (l1_23 : List S119) (A1_24 : Option Addr) (c1_24 : Nat) (l1_24 : List S27) (r : Int) (w : World) (hr1_19 : Kd.C k27 w A1_19 l1_19.length l1_19) (hc1_19 : l1_19.length ≤ c1_19) (hr1_22 : Kd.C (Kd.int .i64) w A1_22 l1_22.length l1_22) (hc1_22 : l1_22.length ≤ c1_22) (hr1_23 : Kd.C k119 w A1_23 l1_23.length l1_23) (hc1_23 : l1_23.length ≤ c1_23) (hr1_24 : Kd.C k27 w A1_24 l1_24.length l1_24) (hc1_24 : l1_24.length ≤ c1_24) (h : publish_Valid.f k a0 a1_0 a1_1 a1_2 a1_3 a1_4 a1_5 a1_6 a1_7 a1_8 a1_9 a1_10 a1_11 a1_12 a1_13 a1_14 a1_15 a1_16 a1_17 a1_18 l1_19 a1_20 a1_21 l1_22 l1_23 l1_24 = some r) :
    Calls Try.prog 24 #[.int .i64 a0, .agg #[.int .i64 a1_0, .bool a1_1, .bool a1_2, .int .i64 a1_3, .int .i64 a1_4, .string a1_5, .string a1_6, .bool a1_7, .int .i64 a1_8, .string a1_9, .bool a1_10, .string a1_11, .bool a1_12, .string a1_13, .bool a1_14, .string a1_15, .string a1_16, .int .i64 a1_17, .bool a1_18, .slice A1_19 l1_19.length c1_19, .bool a1_20, .int .i64 a1_21, .slice A1_22 l1_22.length c1_22, .slice A1_23 l1_23.length c1_23, .slice A1_24 l1_24.length c1_24]] w fun e w' => e = .returned (.int .i64 r) ∧ Below w.heap.size w w' :=
  valid9 k a0 ⟨a1_0, a1_1, a1_2, a1_3, a1_4, a1_5, a1_6, a1_7, a1_8, a1_9, a1_10, a1_11, a1_12, a1_13, a1_14, a1_15, a1_16, a1_17, a1_18, l1_19, a1_20, a1_21, l1_22, l1_23, l1_24, A1_19, A1_22, A1_23, A1_24, c1_19, c1_22, c1_23, c1_24⟩ r w ⟨hr1_19, hr1_22, hr1_23, hr1_24, hc1_19, hc1_22, hc1_23, hc1_24⟩ h
end Go.Proofs.Ytngmipfobcaojaa.HA
end
