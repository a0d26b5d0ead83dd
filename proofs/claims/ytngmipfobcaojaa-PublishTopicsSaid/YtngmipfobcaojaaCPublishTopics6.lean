/- For every topic, payload and alias, the law polyglotlaw09.PublishTopics returns true; no condition but that the arguments are Go values. -/
import Derived.Test.YtngmipfobcaojaaCPublishTopics1
import Derived.Test.YtngmipfobcaojaaCPublishTopics5
import Derived.Test.YtngmipfobcaojaaCPublishTopics4
import Derived.Test.YtngmipfobcaojaaCPublishTopics2
import Derived.Test.YtngmipfobcaojaaRows
import Derived.WalkKit
import Derived.ProofKit
import Derived.OpenShut
import Derived.ShutString
import Derived.ChangeOld
import Derived.Below
import Derived.SizedLaws
set_option linter.unusedVariables false
set_option linter.unusedSimpArgs false
-- YtngmipfobcaojaaHA69
section
namespace Go.Proofs.Ytngmipfobcaojaa.HA
open Go.RowKit Go.Proofs.YtngmipfobcaojaaW.PrintWords Go.Proofs.YtngmipfobcaojaaW.PrintLast Go.Proofs.YtngmipfobcaojaaW.PrintMore
attribute [local go_sem] max2_int min2_int max_two min_two max_three min_three max_four min_four

theorem polyglotlaw09_PublishTopics.gl {P : Program} {ops : Array Oper} {rest : List Oper} {o : Oper} {a : Act} {Q : Exit → Act → World → Prop} {W : World} {x : Operand} (_ho : o.op = .load 48 x) (h : wpList P ops Q (o :: rest) a W) : wpList P ops Q (o :: rest) a W := h
mutual
def polyglotlaw09_PublishTopics.j0 : Nat → ByteArray → ByteArray → Int → Bool → Option (Bool)
  | 0, _, _, _, _ => none
  | k + 1, x0, x1, x2, x21 => if x21 = true then (some true) else ((polyglotref04_Name.f k x0).bind fun t278 => ((publish_Valid.f k 4 3 false false 0 0 x0 x1 false 0 (⟨#[]⟩ : ByteArray) false (⟨#[]⟩ : ByteArray) false (⟨#[]⟩ : ByteArray) false (⟨#[]⟩ : ByteArray) (⟨#[]⟩ : ByteArray) 0 false ([] : List (S27)) false 0 ([] : List Int) ([] : List (S119)) ([] : List (S27))).bind fun t279 => (if ((t279 == 0) != t278) = true then (polyglotlaw09_PublishTopics.j1 k x0 x2 t278 true 3 false false 0 0 x0 x1 false 0 (⟨#[]⟩ : ByteArray) false (⟨#[]⟩ : ByteArray) false (⟨#[]⟩ : ByteArray) false (⟨#[]⟩ : ByteArray) (⟨#[]⟩ : ByteArray) 0 false false 0) else ((publish_Valid.f k 5 3 false false 0 0 x0 x1 false 0 (⟨#[]⟩ : ByteArray) false (⟨#[]⟩ : ByteArray) false (⟨#[]⟩ : ByteArray) false (⟨#[]⟩ : ByteArray) (⟨#[]⟩ : ByteArray) 0 false ([] : List (S27)) false 0 ([] : List Int) ([] : List (S119)) ([] : List (S27))).bind fun t280 => (polyglotlaw09_PublishTopics.j1 k x0 x2 t278 ((t280 == 0) != t278) 3 false false 0 0 x0 x1 false 0 (⟨#[]⟩ : ByteArray) false (⟨#[]⟩ : ByteArray) false (⟨#[]⟩ : ByteArray) false (⟨#[]⟩ : ByteArray) (⟨#[]⟩ : ByteArray) 0 false false 0)))))
def polyglotlaw09_PublishTopics.j1 : Nat → ByteArray → Int → Bool → Bool → Int → Bool → Bool → Int → Int → ByteArray → ByteArray → Bool → Int → ByteArray → Bool → ByteArray → Bool → ByteArray → Bool → ByteArray → ByteArray → Int → Bool → Bool → Int → Option (Bool)
  | 0, _, _, _, _, _, _, _, _, _, _, _, _, _, _, _, _, _, _, _, _, _, _, _, _, _ => none
  | k + 1, x0, x2, x8, x38, x278000, x278001, x278002, x278003, x278004, x278005, x278006, x278007, x278008, x278009, x278010, x278011, x278012, x278013, x278014, x278015, x278016, x278017, x278018, x278020, x278021 => if x38 = true then (some false) else ((some (([(⟨35, (x2) % 4294967296, (⟨#[]⟩ : ByteArray), (⟨#[]⟩ : ByteArray)⟩ : S27)] : List (S27)) : List (S27))).bind fun y281 => ((publish_Valid.f k 5 x278000 x278001 x278002 x278003 x278004 x278005 x278006 x278007 x278008 x278009 x278010 x278011 x278012 x278013 x278014 x278015 x278016 x278017 x278018 ([] : List (S27)) x278020 x278021 ([] : List Int) ([] : List (S119)) y281).bind fun t284 => ((publish_Alias.f k x278000 x278001 x278002 x278003 x278004 x278005 x278006 x278007 x278008 x278009 x278010 x278011 x278012 x278013 x278014 x278015 x278016 x278017 x278018 ([] : List (S27)) x278020 x278021 ([] : List Int) ([] : List (S119)) y281).bind fun bt285 => (if bt285.2 = true then (polyglotlaw09_PublishTopics.j2 k x0 x2 x8 t284 (bt285.1 != (wrap64 (x2)))) else (polyglotlaw09_PublishTopics.j2 k x0 x2 x8 t284 true)))))
def polyglotlaw09_PublishTopics.j2 : Nat → ByteArray → Int → Bool → Int → Bool → Option (Bool)
  | 0, _, _, _, _, _ => none
  | k + 1, x0, x2, x8, x9, x58 => if x58 = true then (some false) else (if x8 = true then (if ((x9 == 0) == (decide (x2 > 0))) = true then (if x9 = 0 then (some true) else (some (x9 == 9))) else (some false)) else (if x0.toList = ([] : List UInt8) then (if ((x9 == 0) == (decide (x2 > 0))) = true then (if x9 = 0 then (some true) else (some (x9 == 9))) else (some false)) else (some (x9 == 10))))
end
def polyglotlaw09_PublishTopics.f (k : Nat) (a0 : ByteArray) (a1 : ByteArray) (a2 : Int) : Option (Bool) := (polyglotlaw09_lives.f k).bind fun t276 => (if t276 = true then (if (a0.size : Int) > 300 then (polyglotlaw09_PublishTopics.j0 k a0 a1 a2 true) else (polyglotlaw09_PublishTopics.j0 k a0 a1 a2 (decide ((a1.size : Int) > 300)))) else (some false))
set_option maxHeartbeats 8000000 in
set_option maxRecDepth 100000 in
theorem polyglotlaw09_PublishTopics.calls (k : Nat) (a0 : ByteArray) (a1 : ByteArray) (a2 : Int) (r : Bool) (w : World) (h : polyglotlaw09_PublishTopics.f k a0 a1 a2 = some r) (ht_ : r = true := by rfl) :
    Calls Try.prog 6 #[.string a0, .string a1, .int .u16 a2] w fun e w' => e = .returned (.bool r) ∧ Below w.heap.size w w' := by
  have HT_ := Aside0.mk ht_
  clear ht_
  have hu48 := Try.underlying48
  have hu27 := Try.underlying27
  have HB := Aside0.mk (Below.refl w.heap.size w)
  have H : ((polyglotlaw09_lives.f k).bind fun t276 => (if t276 = true then (if (a0.size : Int) > 300 then (polyglotlaw09_PublishTopics.j0 k a0 a1 a2 true) else (polyglotlaw09_PublishTopics.j0 k a0 a1 a2 (decide ((a1.size : Int) > 300)))) else (some false))) = some r := h
  clear h
  replace H := Option.bind_eq_some_iff.mp H
  obtain ⟨t276, A40, H⟩ := H
  replace H : (if t276 = true then (if (a0.size : Int) > 300 then (polyglotlaw09_PublishTopics.j0 k a0 a1 a2 true) else (polyglotlaw09_PublishTopics.j0 k a0 a1 a2 (decide ((a1.size : Int) > 300)))) else (some false)) = some r := H
  have A4 := Aside0.mk A40
  clear A40
  by_cases c5 : t276 = true
  · subst c5
    have H1 : (if (a0.size : Int) > 300 then (polyglotlaw09_PublishTopics.j0 k a0 a1 a2 true) else (polyglotlaw09_PublishTopics.j0 k a0 a1 a2 (decide ((a1.size : Int) > 300)))) = some r := by rw [if_pos rfl] at H; exact H
    clear H
    have H := H1
    clear H1
    have HC6 := Aside0.mk H
    clear H
    go_enter Try.func6, Try.ntmps6
    go_upto_region 3 with (first | ((with_reducible refine polyglotlaw09_PublishTopics.gl rfl ?_); (try (refine gate_guard (by first | rfl | (simp [*]; done) | fail) ?_; dsimp only)); refine wpList_load_row rfl 48 _ rfl _ (by rfl) 48 _ _ _ (by first | exact Aside0.out (by with_reducible assumption) | ((with_reducible repeat (first | refine blk_drewN ?_ _ | refine blk_drew ?_ | refine blk_alloc ?_ _)); exact Aside0.out (by with_reducible assumption)) | (refine blk_put (Aside0.out (by with_reducible assumption)) 24 _ ?_; simp only [List.setIfInBounds_toArray, List.set_cons_zero, List.set_cons_succ]; rfl) | (apply blk_put (i := 24); (case h => exact Aside0.out (by with_reducible assumption)); (case e => (simp only [List.setIfInBounds_toArray, List.set_cons_zero, List.set_cons_succ]; rfl)))) Try.underlying48 rfl (by kernel_rfl) ?_) | ((with_reducible refine gate_callee (f := 22) rfl ?_); refine goesL_ (some 12) rfl rfl Try.func22 (by kernel_rfl) rfl #[] rfl (by (try simp only [List.map_toArray, List.map_cons, List.map_nil]); first | done | rfl | (simp only [List.length_drop, List.length_take]; rfl)) ?_; (with_reducible refine (polyglotlaw09_lives.calls k  true _ A4.out).mono ?_); rintro e w7 ⟨rfl, hb⟩; refine ⟨_, rfl, ?_⟩; have n0_ := Aside0.mk (below_step (by repeat (first | (with_reducible first | exact HB.out | apply below_alloc | apply pw_below_drewN | apply below_drew1) | exact HB.out)) hb); clear HB; have HB := n0_; clear n0_; (try clear hb); (try clear hb2); (try clear hk); (try clear hi)))
    (try simp only [Act.put, List.setIfInBounds_toArray, List.set_cons_zero, List.set_cons_succ])
    go_cut [21] (fun v21 wc => ∃ (kq : Nat) (x21_5 : Bool), v21 = .bool x21_5 ∧ Aside0 (polyglotlaw09_PublishTopics.j0 kq a0 a1 a2 x21_5 = some r) ∧ Aside0 (kq ≤ k) ∧ Aside0 (Below w.heap.size w wc))
    case first =>
      have H := HC6.out
      clear HC6
      by_cases c8 : (a0.size : Int) > 300
      · rw [if_pos c8] at H
        have c8b0 : decide (300 < (a0.size : Int)) = true := decide_eq_true c8
        have c8b1 : decide (300 < a0.size) = true := decide_eq_true (by omega)
        clear c8
        (first | rw [c8b0] | (simp only [i64_w, i32_w]; rw [c8b0]) | skip)
        have H' := Aside0.mk H
        clear H
        go_wp2_with (first | ((with_reducible refine polyglotlaw09_PublishTopics.gl rfl ?_); (try (refine gate_guard (by first | rfl | (simp [*]; done) | fail) ?_; dsimp only)); refine wpList_load_row rfl 48 _ rfl _ (by rfl) 48 _ _ _ (by first | exact Aside0.out (by with_reducible assumption) | ((with_reducible repeat (first | refine blk_drewN ?_ _ | refine blk_drew ?_ | refine blk_alloc ?_ _)); exact Aside0.out (by with_reducible assumption)) | (refine blk_put (Aside0.out (by with_reducible assumption)) 24 _ ?_; simp only [List.setIfInBounds_toArray, List.set_cons_zero, List.set_cons_succ]; rfl) | (apply blk_put (i := 24); (case h => exact Aside0.out (by with_reducible assumption)); (case e => (simp only [List.setIfInBounds_toArray, List.set_cons_zero, List.set_cons_succ]; rfl)))) Try.underlying48 rfl (by kernel_rfl) ?_))
        go_meet
        case rel => exact ⟨_, (true), (by first | rfl | (simp; done) | (simp [*]; done) | (simp; exact bne_nil_isEmpty _) | exact bne_nil_isEmpty _ | (simp; exact (bne_nil_isEmpty _).symm) | (simp; exact bne_nil_isEmpty' _)), H', ⟨by first | omega | exact Nat.le_refl _⟩, ⟨by repeat (first | (with_reducible first | exact HB.out | apply below_alloc | apply pw_below_drewN | apply below_drew1) | exact HB.out)⟩⟩
      · rw [if_neg c8] at H
        have c8b0 : decide (300 < (a0.size : Int)) = false := decide_eq_false c8
        have c8b1 : decide (300 < a0.size) = false := decide_eq_false (by omega)
        clear c8
        (first | rw [c8b0] | (simp only [i64_w, i32_w]; rw [c8b0]) | skip)
        have H' := Aside0.mk H
        clear H
        go_wp2_with (first | ((with_reducible refine polyglotlaw09_PublishTopics.gl rfl ?_); (try (refine gate_guard (by first | rfl | (simp [*]; done) | fail) ?_; dsimp only)); refine wpList_load_row rfl 48 _ rfl _ (by rfl) 48 _ _ _ (by first | exact Aside0.out (by with_reducible assumption) | ((with_reducible repeat (first | refine blk_drewN ?_ _ | refine blk_drew ?_ | refine blk_alloc ?_ _)); exact Aside0.out (by with_reducible assumption)) | (refine blk_put (Aside0.out (by with_reducible assumption)) 24 _ ?_; simp only [List.setIfInBounds_toArray, List.set_cons_zero, List.set_cons_succ]; rfl) | (apply blk_put (i := 24); (case h => exact Aside0.out (by with_reducible assumption)); (case e => (simp only [List.setIfInBounds_toArray, List.set_cons_zero, List.set_cons_succ]; rfl)))) Try.underlying48 rfl (by kernel_rfl) ?_))
        go_meet
        case rel => exact ⟨_, (decide ((a1.size : Int) > 300)), (by first | rfl | (simp; done) | (simp [*]; done) | (simp; exact bne_nil_isEmpty _) | exact bne_nil_isEmpty _ | (simp; exact (bne_nil_isEmpty _).symm) | (simp; exact bne_nil_isEmpty' _)), H', ⟨by first | omega | exact Nat.le_refl _⟩, ⟨by repeat (first | (with_reducible first | exact HB.out | apply below_alloc | apply pw_below_drewN | apply below_drew1) | exact HB.out)⟩⟩
    case rest =>
      clear HC6
      (try clear c2);(try clear p2);(try clear c5);(try clear c6);(try clear c8);(try clear c8b0);(try clear c8b1)
      obtain ⟨kq, x21_5, rfl, HA, HJ5, HB⟩ := hcut
      cases kq with
      | zero => exact absurd HA.out (by simp [polyglotlaw09_PublishTopics.j0])
      | succ kj5 =>
        have H := HA.out
        clear HA
        simp only [polyglotlaw09_PublishTopics.j0] at H
        by_cases c9 : x21_5 = true
        · subst c9
          have H1 : (some true) = some r := by rw [if_pos rfl] at H; exact H
          clear H
          have H := H1
          clear H1
          obtain rfl := Option.some.inj H
          go_wp2_with (first | ((with_reducible refine polyglotlaw09_PublishTopics.gl rfl ?_); (try (refine gate_guard (by first | rfl | (simp [*]; done) | fail) ?_; dsimp only)); refine wpList_load_row rfl 48 _ rfl _ (by rfl) 48 _ _ _ (by first | exact Aside0.out (by with_reducible assumption) | ((with_reducible repeat (first | refine blk_drewN ?_ _ | refine blk_drew ?_ | refine blk_alloc ?_ _)); exact Aside0.out (by with_reducible assumption)) | (refine blk_put (Aside0.out (by with_reducible assumption)) 24 _ ?_; simp only [List.setIfInBounds_toArray, List.set_cons_zero, List.set_cons_succ]; rfl) | (apply blk_put (i := 24); (case h => exact Aside0.out (by with_reducible assumption)); (case e => (simp only [List.setIfInBounds_toArray, List.set_cons_zero, List.set_cons_succ]; rfl)))) Try.underlying48 rfl (by kernel_rfl) ?_))
          go_ret
          exact ⟨by first | rfl | (simp [errW_none, errW_some] <;> rfl) | (simp [*, errW_none, errW_some] <;> rfl), by repeat (first | (with_reducible first | exact HB.out | apply below_alloc | apply pw_below_drewN | apply below_drew1) | exact HB.out)⟩
        · replace c9 := Bool.eq_false_iff.mpr c9
          subst c9
          have H1 : ((polyglotref04_Name.f kj5 a0).bind fun t278 => ((publish_Valid.f kj5 4 3 false false 0 0 a0 a1 false 0 (⟨#[]⟩ : ByteArray) false (⟨#[]⟩ : ByteArray) false (⟨#[]⟩ : ByteArray) false (⟨#[]⟩ : ByteArray) (⟨#[]⟩ : ByteArray) 0 false ([] : List (S27)) false 0 ([] : List Int) ([] : List (S119)) ([] : List (S27))).bind fun t279 => (if ((t279 == 0) != t278) = true then (polyglotlaw09_PublishTopics.j1 kj5 a0 a2 t278 true 3 false false 0 0 a0 a1 false 0 (⟨#[]⟩ : ByteArray) false (⟨#[]⟩ : ByteArray) false (⟨#[]⟩ : ByteArray) false (⟨#[]⟩ : ByteArray) (⟨#[]⟩ : ByteArray) 0 false false 0) else ((publish_Valid.f kj5 5 3 false false 0 0 a0 a1 false 0 (⟨#[]⟩ : ByteArray) false (⟨#[]⟩ : ByteArray) false (⟨#[]⟩ : ByteArray) false (⟨#[]⟩ : ByteArray) (⟨#[]⟩ : ByteArray) 0 false ([] : List (S27)) false 0 ([] : List Int) ([] : List (S119)) ([] : List (S27))).bind fun t280 => (polyglotlaw09_PublishTopics.j1 kj5 a0 a2 t278 ((t280 == 0) != t278) 3 false false 0 0 a0 a1 false 0 (⟨#[]⟩ : ByteArray) false (⟨#[]⟩ : ByteArray) false (⟨#[]⟩ : ByteArray) false (⟨#[]⟩ : ByteArray) (⟨#[]⟩ : ByteArray) 0 false false 0))))) = some r := by rw [if_neg (show ¬ (false = true) by decide)] at H; exact H
          clear H
          have H := H1
          clear H1
          replace H := Option.bind_eq_some_iff.mp H
          obtain ⟨t278, A100, H⟩ := H
          replace H : ((publish_Valid.f kj5 4 3 false false 0 0 a0 a1 false 0 (⟨#[]⟩ : ByteArray) false (⟨#[]⟩ : ByteArray) false (⟨#[]⟩ : ByteArray) false (⟨#[]⟩ : ByteArray) (⟨#[]⟩ : ByteArray) 0 false ([] : List (S27)) false 0 ([] : List Int) ([] : List (S119)) ([] : List (S27))).bind fun t279 => (if ((t279 == 0) != t278) = true then (polyglotlaw09_PublishTopics.j1 kj5 a0 a2 t278 true 3 false false 0 0 a0 a1 false 0 (⟨#[]⟩ : ByteArray) false (⟨#[]⟩ : ByteArray) false (⟨#[]⟩ : ByteArray) false (⟨#[]⟩ : ByteArray) (⟨#[]⟩ : ByteArray) 0 false false 0) else ((publish_Valid.f kj5 5 3 false false 0 0 a0 a1 false 0 (⟨#[]⟩ : ByteArray) false (⟨#[]⟩ : ByteArray) false (⟨#[]⟩ : ByteArray) false (⟨#[]⟩ : ByteArray) (⟨#[]⟩ : ByteArray) 0 false ([] : List (S27)) false 0 ([] : List Int) ([] : List (S119)) ([] : List (S27))).bind fun t280 => (polyglotlaw09_PublishTopics.j1 kj5 a0 a2 t278 ((t280 == 0) != t278) 3 false false 0 0 a0 a1 false 0 (⟨#[]⟩ : ByteArray) false (⟨#[]⟩ : ByteArray) false (⟨#[]⟩ : ByteArray) false (⟨#[]⟩ : ByteArray) (⟨#[]⟩ : ByteArray) 0 false false 0)))) = some r := H
          have A10 := Aside0.mk A100
          clear A100
          have HC11 := Aside0.mk H
          clear H
          go_upto_region 7 with (first | ((with_reducible refine gate_packet_store rfl ?_); refine store_one (w0 := w) rfl 48 _ _ rfl gb277 _ (by rfl) (by rfl) _ BK277.out GE277.out HB.out (by kernel_rfl) (by rfl) (by simp [Value.oneCell']) ?_; intro wS hq hb; clear BK277 HB; have BK277 := Aside0.mk hq; have HB := Aside0.mk hb; clear hq hb; have hcS := blk_cell BK277.out 24; have hfS := blk_frozen BK277.out 24) | ((with_reducible refine polyglotlaw09_PublishTopics.gl rfl ?_); (try (refine gate_guard (by first | rfl | (simp [*]; done) | fail) ?_; dsimp only)); refine wpList_load_row rfl 48 _ rfl _ (by rfl) 48 _ _ _ (by first | exact Aside0.out (by with_reducible assumption) | ((with_reducible repeat (first | refine blk_drewN ?_ _ | refine blk_drew ?_ | refine blk_alloc ?_ _)); exact Aside0.out (by with_reducible assumption)) | (refine blk_put (Aside0.out (by with_reducible assumption)) 24 _ ?_; simp only [List.setIfInBounds_toArray, List.set_cons_zero, List.set_cons_succ]; rfl) | (apply blk_put (i := 24); (case h => exact Aside0.out (by with_reducible assumption)); (case e => (simp only [List.setIfInBounds_toArray, List.set_cons_zero, List.set_cons_succ]; rfl)))) Try.underlying48 rfl (by kernel_rfl) ?_) | ((with_reducible refine gate_dst (N := 7) rfl ?_); (try (refine gate_guard (by rfl) ?_; dsimp only)); refine box_event ?hg (N := 7) ?hd (cs := #[.int .i64 0, .bool false, .bool false, .int .i64 0, .int .i64 0, .string (⟨#[]⟩ : ByteArray), .string (⟨#[]⟩ : ByteArray), .bool false, .int .i64 0, .string (⟨#[]⟩ : ByteArray), .bool false, .string (⟨#[]⟩ : ByteArray), .bool false, .string (⟨#[]⟩ : ByteArray), .bool false, .string (⟨#[]⟩ : ByteArray), .string (⟨#[]⟩ : ByteArray), .int .i64 0, .bool false, .slice none 0 0, .bool false, .int .i64 0, .slice none 0 0, .slice none 0 0, .slice none 0 0]) (t := 48) ?hr ?_; (case hd => rfl); (case hg => rfl); (case hr => first | (go_simp; done) | (go_simp; rfl)); intro gb277 hg w12 hbox hb; have n0_ := Aside0.mk (below_step (by repeat (first | (with_reducible first | exact HB.out | apply below_alloc | apply pw_below_drewN | apply below_drew1) | exact HB.out)) hb); have n1_ := Aside0.mk (hbox); have n2_ := Aside0.mk ((by rw [hg]; exact (below_size (by repeat (first | (with_reducible first | exact HB.out | apply below_alloc | apply pw_below_drewN | apply below_drew1) | exact HB.out))) : w.heap.size ≤ gb277)); have n3_ := Aside0.mk ((by rw [hg]; exact (below_size (by repeat (first | (with_reducible first | exact HB.out | apply below_alloc | apply pw_below_drewN | apply below_drew1) | exact HB.out))) : w.heap.size ≤ gb277)); clear HB; have HB := n0_; have BK277 := n1_; have GW277 := n2_; have GE277 := n3_; clear n0_ n1_ n2_ n3_; clear hb hbox hg; have hcz13_0 : w12.cell? ⟨gb277, 0, none⟩ = some (.int .i64 0) := (blk_cell BK277.out 0).trans rfl; have hcz13_1 : w12.cell? ⟨gb277, 1, none⟩ = some (.bool false) := (blk_cell BK277.out 1).trans rfl; have hcz13_2 : w12.cell? ⟨gb277, 2, none⟩ = some (.bool false) := (blk_cell BK277.out 2).trans rfl; have hcz13_3 : w12.cell? ⟨gb277, 3, none⟩ = some (.int .i64 0) := (blk_cell BK277.out 3).trans rfl; have hcz13_4 : w12.cell? ⟨gb277, 4, none⟩ = some (.int .i64 0) := (blk_cell BK277.out 4).trans rfl; have hcz13_5 : w12.cell? ⟨gb277, 5, none⟩ = some (.string (⟨#[]⟩ : ByteArray)) := (blk_cell BK277.out 5).trans rfl; have hcz13_6 : w12.cell? ⟨gb277, 6, none⟩ = some (.string (⟨#[]⟩ : ByteArray)) := (blk_cell BK277.out 6).trans rfl; have hcz13_7 : w12.cell? ⟨gb277, 7, none⟩ = some (.bool false) := (blk_cell BK277.out 7).trans rfl; have hcz13_8 : w12.cell? ⟨gb277, 8, none⟩ = some (.int .i64 0) := (blk_cell BK277.out 8).trans rfl; have hcz13_9 : w12.cell? ⟨gb277, 9, none⟩ = some (.string (⟨#[]⟩ : ByteArray)) := (blk_cell BK277.out 9).trans rfl; have hcz13_10 : w12.cell? ⟨gb277, 10, none⟩ = some (.bool false) := (blk_cell BK277.out 10).trans rfl; have hcz13_11 : w12.cell? ⟨gb277, 11, none⟩ = some (.string (⟨#[]⟩ : ByteArray)) := (blk_cell BK277.out 11).trans rfl; have hcz13_12 : w12.cell? ⟨gb277, 12, none⟩ = some (.bool false) := (blk_cell BK277.out 12).trans rfl; have hcz13_13 : w12.cell? ⟨gb277, 13, none⟩ = some (.string (⟨#[]⟩ : ByteArray)) := (blk_cell BK277.out 13).trans rfl; have hcz13_14 : w12.cell? ⟨gb277, 14, none⟩ = some (.bool false) := (blk_cell BK277.out 14).trans rfl; have hcz13_15 : w12.cell? ⟨gb277, 15, none⟩ = some (.string (⟨#[]⟩ : ByteArray)) := (blk_cell BK277.out 15).trans rfl; have hcz13_16 : w12.cell? ⟨gb277, 16, none⟩ = some (.string (⟨#[]⟩ : ByteArray)) := (blk_cell BK277.out 16).trans rfl; have hcz13_17 : w12.cell? ⟨gb277, 17, none⟩ = some (.int .i64 0) := (blk_cell BK277.out 17).trans rfl; have hcz13_18 : w12.cell? ⟨gb277, 18, none⟩ = some (.bool false) := (blk_cell BK277.out 18).trans rfl; have hcz13_19 : w12.cell? ⟨gb277, 19, none⟩ = some (.slice none 0 0) := (blk_cell BK277.out 19).trans rfl; have hcz13_20 : w12.cell? ⟨gb277, 20, none⟩ = some (.bool false) := (blk_cell BK277.out 20).trans rfl; have hcz13_21 : w12.cell? ⟨gb277, 21, none⟩ = some (.int .i64 0) := (blk_cell BK277.out 21).trans rfl; have hcz13_22 : w12.cell? ⟨gb277, 22, none⟩ = some (.slice none 0 0) := (blk_cell BK277.out 22).trans rfl; have hcz13_23 : w12.cell? ⟨gb277, 23, none⟩ = some (.slice none 0 0) := (blk_cell BK277.out 23).trans rfl; have hcz13_24 : w12.cell? ⟨gb277, 24, none⟩ = some (.slice none 0 0) := (blk_cell BK277.out 24).trans rfl; have hfz13_0 := blk_frozen BK277.out 0; have hfz13_1 := blk_frozen BK277.out 1; have hfz13_2 := blk_frozen BK277.out 2; have hfz13_3 := blk_frozen BK277.out 3; have hfz13_4 := blk_frozen BK277.out 4; have hfz13_5 := blk_frozen BK277.out 5; have hfz13_6 := blk_frozen BK277.out 6; have hfz13_7 := blk_frozen BK277.out 7; have hfz13_8 := blk_frozen BK277.out 8; have hfz13_9 := blk_frozen BK277.out 9; have hfz13_10 := blk_frozen BK277.out 10; have hfz13_11 := blk_frozen BK277.out 11; have hfz13_12 := blk_frozen BK277.out 12; have hfz13_13 := blk_frozen BK277.out 13; have hfz13_14 := blk_frozen BK277.out 14; have hfz13_15 := blk_frozen BK277.out 15; have hfz13_16 := blk_frozen BK277.out 16; have hfz13_17 := blk_frozen BK277.out 17; have hfz13_18 := blk_frozen BK277.out 18; have hfz13_19 := blk_frozen BK277.out 19; have hfz13_20 := blk_frozen BK277.out 20; have hfz13_21 := blk_frozen BK277.out 21; have hfz13_22 := blk_frozen BK277.out 22; have hfz13_23 := blk_frozen BK277.out 23; have hfz13_24 := blk_frozen BK277.out 24) | ((with_reducible refine gate_callee (f := 23) rfl ?_); refine goesL_ (some 26) rfl rfl Try.func23 (by kernel_rfl) rfl #[.string a0] rfl (by (try simp only [List.map_toArray, List.map_cons, List.map_nil]); first | done | rfl | (simp only [List.length_drop, List.length_take]; rfl)) ?_; (with_reducible refine (polyglotref04_Name.calls kj5 a0 t278 _ A10.out).mono ?_); rintro e w' ⟨rfl, ⟨nd, rfl⟩⟩; refine ⟨_, rfl, ?_⟩))
          (try simp only [Act.put, List.setIfInBounds_toArray, List.set_cons_zero, List.set_cons_succ])
          go_cut [38] (fun v38 wc => ∃ (kq : Nat) (x38_10 : Bool), v38 = .bool x38_10 ∧ Aside0 (polyglotlaw09_PublishTopics.j1 kq a0 a2 t278 x38_10 3 false false 0 0 a0 a1 false 0 (⟨#[]⟩ : ByteArray) false (⟨#[]⟩ : ByteArray) false (⟨#[]⟩ : ByteArray) false (⟨#[]⟩ : ByteArray) (⟨#[]⟩ : ByteArray) 0 false false 0 = some r) ∧ Aside0 (kq ≤ kj5) ∧ Aside0 (wc.heap[gb277]? = some (.cells #[.int .i64 3, .bool false, .bool false, .int .i64 0, .int .i64 0, .string a0, .string a1, .bool false, .int .i64 0, .string (⟨#[]⟩ : ByteArray), .bool false, .string (⟨#[]⟩ : ByteArray), .bool false, .string (⟨#[]⟩ : ByteArray), .bool false, .string (⟨#[]⟩ : ByteArray), .string (⟨#[]⟩ : ByteArray), .int .i64 0, .bool false, (.slice none 0 0), .bool false, .int .i64 0, (.slice none 0 0), (.slice none 0 0), (.slice none 0 0)] 48 (0, 0))) ∧ Aside0 (Below w.heap.size w wc))
          case first =>
            have H := HC11.out
            clear HC11
            replace H := Option.bind_eq_some_iff.mp H
            obtain ⟨t279, A140, H⟩ := H
            replace H : (if ((t279 == 0) != t278) = true then (polyglotlaw09_PublishTopics.j1 kj5 a0 a2 t278 true 3 false false 0 0 a0 a1 false 0 (⟨#[]⟩ : ByteArray) false (⟨#[]⟩ : ByteArray) false (⟨#[]⟩ : ByteArray) false (⟨#[]⟩ : ByteArray) (⟨#[]⟩ : ByteArray) 0 false false 0) else ((publish_Valid.f kj5 5 3 false false 0 0 a0 a1 false 0 (⟨#[]⟩ : ByteArray) false (⟨#[]⟩ : ByteArray) false (⟨#[]⟩ : ByteArray) false (⟨#[]⟩ : ByteArray) (⟨#[]⟩ : ByteArray) 0 false ([] : List (S27)) false 0 ([] : List Int) ([] : List (S119)) ([] : List (S27))).bind fun t280 => (polyglotlaw09_PublishTopics.j1 kj5 a0 a2 t278 ((t280 == 0) != t278) 3 false false 0 0 a0 a1 false 0 (⟨#[]⟩ : ByteArray) false (⟨#[]⟩ : ByteArray) false (⟨#[]⟩ : ByteArray) false (⟨#[]⟩ : ByteArray) (⟨#[]⟩ : ByteArray) 0 false false 0))) = some r := H
            have A14 := Aside0.mk A140
            clear A140
            by_cases c15 : ((t279 == 0) != t278) = true
            · rw [if_pos c15] at H
              have c15b0 : ((t279 == 0) != t278) = true := c15
              (try (have c15b1 : decide ((t279 == 0) = t278) = false := by simpa using c15))
              (try (have c15b2 : ((t279 == 0) == t278) = false := by simpa using c15))
              (try (have c15b3 : ¬ ((t279 == 0) = t278) := by simpa using c15))
              clear c15
              (first | rw [c15b0] | (simp only [i64_w, i32_w]; rw [c15b0]) | skip)
              have H' := Aside0.mk H
              clear H
              have hcz16_0 := (blk_cell BK277.out 0).trans (show (_ : Option Value) = some _ from rfl)
              have hcz16_1 := (blk_cell BK277.out 1).trans (show (_ : Option Value) = some _ from rfl)
              have hcz16_2 := (blk_cell BK277.out 2).trans (show (_ : Option Value) = some _ from rfl)
              have hcz16_3 := (blk_cell BK277.out 3).trans (show (_ : Option Value) = some _ from rfl)
              have hcz16_4 := (blk_cell BK277.out 4).trans (show (_ : Option Value) = some _ from rfl)
              have hcz16_5 := (blk_cell BK277.out 5).trans (show (_ : Option Value) = some _ from rfl)
              have hcz16_6 := (blk_cell BK277.out 6).trans (show (_ : Option Value) = some _ from rfl)
              have hcz16_7 := (blk_cell BK277.out 7).trans (show (_ : Option Value) = some _ from rfl)
              have hcz16_8 := (blk_cell BK277.out 8).trans (show (_ : Option Value) = some _ from rfl)
              have hcz16_9 := (blk_cell BK277.out 9).trans (show (_ : Option Value) = some _ from rfl)
              have hcz16_10 := (blk_cell BK277.out 10).trans (show (_ : Option Value) = some _ from rfl)
              have hcz16_11 := (blk_cell BK277.out 11).trans (show (_ : Option Value) = some _ from rfl)
              have hcz16_12 := (blk_cell BK277.out 12).trans (show (_ : Option Value) = some _ from rfl)
              have hcz16_13 := (blk_cell BK277.out 13).trans (show (_ : Option Value) = some _ from rfl)
              have hcz16_14 := (blk_cell BK277.out 14).trans (show (_ : Option Value) = some _ from rfl)
              have hcz16_15 := (blk_cell BK277.out 15).trans (show (_ : Option Value) = some _ from rfl)
              have hcz16_16 := (blk_cell BK277.out 16).trans (show (_ : Option Value) = some _ from rfl)
              have hcz16_17 := (blk_cell BK277.out 17).trans (show (_ : Option Value) = some _ from rfl)
              have hcz16_18 := (blk_cell BK277.out 18).trans (show (_ : Option Value) = some _ from rfl)
              have hcz16_19 := (blk_cell BK277.out 19).trans (show (_ : Option Value) = some _ from rfl)
              have hcz16_20 := (blk_cell BK277.out 20).trans (show (_ : Option Value) = some _ from rfl)
              have hcz16_21 := (blk_cell BK277.out 21).trans (show (_ : Option Value) = some _ from rfl)
              have hcz16_22 := (blk_cell BK277.out 22).trans (show (_ : Option Value) = some _ from rfl)
              have hcz16_23 := (blk_cell BK277.out 23).trans (show (_ : Option Value) = some _ from rfl)
              have hcz16_24 := (blk_cell BK277.out 24).trans (show (_ : Option Value) = some _ from rfl)
              have hfz16_0 := blk_frozen BK277.out 0
              have hfz16_1 := blk_frozen BK277.out 1
              have hfz16_2 := blk_frozen BK277.out 2
              have hfz16_3 := blk_frozen BK277.out 3
              have hfz16_4 := blk_frozen BK277.out 4
              have hfz16_5 := blk_frozen BK277.out 5
              have hfz16_6 := blk_frozen BK277.out 6
              have hfz16_7 := blk_frozen BK277.out 7
              have hfz16_8 := blk_frozen BK277.out 8
              have hfz16_9 := blk_frozen BK277.out 9
              have hfz16_10 := blk_frozen BK277.out 10
              have hfz16_11 := blk_frozen BK277.out 11
              have hfz16_12 := blk_frozen BK277.out 12
              have hfz16_13 := blk_frozen BK277.out 13
              have hfz16_14 := blk_frozen BK277.out 14
              have hfz16_15 := blk_frozen BK277.out 15
              have hfz16_16 := blk_frozen BK277.out 16
              have hfz16_17 := blk_frozen BK277.out 17
              have hfz16_18 := blk_frozen BK277.out 18
              have hfz16_19 := blk_frozen BK277.out 19
              have hfz16_20 := blk_frozen BK277.out 20
              have hfz16_21 := blk_frozen BK277.out 21
              have hfz16_22 := blk_frozen BK277.out 22
              have hfz16_23 := blk_frozen BK277.out 23
              have hfz16_24 := blk_frozen BK277.out 24
              go_wp2_with (first | ((with_reducible refine polyglotlaw09_PublishTopics.gl rfl ?_); (try (refine gate_guard (by first | rfl | (simp [*]; done) | fail) ?_; dsimp only)); refine wpList_load_row rfl 48 _ rfl _ (by rfl) 48 _ _ _ (by first | exact Aside0.out (by with_reducible assumption) | ((with_reducible repeat (first | refine blk_drewN ?_ _ | refine blk_drew ?_ | refine blk_alloc ?_ _)); exact Aside0.out (by with_reducible assumption)) | (refine blk_put (Aside0.out (by with_reducible assumption)) 24 _ ?_; simp only [List.setIfInBounds_toArray, List.set_cons_zero, List.set_cons_succ]; rfl) | (apply blk_put (i := 24); (case h => exact Aside0.out (by with_reducible assumption)); (case e => (simp only [List.setIfInBounds_toArray, List.set_cons_zero, List.set_cons_succ]; rfl)))) Try.underlying48 rfl (by kernel_rfl) ?_) | ((with_reducible refine gate_callee (f := 24) rfl ?_); refine goesL_ (some 28) rfl rfl Try.func24 (by kernel_rfl) rfl #[.int .i64 4, .agg #[.int .i64 3, .bool false, .bool false, .int .i64 0, .int .i64 0, .string a0, .string a1, .bool false, .int .i64 0, .string (⟨#[]⟩ : ByteArray), .bool false, .string (⟨#[]⟩ : ByteArray), .bool false, .string (⟨#[]⟩ : ByteArray), .bool false, .string (⟨#[]⟩ : ByteArray), .string (⟨#[]⟩ : ByteArray), .int .i64 0, .bool false, .slice none 0 0, .bool false, .int .i64 0, .slice none 0 0, .slice none 0 0, .slice none 0 0]] rfl (by (try simp only [List.map_toArray, List.map_cons, List.map_nil]); first | done | rfl | (simp only [List.length_drop, List.length_take]; rfl)) ?_; (refine (publish_Valid.calls kj5 4 3 false false 0 0 a0 a1 false 0 (⟨#[]⟩ : ByteArray) false (⟨#[]⟩ : ByteArray) false (⟨#[]⟩ : ByteArray) false (⟨#[]⟩ : ByteArray) (⟨#[]⟩ : ByteArray) 0 false _ _ ([] : List (S27)) false 0 _ _ ([] : List Int) _ _ ([] : List (S119)) _ _ ([] : List (S27)) t279 _ ?side1 ?side2 ?side3 ?side4 ?side5 ?side6 ?side7 ?side8 A14.out).mono ?_); (case side1 => exact Kd.C_nil _ _); (case side2 => exact Nat.le_refl _); (case side3 => exact Kd.C_nil _ _); (case side4 => exact Nat.le_refl _); (case side5 => exact Kd.C_nil _ _); (case side6 => exact Nat.le_refl _); (case side7 => exact Kd.C_nil _ _); (case side8 => exact Nat.le_refl _); rintro e w17 ⟨rfl, hb⟩; refine ⟨_, rfl, ?_⟩; have n0_ := Aside0.mk (blk_below (g := gb277) (o := .cells #[.int .i64 3, .bool false, .bool false, .int .i64 0, .int .i64 0, .string a0, .string a1, .bool false, .int .i64 0, .string (⟨#[]⟩ : ByteArray), .bool false, .string (⟨#[]⟩ : ByteArray), .bool false, .string (⟨#[]⟩ : ByteArray), .bool false, .string (⟨#[]⟩ : ByteArray), .string (⟨#[]⟩ : ByteArray), .int .i64 0, .bool false, .slice none 0 0, .bool false, .int .i64 0, .slice none 0 0, .slice none 0 0, .slice none 0 0] 48 (0, 0)) (by (with_reducible repeat (first | refine blk_drewN ?_ _ | refine blk_drew ?_ | refine blk_alloc ?_ _)); exact BK277.out) hb); have n1_ := Aside0.mk (below_step (by repeat (first | (with_reducible first | exact HB.out | apply below_alloc | apply pw_below_drewN | apply below_drew1 | refine below_set ?_ GE277.out) | exact HB.out)) hb); clear BK277; clear HB; have BK277 := n0_; have HB := n1_; clear n0_ n1_; (try clear hb); (try clear hb2); (try clear hk); (try clear hi)))
              go_meet
              case rel => exact ⟨_, (true), (by first | rfl | (simp; done) | (simp [*]; done) | (simp; exact bne_nil_isEmpty _) | exact bne_nil_isEmpty _ | (simp; exact (bne_nil_isEmpty _).symm) | (simp; exact bne_nil_isEmpty' _)), H', ⟨by have := HJ5.out; first | omega | exact Nat.le_refl _⟩, ⟨by (with_reducible repeat (first | refine blk_drewN ?_ _ | refine blk_drew ?_ | refine blk_alloc ?_ _)); exact BK277.out⟩, ⟨by repeat (first | (with_reducible first | exact HB.out | apply below_alloc | apply pw_below_drewN | apply below_drew1 | refine below_set ?_ GE277.out) | exact HB.out)⟩⟩
            · rw [if_neg c15] at H
              have c15b0 : ((t279 == 0) != t278) = false := by simpa using c15
              (try (have c15b1 : decide ((t279 == 0) = t278) = true := by simpa using c15))
              (try (have c15b2 : ((t279 == 0) == t278) = true := by simpa using c15))
              clear c15
              (first | rw [c15b0] | (simp only [i64_w, i32_w]; rw [c15b0]) | skip)
              replace H := Option.bind_eq_some_iff.mp H
              obtain ⟨t280, A180, H⟩ := H
              replace H : (polyglotlaw09_PublishTopics.j1 kj5 a0 a2 t278 ((t280 == 0) != t278) 3 false false 0 0 a0 a1 false 0 (⟨#[]⟩ : ByteArray) false (⟨#[]⟩ : ByteArray) false (⟨#[]⟩ : ByteArray) false (⟨#[]⟩ : ByteArray) (⟨#[]⟩ : ByteArray) 0 false false 0) = some r := H
              have A18 := Aside0.mk A180
              clear A180
              have H' := Aside0.mk H
              clear H
              have hcz19_0 := (blk_cell BK277.out 0).trans (show (_ : Option Value) = some _ from rfl)
              have hcz19_1 := (blk_cell BK277.out 1).trans (show (_ : Option Value) = some _ from rfl)
              have hcz19_2 := (blk_cell BK277.out 2).trans (show (_ : Option Value) = some _ from rfl)
              have hcz19_3 := (blk_cell BK277.out 3).trans (show (_ : Option Value) = some _ from rfl)
              have hcz19_4 := (blk_cell BK277.out 4).trans (show (_ : Option Value) = some _ from rfl)
              have hcz19_5 := (blk_cell BK277.out 5).trans (show (_ : Option Value) = some _ from rfl)
              have hcz19_6 := (blk_cell BK277.out 6).trans (show (_ : Option Value) = some _ from rfl)
              have hcz19_7 := (blk_cell BK277.out 7).trans (show (_ : Option Value) = some _ from rfl)
              have hcz19_8 := (blk_cell BK277.out 8).trans (show (_ : Option Value) = some _ from rfl)
              have hcz19_9 := (blk_cell BK277.out 9).trans (show (_ : Option Value) = some _ from rfl)
              have hcz19_10 := (blk_cell BK277.out 10).trans (show (_ : Option Value) = some _ from rfl)
              have hcz19_11 := (blk_cell BK277.out 11).trans (show (_ : Option Value) = some _ from rfl)
              have hcz19_12 := (blk_cell BK277.out 12).trans (show (_ : Option Value) = some _ from rfl)
              have hcz19_13 := (blk_cell BK277.out 13).trans (show (_ : Option Value) = some _ from rfl)
              have hcz19_14 := (blk_cell BK277.out 14).trans (show (_ : Option Value) = some _ from rfl)
              have hcz19_15 := (blk_cell BK277.out 15).trans (show (_ : Option Value) = some _ from rfl)
              have hcz19_16 := (blk_cell BK277.out 16).trans (show (_ : Option Value) = some _ from rfl)
              have hcz19_17 := (blk_cell BK277.out 17).trans (show (_ : Option Value) = some _ from rfl)
              have hcz19_18 := (blk_cell BK277.out 18).trans (show (_ : Option Value) = some _ from rfl)
              have hcz19_19 := (blk_cell BK277.out 19).trans (show (_ : Option Value) = some _ from rfl)
              have hcz19_20 := (blk_cell BK277.out 20).trans (show (_ : Option Value) = some _ from rfl)
              have hcz19_21 := (blk_cell BK277.out 21).trans (show (_ : Option Value) = some _ from rfl)
              have hcz19_22 := (blk_cell BK277.out 22).trans (show (_ : Option Value) = some _ from rfl)
              have hcz19_23 := (blk_cell BK277.out 23).trans (show (_ : Option Value) = some _ from rfl)
              have hcz19_24 := (blk_cell BK277.out 24).trans (show (_ : Option Value) = some _ from rfl)
              have hfz19_0 := blk_frozen BK277.out 0
              have hfz19_1 := blk_frozen BK277.out 1
              have hfz19_2 := blk_frozen BK277.out 2
              have hfz19_3 := blk_frozen BK277.out 3
              have hfz19_4 := blk_frozen BK277.out 4
              have hfz19_5 := blk_frozen BK277.out 5
              have hfz19_6 := blk_frozen BK277.out 6
              have hfz19_7 := blk_frozen BK277.out 7
              have hfz19_8 := blk_frozen BK277.out 8
              have hfz19_9 := blk_frozen BK277.out 9
              have hfz19_10 := blk_frozen BK277.out 10
              have hfz19_11 := blk_frozen BK277.out 11
              have hfz19_12 := blk_frozen BK277.out 12
              have hfz19_13 := blk_frozen BK277.out 13
              have hfz19_14 := blk_frozen BK277.out 14
              have hfz19_15 := blk_frozen BK277.out 15
              have hfz19_16 := blk_frozen BK277.out 16
              have hfz19_17 := blk_frozen BK277.out 17
              have hfz19_18 := blk_frozen BK277.out 18
              have hfz19_19 := blk_frozen BK277.out 19
              have hfz19_20 := blk_frozen BK277.out 20
              have hfz19_21 := blk_frozen BK277.out 21
              have hfz19_22 := blk_frozen BK277.out 22
              have hfz19_23 := blk_frozen BK277.out 23
              have hfz19_24 := blk_frozen BK277.out 24
              go_wp2_with (first | ((with_reducible refine polyglotlaw09_PublishTopics.gl rfl ?_); (try (refine gate_guard (by first | rfl | (simp [*]; done) | fail) ?_; dsimp only)); refine wpList_load_row rfl 48 _ rfl _ (by rfl) 48 _ _ _ (by first | exact Aside0.out (by with_reducible assumption) | ((with_reducible repeat (first | refine blk_drewN ?_ _ | refine blk_drew ?_ | refine blk_alloc ?_ _)); exact Aside0.out (by with_reducible assumption)) | (refine blk_put (Aside0.out (by with_reducible assumption)) 24 _ ?_; simp only [List.setIfInBounds_toArray, List.set_cons_zero, List.set_cons_succ]; rfl) | (apply blk_put (i := 24); (case h => exact Aside0.out (by with_reducible assumption)); (case e => (simp only [List.setIfInBounds_toArray, List.set_cons_zero, List.set_cons_succ]; rfl)))) Try.underlying48 rfl (by kernel_rfl) ?_) | ((with_reducible refine gate_callee (f := 24) rfl ?_); refine goesL_ (some 28) rfl rfl Try.func24 (by kernel_rfl) rfl #[.int .i64 4, .agg #[.int .i64 3, .bool false, .bool false, .int .i64 0, .int .i64 0, .string a0, .string a1, .bool false, .int .i64 0, .string (⟨#[]⟩ : ByteArray), .bool false, .string (⟨#[]⟩ : ByteArray), .bool false, .string (⟨#[]⟩ : ByteArray), .bool false, .string (⟨#[]⟩ : ByteArray), .string (⟨#[]⟩ : ByteArray), .int .i64 0, .bool false, .slice none 0 0, .bool false, .int .i64 0, .slice none 0 0, .slice none 0 0, .slice none 0 0]] rfl (by (try simp only [List.map_toArray, List.map_cons, List.map_nil]); first | done | rfl | (simp only [List.length_drop, List.length_take]; rfl)) ?_; (refine (publish_Valid.calls kj5 4 3 false false 0 0 a0 a1 false 0 (⟨#[]⟩ : ByteArray) false (⟨#[]⟩ : ByteArray) false (⟨#[]⟩ : ByteArray) false (⟨#[]⟩ : ByteArray) (⟨#[]⟩ : ByteArray) 0 false _ _ ([] : List (S27)) false 0 _ _ ([] : List Int) _ _ ([] : List (S119)) _ _ ([] : List (S27)) t279 _ ?side1 ?side2 ?side3 ?side4 ?side5 ?side6 ?side7 ?side8 A14.out).mono ?_); (case side1 => exact Kd.C_nil _ _); (case side2 => exact Nat.le_refl _); (case side3 => exact Kd.C_nil _ _); (case side4 => exact Nat.le_refl _); (case side5 => exact Kd.C_nil _ _); (case side6 => exact Nat.le_refl _); (case side7 => exact Kd.C_nil _ _); (case side8 => exact Nat.le_refl _); rintro e w20 ⟨rfl, hb⟩; refine ⟨_, rfl, ?_⟩; have n0_ := Aside0.mk (blk_below (g := gb277) (o := .cells #[.int .i64 3, .bool false, .bool false, .int .i64 0, .int .i64 0, .string a0, .string a1, .bool false, .int .i64 0, .string (⟨#[]⟩ : ByteArray), .bool false, .string (⟨#[]⟩ : ByteArray), .bool false, .string (⟨#[]⟩ : ByteArray), .bool false, .string (⟨#[]⟩ : ByteArray), .string (⟨#[]⟩ : ByteArray), .int .i64 0, .bool false, .slice none 0 0, .bool false, .int .i64 0, .slice none 0 0, .slice none 0 0, .slice none 0 0] 48 (0, 0)) (by (with_reducible repeat (first | refine blk_drewN ?_ _ | refine blk_drew ?_ | refine blk_alloc ?_ _)); exact BK277.out) hb); have n1_ := Aside0.mk (below_step (by repeat (first | (with_reducible first | exact HB.out | apply below_alloc | apply pw_below_drewN | apply below_drew1 | refine below_set ?_ GE277.out) | exact HB.out)) hb); clear BK277; clear HB; have BK277 := n0_; have HB := n1_; clear n0_ n1_; (try clear hb); (try clear hb2); (try clear hk); (try clear hi); have hcz21_0 : w20.cell? ⟨gb277, 0, none⟩ = some (.int .i64 3) := (blk_cell BK277.out 0).trans rfl; have hcz21_1 : w20.cell? ⟨gb277, 1, none⟩ = some (.bool false) := (blk_cell BK277.out 1).trans rfl; have hcz21_2 : w20.cell? ⟨gb277, 2, none⟩ = some (.bool false) := (blk_cell BK277.out 2).trans rfl; have hcz21_3 : w20.cell? ⟨gb277, 3, none⟩ = some (.int .i64 0) := (blk_cell BK277.out 3).trans rfl; have hcz21_4 : w20.cell? ⟨gb277, 4, none⟩ = some (.int .i64 0) := (blk_cell BK277.out 4).trans rfl; have hcz21_5 : w20.cell? ⟨gb277, 5, none⟩ = some (.string a0) := (blk_cell BK277.out 5).trans rfl; have hcz21_6 : w20.cell? ⟨gb277, 6, none⟩ = some (.string a1) := (blk_cell BK277.out 6).trans rfl; have hcz21_7 : w20.cell? ⟨gb277, 7, none⟩ = some (.bool false) := (blk_cell BK277.out 7).trans rfl; have hcz21_8 : w20.cell? ⟨gb277, 8, none⟩ = some (.int .i64 0) := (blk_cell BK277.out 8).trans rfl; have hcz21_9 : w20.cell? ⟨gb277, 9, none⟩ = some (.string (⟨#[]⟩ : ByteArray)) := (blk_cell BK277.out 9).trans rfl; have hcz21_10 : w20.cell? ⟨gb277, 10, none⟩ = some (.bool false) := (blk_cell BK277.out 10).trans rfl; have hcz21_11 : w20.cell? ⟨gb277, 11, none⟩ = some (.string (⟨#[]⟩ : ByteArray)) := (blk_cell BK277.out 11).trans rfl; have hcz21_12 : w20.cell? ⟨gb277, 12, none⟩ = some (.bool false) := (blk_cell BK277.out 12).trans rfl; have hcz21_13 : w20.cell? ⟨gb277, 13, none⟩ = some (.string (⟨#[]⟩ : ByteArray)) := (blk_cell BK277.out 13).trans rfl; have hcz21_14 : w20.cell? ⟨gb277, 14, none⟩ = some (.bool false) := (blk_cell BK277.out 14).trans rfl; have hcz21_15 : w20.cell? ⟨gb277, 15, none⟩ = some (.string (⟨#[]⟩ : ByteArray)) := (blk_cell BK277.out 15).trans rfl; have hcz21_16 : w20.cell? ⟨gb277, 16, none⟩ = some (.string (⟨#[]⟩ : ByteArray)) := (blk_cell BK277.out 16).trans rfl; have hcz21_17 : w20.cell? ⟨gb277, 17, none⟩ = some (.int .i64 0) := (blk_cell BK277.out 17).trans rfl; have hcz21_18 : w20.cell? ⟨gb277, 18, none⟩ = some (.bool false) := (blk_cell BK277.out 18).trans rfl; have hcz21_19 : w20.cell? ⟨gb277, 19, none⟩ = some (.slice none 0 0) := (blk_cell BK277.out 19).trans rfl; have hcz21_20 : w20.cell? ⟨gb277, 20, none⟩ = some (.bool false) := (blk_cell BK277.out 20).trans rfl; have hcz21_21 : w20.cell? ⟨gb277, 21, none⟩ = some (.int .i64 0) := (blk_cell BK277.out 21).trans rfl; have hcz21_22 : w20.cell? ⟨gb277, 22, none⟩ = some (.slice none 0 0) := (blk_cell BK277.out 22).trans rfl; have hcz21_23 : w20.cell? ⟨gb277, 23, none⟩ = some (.slice none 0 0) := (blk_cell BK277.out 23).trans rfl; have hcz21_24 : w20.cell? ⟨gb277, 24, none⟩ = some (.slice none 0 0) := (blk_cell BK277.out 24).trans rfl; have hfz21_0 := blk_frozen BK277.out 0; have hfz21_1 := blk_frozen BK277.out 1; have hfz21_2 := blk_frozen BK277.out 2; have hfz21_3 := blk_frozen BK277.out 3; have hfz21_4 := blk_frozen BK277.out 4; have hfz21_5 := blk_frozen BK277.out 5; have hfz21_6 := blk_frozen BK277.out 6; have hfz21_7 := blk_frozen BK277.out 7; have hfz21_8 := blk_frozen BK277.out 8; have hfz21_9 := blk_frozen BK277.out 9; have hfz21_10 := blk_frozen BK277.out 10; have hfz21_11 := blk_frozen BK277.out 11; have hfz21_12 := blk_frozen BK277.out 12; have hfz21_13 := blk_frozen BK277.out 13; have hfz21_14 := blk_frozen BK277.out 14; have hfz21_15 := blk_frozen BK277.out 15; have hfz21_16 := blk_frozen BK277.out 16; have hfz21_17 := blk_frozen BK277.out 17; have hfz21_18 := blk_frozen BK277.out 18; have hfz21_19 := blk_frozen BK277.out 19; have hfz21_20 := blk_frozen BK277.out 20; have hfz21_21 := blk_frozen BK277.out 21; have hfz21_22 := blk_frozen BK277.out 22; have hfz21_23 := blk_frozen BK277.out 23; have hfz21_24 := blk_frozen BK277.out 24) | (go_at_call 24; (refine (publish_Valid.calls kj5 5 3 false false 0 0 a0 a1 false 0 (⟨#[]⟩ : ByteArray) false (⟨#[]⟩ : ByteArray) false (⟨#[]⟩ : ByteArray) false (⟨#[]⟩ : ByteArray) (⟨#[]⟩ : ByteArray) 0 false _ _ ([] : List (S27)) false 0 _ _ ([] : List Int) _ _ ([] : List (S119)) _ _ ([] : List (S27)) t280 _ ?side1 ?side2 ?side3 ?side4 ?side5 ?side6 ?side7 ?side8 A18.out).mono ?_); (case side1 => exact Kd.C_nil _ _); (case side2 => exact Nat.le_refl _); (case side3 => exact Kd.C_nil _ _); (case side4 => exact Nat.le_refl _); (case side5 => exact Kd.C_nil _ _); (case side6 => exact Nat.le_refl _); (case side7 => exact Kd.C_nil _ _); (case side8 => exact Nat.le_refl _); rintro e w22 ⟨rfl, hb⟩; have n0_ := Aside0.mk (blk_below (g := gb277) (o := .cells #[.int .i64 3, .bool false, .bool false, .int .i64 0, .int .i64 0, .string a0, .string a1, .bool false, .int .i64 0, .string (⟨#[]⟩ : ByteArray), .bool false, .string (⟨#[]⟩ : ByteArray), .bool false, .string (⟨#[]⟩ : ByteArray), .bool false, .string (⟨#[]⟩ : ByteArray), .string (⟨#[]⟩ : ByteArray), .int .i64 0, .bool false, .slice none 0 0, .bool false, .int .i64 0, .slice none 0 0, .slice none 0 0, .slice none 0 0] 48 (0, 0)) (by (with_reducible repeat (first | refine blk_drewN ?_ _ | refine blk_drew ?_ | refine blk_alloc ?_ _)); exact BK277.out) hb); have n1_ := Aside0.mk (below_step (by repeat (first | (with_reducible first | exact HB.out | apply below_alloc | apply pw_below_drewN | apply below_drew1 | refine below_set ?_ GE277.out) | exact HB.out)) hb); clear BK277; clear HB; have BK277 := n0_; have HB := n1_; clear n0_ n1_; (try clear hb); (try clear hb2); (try clear hk); (try clear hi)))
              go_meet
              case rel => exact ⟨_, (((t280 == 0) != t278)), (by first | rfl | (simp; done) | (simp [*]; done) | (simp; exact bne_nil_isEmpty _) | exact bne_nil_isEmpty _ | (simp; exact (bne_nil_isEmpty _).symm) | (simp; exact bne_nil_isEmpty' _)), H', ⟨by have := HJ5.out; first | omega | exact Nat.le_refl _⟩, ⟨by (with_reducible repeat (first | refine blk_drewN ?_ _ | refine blk_drew ?_ | refine blk_alloc ?_ _)); exact BK277.out⟩, ⟨by repeat (first | (with_reducible first | exact HB.out | apply below_alloc | apply pw_below_drewN | apply below_drew1 | refine below_set ?_ GE277.out) | exact HB.out)⟩⟩
          case rest =>
            clear HC11
            (try clear c1);(try clear c2);(try clear p2);(try clear c5);(try clear c6);(try clear c8);(try clear c8b0);(try clear c8b1);(try clear c9);(try clear c15);(try clear c15b0);(try clear c15b1);(try clear c15b2);(try clear c22);(try clear hcz13_0);(try clear hcz13_1);(try clear hcz13_10);(try clear hcz13_11);(try clear hcz13_12);(try clear hcz13_13);(try clear hcz13_14);(try clear hcz13_15);(try clear hcz13_16);(try clear hcz13_17);(try clear hcz13_18);(try clear hcz13_19);(try clear hcz13_2);(try clear hcz13_20);(try clear hcz13_21);(try clear hcz13_22);(try clear hcz13_23);(try clear hcz13_24);(try clear hcz13_3);(try clear hcz13_4);(try clear hcz13_5);(try clear hcz13_6);(try clear hcz13_7);(try clear hcz13_8);(try clear hcz13_9);(try clear hcz16_0);(try clear hcz16_1);(try clear hcz16_10);(try clear hcz16_11);(try clear hcz16_12);(try clear hcz16_13);(try clear hcz16_14);(try clear hcz16_15);(try clear hcz16_16);(try clear hcz16_17);(try clear hcz16_18);(try clear hcz16_19);(try clear hcz16_2);(try clear hcz16_20);(try clear hcz16_21);(try clear hcz16_22);(try clear hcz16_23);(try clear hcz16_24);(try clear hcz16_3);(try clear hcz16_4);(try clear hcz16_5);(try clear hcz16_6);(try clear hcz16_7);(try clear hcz16_8);(try clear hcz16_9);(try clear hcz19_0);(try clear hcz19_1);(try clear hcz19_10);(try clear hcz19_11);(try clear hcz19_12);(try clear hcz19_13);(try clear hcz19_14);(try clear hcz19_15);(try clear hcz19_16);(try clear hcz19_17);(try clear hcz19_18);(try clear hcz19_19);(try clear hcz19_2);(try clear hcz19_20);(try clear hcz19_21);(try clear hcz19_22);(try clear hcz19_23);(try clear hcz19_24);(try clear hcz19_3);(try clear hcz19_4);(try clear hcz19_5);(try clear hcz19_6);(try clear hcz19_7);(try clear hcz19_8);(try clear hcz19_9);(try clear hcz21_0);(try clear hcz21_1);(try clear hcz21_10);(try clear hcz21_11);(try clear hcz21_12);(try clear hcz21_13);(try clear hcz21_14);(try clear hcz21_15);(try clear hcz21_16);(try clear hcz21_17);(try clear hcz21_18);(try clear hcz21_19);(try clear hcz21_2);(try clear hcz21_20);(try clear hcz21_21);(try clear hcz21_22);(try clear hcz21_23);(try clear hcz21_24);(try clear hcz21_3);(try clear hcz21_4);(try clear hcz21_5);(try clear hcz21_6);(try clear hcz21_7);(try clear hcz21_8);(try clear hcz21_9);(try clear hfz13_0);(try clear hfz13_1);(try clear hfz13_10);(try clear hfz13_11);(try clear hfz13_12);(try clear hfz13_13);(try clear hfz13_14);(try clear hfz13_15);(try clear hfz13_16);(try clear hfz13_17);(try clear hfz13_18);(try clear hfz13_19);(try clear hfz13_2);(try clear hfz13_20);(try clear hfz13_21);(try clear hfz13_22);(try clear hfz13_23);(try clear hfz13_24);(try clear hfz13_3);(try clear hfz13_4);(try clear hfz13_5);(try clear hfz13_6);(try clear hfz13_7);(try clear hfz13_8);(try clear hfz13_9);(try clear hfz16_0);(try clear hfz16_1);(try clear hfz16_10);(try clear hfz16_11);(try clear hfz16_12);(try clear hfz16_13);(try clear hfz16_14);(try clear hfz16_15);(try clear hfz16_16);(try clear hfz16_17);(try clear hfz16_18);(try clear hfz16_19);(try clear hfz16_2);(try clear hfz16_20);(try clear hfz16_21);(try clear hfz16_22);(try clear hfz16_23);(try clear hfz16_24);(try clear hfz16_3);(try clear hfz16_4);(try clear hfz16_5);(try clear hfz16_6);(try clear hfz16_7);(try clear hfz16_8);(try clear hfz16_9);(try clear hfz19_0);(try clear hfz19_1);(try clear hfz19_10);(try clear hfz19_11);(try clear hfz19_12);(try clear hfz19_13);(try clear hfz19_14);(try clear hfz19_15);(try clear hfz19_16);(try clear hfz19_17);(try clear hfz19_18);(try clear hfz19_19);(try clear hfz19_2);(try clear hfz19_20);(try clear hfz19_21);(try clear hfz19_22);(try clear hfz19_23);(try clear hfz19_24);(try clear hfz19_3);(try clear hfz19_4);(try clear hfz19_5);(try clear hfz19_6);(try clear hfz19_7);(try clear hfz19_8);(try clear hfz19_9);(try clear hfz21_0);(try clear hfz21_1);(try clear hfz21_10);(try clear hfz21_11);(try clear hfz21_12);(try clear hfz21_13);(try clear hfz21_14);(try clear hfz21_15);(try clear hfz21_16);(try clear hfz21_17);(try clear hfz21_18);(try clear hfz21_19);(try clear hfz21_2);(try clear hfz21_20);(try clear hfz21_21);(try clear hfz21_22);(try clear hfz21_23);(try clear hfz21_24);(try clear hfz21_3);(try clear hfz21_4);(try clear hfz21_5);(try clear hfz21_6);(try clear hfz21_7);(try clear hfz21_8);(try clear hfz21_9);(try clear p2)
            obtain ⟨kq, x38_10, rfl, HA, HJ10, BK277, HB⟩ := hcut
            cases kq with
            | zero => exact absurd HA.out (by simp [polyglotlaw09_PublishTopics.j1])
            | succ kj10 =>
              have H := HA.out
              clear HA
              simp only [polyglotlaw09_PublishTopics.j1] at H
              by_cases c23 : x38_10 = true
              · subst c23
                have H1 : (some false) = some r := by rw [if_pos rfl] at H; exact H
                clear H
                have H := H1
                clear H1
                exact absurd ((Option.some.inj H).trans HT_.out) (by decide)
              · replace c23 := Bool.eq_false_iff.mpr c23
                subst c23
                have H1 : ((some (([(⟨35, (a2) % 4294967296, (⟨#[]⟩ : ByteArray), (⟨#[]⟩ : ByteArray)⟩ : S27)] : List (S27)) : List (S27))).bind fun y281 => ((publish_Valid.f kj10 5 3 false false 0 0 a0 a1 false 0 (⟨#[]⟩ : ByteArray) false (⟨#[]⟩ : ByteArray) false (⟨#[]⟩ : ByteArray) false (⟨#[]⟩ : ByteArray) (⟨#[]⟩ : ByteArray) 0 false ([] : List (S27)) false 0 ([] : List Int) ([] : List (S119)) y281).bind fun t284 => ((publish_Alias.f kj10 3 false false 0 0 a0 a1 false 0 (⟨#[]⟩ : ByteArray) false (⟨#[]⟩ : ByteArray) false (⟨#[]⟩ : ByteArray) false (⟨#[]⟩ : ByteArray) (⟨#[]⟩ : ByteArray) 0 false ([] : List (S27)) false 0 ([] : List Int) ([] : List (S119)) y281).bind fun bt285 => (if bt285.2 = true then (polyglotlaw09_PublishTopics.j2 kj10 a0 a2 t278 t284 (bt285.1 != (wrap64 (a2)))) else (polyglotlaw09_PublishTopics.j2 kj10 a0 a2 t278 t284 true))))) = some r := by rw [if_neg (show ¬ (false = true) by decide)] at H; exact H
                clear H
                have H := H1
                clear H1
                obtain ⟨y281, hy281⟩ : ∃ y_ : List (S27), y_ = (([(⟨35, (a2) % 4294967296, (⟨#[]⟩ : ByteArray), (⟨#[]⟩ : ByteArray)⟩ : S27)] : List (S27))) := ⟨_, rfl⟩
                replace H : ((publish_Valid.f kj10 5 3 false false 0 0 a0 a1 false 0 (⟨#[]⟩ : ByteArray) false (⟨#[]⟩ : ByteArray) false (⟨#[]⟩ : ByteArray) false (⟨#[]⟩ : ByteArray) (⟨#[]⟩ : ByteArray) 0 false ([] : List (S27)) false 0 ([] : List Int) ([] : List (S119)) y281).bind fun t284 => ((publish_Alias.f kj10 3 false false 0 0 a0 a1 false 0 (⟨#[]⟩ : ByteArray) false (⟨#[]⟩ : ByteArray) false (⟨#[]⟩ : ByteArray) false (⟨#[]⟩ : ByteArray) (⟨#[]⟩ : ByteArray) 0 false ([] : List (S27)) false 0 ([] : List Int) ([] : List (S119)) y281).bind fun bt285 => (if bt285.2 = true then (polyglotlaw09_PublishTopics.j2 kj10 a0 a2 t278 t284 (bt285.1 != (wrap64 (a2)))) else (polyglotlaw09_PublishTopics.j2 kj10 a0 a2 t278 t284 true)))) = some r := by first | (rw [hy281]; with_reducible exact H) | (have H2_ := (Option.bind_some _ _).symm.trans H; rw [hy281]; with_reducible exact H2_) | (have H2_ := (Option.bind_some _ _).symm.trans H; with_reducible exact H2_) | with_reducible exact H | (rw [hy281]; exact H) | exact H
                have Ny281 := Aside0.mk hy281
                clear hy281
                replace H := Option.bind_eq_some_iff.mp H
                obtain ⟨t284, A240, H⟩ := H
                replace H : ((publish_Alias.f kj10 3 false false 0 0 a0 a1 false 0 (⟨#[]⟩ : ByteArray) false (⟨#[]⟩ : ByteArray) false (⟨#[]⟩ : ByteArray) false (⟨#[]⟩ : ByteArray) (⟨#[]⟩ : ByteArray) 0 false ([] : List (S27)) false 0 ([] : List Int) ([] : List (S119)) y281).bind fun bt285 => (if bt285.2 = true then (polyglotlaw09_PublishTopics.j2 kj10 a0 a2 t278 t284 (bt285.1 != (wrap64 (a2)))) else (polyglotlaw09_PublishTopics.j2 kj10 a0 a2 t278 t284 true))) = some r := H
                have A24 := Aside0.mk A240
                clear A240
                replace H := Option.bind_eq_some_iff.mp H
                obtain ⟨⟨t285, t286⟩, A250, H⟩ := H
                replace H : (if t286 = true then (polyglotlaw09_PublishTopics.j2 kj10 a0 a2 t278 t284 (t285 != (wrap64 (a2)))) else (polyglotlaw09_PublishTopics.j2 kj10 a0 a2 t278 t284 true)) = some r := H
                have A25 := Aside0.mk A250
                clear A250
                have HC26 := Aside0.mk H
                clear H
                go_upto_region 12 with (first | ((with_reducible refine polyglotlaw09_PublishTopics.gl rfl ?_); (try (refine gate_guard (by first | rfl | (simp [*]; done) | fail) ?_; dsimp only)); refine wpList_load_row rfl 48 _ rfl _ (by rfl) 48 _ _ _ (by first | exact Aside0.out (by with_reducible assumption) | ((with_reducible repeat (first | refine blk_drewN ?_ _ | refine blk_drew ?_ | refine blk_alloc ?_ _)); exact Aside0.out (by with_reducible assumption)) | (refine blk_put (Aside0.out (by with_reducible assumption)) 24 _ ?_; simp only [List.setIfInBounds_toArray, List.set_cons_zero, List.set_cons_succ]; rfl) | (apply blk_put (i := 24); (case h => exact Aside0.out (by with_reducible assumption)); (case e => (simp only [List.setIfInBounds_toArray, List.set_cons_zero, List.set_cons_succ]; rfl)))) Try.underlying48 rfl (by kernel_rfl) ?_) | ((with_reducible refine gate_dst (N := 42) rfl ?_); (try (refine gate_guard (by rfl) ?_; dsimp only)); refine Kd.R_lit k27 _ 27 ?hg (N := 42) ?hd (xs := ([(⟨35, (a2) % 4294967296, (⟨#[]⟩ : ByteArray), (⟨#[]⟩ : ByteArray)⟩ : S27)] : List (S27))) (inner := [.int .i64 35, .int .u32 ((a2) % 4294967296), .string (⟨#[]⟩ : ByteArray), .string (⟨#[]⟩ : ByteArray)]) (ok := fun _ => True) (okp := fun _ => True) ?hr ?hp (fun _ hk => hk) trivial (Below.refl _ _) (Nat.le_refl _) (by simp) ?_; (case hd => rfl); (case hg => rfl); (case hr => first | (go_simp; done) | (go_simp; rfl)); (case hp => exact (Reps.c4 (show Kd.M k27 _ _ _ (⟨35, (a2) % 4294967296, (⟨#[]⟩ : ByteArray), (⟨#[]⟩ : ByteArray)⟩ : S27) [.int .i64 35, .int .u32 ((a2) % 4294967296), .string (⟨#[]⟩ : ByteArray), .string (⟨#[]⟩ : ByteArray)] from (k27_mkM _ _ _ (⟨35, (a2) % 4294967296, (⟨#[]⟩ : ByteArray), (⟨#[]⟩ : ByteArray)⟩ : S27) )) (Reps.none _ _))); intro v282 w27 ho28 hb hg_ hnew_; clear hg_ hnew_; (first | rw [← Ny281.out] at ho28 | (simp only [Int.reduceToNat] at ho28; rw [← Ny281.out] at ho28)); have n0_ := Aside0.mk (Kd.R_lower ho28 (below_size (by repeat (first | (with_reducible first | exact HB.out | apply below_alloc | apply pw_below_drewN | apply below_drew1 | refine below_set ?_ GE277.out) | exact HB.out)))); have n1_ := Aside0.mk (blk_below (g := gb277) (o := .cells #[.int .i64 3, .bool false, .bool false, .int .i64 0, .int .i64 0, .string a0, .string a1, .bool false, .int .i64 0, .string (⟨#[]⟩ : ByteArray), .bool false, .string (⟨#[]⟩ : ByteArray), .bool false, .string (⟨#[]⟩ : ByteArray), .bool false, .string (⟨#[]⟩ : ByteArray), .string (⟨#[]⟩ : ByteArray), .int .i64 0, .bool false, .slice none 0 0, .bool false, .int .i64 0, .slice none 0 0, .slice none 0 0, .slice none 0 0] 48 (0, 0)) (by (with_reducible repeat (first | refine blk_drewN ?_ _ | refine blk_drew ?_ | refine blk_alloc ?_ _)); exact BK277.out) hb); have n2_ := Aside0.mk (below_step (by repeat (first | (with_reducible first | exact HB.out | apply below_alloc | apply pw_below_drewN | apply below_drew1 | refine below_set ?_ GE277.out) | exact HB.out)) hb); clear BK277; clear HB; have HO283 := n0_; have BK277 := n1_; have HB := n2_; clear n0_ n1_ n2_; clear hb ho28; obtain ⟨Ao29, co29, eo29⟩ := Kd.R_slice HO283.out; subst eo29; have hcz30_0 : w27.cell? ⟨gb277, 0, none⟩ = some (.int .i64 3) := (blk_cell BK277.out 0).trans rfl; have hcz30_1 : w27.cell? ⟨gb277, 1, none⟩ = some (.bool false) := (blk_cell BK277.out 1).trans rfl; have hcz30_2 : w27.cell? ⟨gb277, 2, none⟩ = some (.bool false) := (blk_cell BK277.out 2).trans rfl; have hcz30_3 : w27.cell? ⟨gb277, 3, none⟩ = some (.int .i64 0) := (blk_cell BK277.out 3).trans rfl; have hcz30_4 : w27.cell? ⟨gb277, 4, none⟩ = some (.int .i64 0) := (blk_cell BK277.out 4).trans rfl; have hcz30_5 : w27.cell? ⟨gb277, 5, none⟩ = some (.string a0) := (blk_cell BK277.out 5).trans rfl; have hcz30_6 : w27.cell? ⟨gb277, 6, none⟩ = some (.string a1) := (blk_cell BK277.out 6).trans rfl; have hcz30_7 : w27.cell? ⟨gb277, 7, none⟩ = some (.bool false) := (blk_cell BK277.out 7).trans rfl; have hcz30_8 : w27.cell? ⟨gb277, 8, none⟩ = some (.int .i64 0) := (blk_cell BK277.out 8).trans rfl; have hcz30_9 : w27.cell? ⟨gb277, 9, none⟩ = some (.string (⟨#[]⟩ : ByteArray)) := (blk_cell BK277.out 9).trans rfl; have hcz30_10 : w27.cell? ⟨gb277, 10, none⟩ = some (.bool false) := (blk_cell BK277.out 10).trans rfl; have hcz30_11 : w27.cell? ⟨gb277, 11, none⟩ = some (.string (⟨#[]⟩ : ByteArray)) := (blk_cell BK277.out 11).trans rfl; have hcz30_12 : w27.cell? ⟨gb277, 12, none⟩ = some (.bool false) := (blk_cell BK277.out 12).trans rfl; have hcz30_13 : w27.cell? ⟨gb277, 13, none⟩ = some (.string (⟨#[]⟩ : ByteArray)) := (blk_cell BK277.out 13).trans rfl; have hcz30_14 : w27.cell? ⟨gb277, 14, none⟩ = some (.bool false) := (blk_cell BK277.out 14).trans rfl; have hcz30_15 : w27.cell? ⟨gb277, 15, none⟩ = some (.string (⟨#[]⟩ : ByteArray)) := (blk_cell BK277.out 15).trans rfl; have hcz30_16 : w27.cell? ⟨gb277, 16, none⟩ = some (.string (⟨#[]⟩ : ByteArray)) := (blk_cell BK277.out 16).trans rfl; have hcz30_17 : w27.cell? ⟨gb277, 17, none⟩ = some (.int .i64 0) := (blk_cell BK277.out 17).trans rfl; have hcz30_18 : w27.cell? ⟨gb277, 18, none⟩ = some (.bool false) := (blk_cell BK277.out 18).trans rfl; have hcz30_19 : w27.cell? ⟨gb277, 19, none⟩ = some (.slice none 0 0) := (blk_cell BK277.out 19).trans rfl; have hcz30_20 : w27.cell? ⟨gb277, 20, none⟩ = some (.bool false) := (blk_cell BK277.out 20).trans rfl; have hcz30_21 : w27.cell? ⟨gb277, 21, none⟩ = some (.int .i64 0) := (blk_cell BK277.out 21).trans rfl; have hcz30_22 : w27.cell? ⟨gb277, 22, none⟩ = some (.slice none 0 0) := (blk_cell BK277.out 22).trans rfl; have hcz30_23 : w27.cell? ⟨gb277, 23, none⟩ = some (.slice none 0 0) := (blk_cell BK277.out 23).trans rfl; have hcz30_24 : w27.cell? ⟨gb277, 24, none⟩ = some (.slice none 0 0) := (blk_cell BK277.out 24).trans rfl; have hfz30_0 := blk_frozen BK277.out 0; have hfz30_1 := blk_frozen BK277.out 1; have hfz30_2 := blk_frozen BK277.out 2; have hfz30_3 := blk_frozen BK277.out 3; have hfz30_4 := blk_frozen BK277.out 4; have hfz30_5 := blk_frozen BK277.out 5; have hfz30_6 := blk_frozen BK277.out 6; have hfz30_7 := blk_frozen BK277.out 7; have hfz30_8 := blk_frozen BK277.out 8; have hfz30_9 := blk_frozen BK277.out 9; have hfz30_10 := blk_frozen BK277.out 10; have hfz30_11 := blk_frozen BK277.out 11; have hfz30_12 := blk_frozen BK277.out 12; have hfz30_13 := blk_frozen BK277.out 13; have hfz30_14 := blk_frozen BK277.out 14; have hfz30_15 := blk_frozen BK277.out 15; have hfz30_16 := blk_frozen BK277.out 16; have hfz30_17 := blk_frozen BK277.out 17; have hfz30_18 := blk_frozen BK277.out 18; have hfz30_19 := blk_frozen BK277.out 19; have hfz30_20 := blk_frozen BK277.out 20; have hfz30_21 := blk_frozen BK277.out 21; have hfz30_22 := blk_frozen BK277.out 22; have hfz30_23 := blk_frozen BK277.out 23; have hfz30_24 := blk_frozen BK277.out 24) | ((with_reducible refine gate_callee (f := 24) rfl ?_); refine goesL_ (some 45) rfl rfl Try.func24 (by kernel_rfl) rfl #[.int .i64 5, .agg #[.int .i64 3, .bool false, .bool false, .int .i64 0, .int .i64 0, .string a0, .string a1, .bool false, .int .i64 0, .string (⟨#[]⟩ : ByteArray), .bool false, .string (⟨#[]⟩ : ByteArray), .bool false, .string (⟨#[]⟩ : ByteArray), .bool false, .string (⟨#[]⟩ : ByteArray), .string (⟨#[]⟩ : ByteArray), .int .i64 0, .bool false, .slice none 0 0, .bool false, .int .i64 0, .slice none 0 0, .slice none 0 0, .slice Ao29 y281.length co29]] rfl (by (try simp only [List.map_toArray, List.map_cons, List.map_nil]); first | done | rfl | (simp only [List.length_drop, List.length_take]; rfl)) ?_; (refine (publish_Valid.calls kj10 5 3 false false 0 0 a0 a1 false 0 (⟨#[]⟩ : ByteArray) false (⟨#[]⟩ : ByteArray) false (⟨#[]⟩ : ByteArray) false (⟨#[]⟩ : ByteArray) (⟨#[]⟩ : ByteArray) 0 false _ _ ([] : List (S27)) false 0 _ _ ([] : List Int) _ _ ([] : List (S119)) _ _ y281 t284 _ ?side1 ?side2 ?side3 ?side4 ?side5 ?side6 ?side7 ?side8 A24.out).mono ?_); (case side1 => exact Kd.C_nil _ _); (case side2 => exact Nat.le_refl _); (case side3 => exact Kd.C_nil _ _); (case side4 => exact Nat.le_refl _); (case side5 => exact Kd.C_nil _ _); (case side6 => exact Nat.le_refl _); (case side7 => refine (Kd.R_reads' (e := 27) (base := w.heap.size) (ok := fun k_ => True) (n := y281.length) (c := co29) ?_).2.2; exact (by (with_reducible repeat (first | apply Kd.R_alloc | apply Kd.R_drewN | apply Kd.R_drew)); exact (Kd.R_mono (Kd.R_far (p := ⟨gb277, 24, none⟩) (Kd.R_types HO283.out BK277.out (by decide)) (fun _ hk => hk.2) (.slice Ao29 y281.length co29)) (fun _ h_ => h_.1)))); (case side8 => exact (Kd.R_reads' HO283.out).2.1); rintro e w31 ⟨rfl, hb⟩; refine ⟨_, rfl, ?_⟩; have n0_ := Aside0.mk (Kd.R_below (by (with_reducible repeat (first | apply Kd.R_alloc | apply Kd.R_drewN | apply Kd.R_drew)); exact (Kd.R_mono (Kd.R_far (p := ⟨gb277, 24, none⟩) (Kd.R_types HO283.out BK277.out (by decide)) (fun _ hk => hk.2) (.slice Ao29 y281.length co29)) (fun _ h_ => h_.1))) hb); have n1_ := Aside0.mk (blk_below (g := gb277) (o := .cells #[.int .i64 3, .bool false, .bool false, .int .i64 0, .int .i64 0, .string a0, .string a1, .bool false, .int .i64 0, .string (⟨#[]⟩ : ByteArray), .bool false, .string (⟨#[]⟩ : ByteArray), .bool false, .string (⟨#[]⟩ : ByteArray), .bool false, .string (⟨#[]⟩ : ByteArray), .string (⟨#[]⟩ : ByteArray), .int .i64 0, .bool false, .slice none 0 0, .bool false, .int .i64 0, .slice none 0 0, .slice none 0 0, .slice Ao29 y281.length co29] 48 (0, 0)) (by (with_reducible repeat (first | refine blk_drewN ?_ _ | refine blk_drew ?_ | refine blk_alloc ?_ _)); refine blk_put (cs := #[.int .i64 3, .bool false, .bool false, .int .i64 0, .int .i64 0, .string a0, .string a1, .bool false, .int .i64 0, .string (⟨#[]⟩ : ByteArray), .bool false, .string (⟨#[]⟩ : ByteArray), .bool false, .string (⟨#[]⟩ : ByteArray), .bool false, .string (⟨#[]⟩ : ByteArray), .string (⟨#[]⟩ : ByteArray), .int .i64 0, .bool false, .slice none 0 0, .bool false, .int .i64 0, .slice none 0 0, .slice none 0 0, .slice none 0 0]) ?_ 24 _ rfl; (with_reducible repeat (first | refine blk_drewN ?_ _ | refine blk_drew ?_ | refine blk_alloc ?_ _)); exact BK277.out) hb); have n2_ := Aside0.mk (below_step (by repeat (first | (with_reducible first | exact HB.out | apply below_alloc | apply pw_below_drewN | apply below_drew1 | refine below_set ?_ GE277.out) | exact HB.out)) hb); clear HO283; clear BK277; clear HB; have HO283 := n0_; have BK277 := n1_; have HB := n2_; clear n0_ n1_ n2_; (try clear hb); (try clear hb2); (try clear hk); (try clear hi); have hcz32_0 : w31.cell? ⟨gb277, 0, none⟩ = some (.int .i64 3) := (blk_cell BK277.out 0).trans rfl; have hcz32_1 : w31.cell? ⟨gb277, 1, none⟩ = some (.bool false) := (blk_cell BK277.out 1).trans rfl; have hcz32_2 : w31.cell? ⟨gb277, 2, none⟩ = some (.bool false) := (blk_cell BK277.out 2).trans rfl; have hcz32_3 : w31.cell? ⟨gb277, 3, none⟩ = some (.int .i64 0) := (blk_cell BK277.out 3).trans rfl; have hcz32_4 : w31.cell? ⟨gb277, 4, none⟩ = some (.int .i64 0) := (blk_cell BK277.out 4).trans rfl; have hcz32_5 : w31.cell? ⟨gb277, 5, none⟩ = some (.string a0) := (blk_cell BK277.out 5).trans rfl; have hcz32_6 : w31.cell? ⟨gb277, 6, none⟩ = some (.string a1) := (blk_cell BK277.out 6).trans rfl; have hcz32_7 : w31.cell? ⟨gb277, 7, none⟩ = some (.bool false) := (blk_cell BK277.out 7).trans rfl; have hcz32_8 : w31.cell? ⟨gb277, 8, none⟩ = some (.int .i64 0) := (blk_cell BK277.out 8).trans rfl; have hcz32_9 : w31.cell? ⟨gb277, 9, none⟩ = some (.string (⟨#[]⟩ : ByteArray)) := (blk_cell BK277.out 9).trans rfl; have hcz32_10 : w31.cell? ⟨gb277, 10, none⟩ = some (.bool false) := (blk_cell BK277.out 10).trans rfl; have hcz32_11 : w31.cell? ⟨gb277, 11, none⟩ = some (.string (⟨#[]⟩ : ByteArray)) := (blk_cell BK277.out 11).trans rfl; have hcz32_12 : w31.cell? ⟨gb277, 12, none⟩ = some (.bool false) := (blk_cell BK277.out 12).trans rfl; have hcz32_13 : w31.cell? ⟨gb277, 13, none⟩ = some (.string (⟨#[]⟩ : ByteArray)) := (blk_cell BK277.out 13).trans rfl; have hcz32_14 : w31.cell? ⟨gb277, 14, none⟩ = some (.bool false) := (blk_cell BK277.out 14).trans rfl; have hcz32_15 : w31.cell? ⟨gb277, 15, none⟩ = some (.string (⟨#[]⟩ : ByteArray)) := (blk_cell BK277.out 15).trans rfl; have hcz32_16 : w31.cell? ⟨gb277, 16, none⟩ = some (.string (⟨#[]⟩ : ByteArray)) := (blk_cell BK277.out 16).trans rfl; have hcz32_17 : w31.cell? ⟨gb277, 17, none⟩ = some (.int .i64 0) := (blk_cell BK277.out 17).trans rfl; have hcz32_18 : w31.cell? ⟨gb277, 18, none⟩ = some (.bool false) := (blk_cell BK277.out 18).trans rfl; have hcz32_19 : w31.cell? ⟨gb277, 19, none⟩ = some (.slice none 0 0) := (blk_cell BK277.out 19).trans rfl; have hcz32_20 : w31.cell? ⟨gb277, 20, none⟩ = some (.bool false) := (blk_cell BK277.out 20).trans rfl; have hcz32_21 : w31.cell? ⟨gb277, 21, none⟩ = some (.int .i64 0) := (blk_cell BK277.out 21).trans rfl; have hcz32_22 : w31.cell? ⟨gb277, 22, none⟩ = some (.slice none 0 0) := (blk_cell BK277.out 22).trans rfl; have hcz32_23 : w31.cell? ⟨gb277, 23, none⟩ = some (.slice none 0 0) := (blk_cell BK277.out 23).trans rfl; have hcz32_24 : w31.cell? ⟨gb277, 24, none⟩ = some (.slice Ao29 y281.length co29) := (blk_cell BK277.out 24).trans rfl; have hfz32_0 := blk_frozen BK277.out 0; have hfz32_1 := blk_frozen BK277.out 1; have hfz32_2 := blk_frozen BK277.out 2; have hfz32_3 := blk_frozen BK277.out 3; have hfz32_4 := blk_frozen BK277.out 4; have hfz32_5 := blk_frozen BK277.out 5; have hfz32_6 := blk_frozen BK277.out 6; have hfz32_7 := blk_frozen BK277.out 7; have hfz32_8 := blk_frozen BK277.out 8; have hfz32_9 := blk_frozen BK277.out 9; have hfz32_10 := blk_frozen BK277.out 10; have hfz32_11 := blk_frozen BK277.out 11; have hfz32_12 := blk_frozen BK277.out 12; have hfz32_13 := blk_frozen BK277.out 13; have hfz32_14 := blk_frozen BK277.out 14; have hfz32_15 := blk_frozen BK277.out 15; have hfz32_16 := blk_frozen BK277.out 16; have hfz32_17 := blk_frozen BK277.out 17; have hfz32_18 := blk_frozen BK277.out 18; have hfz32_19 := blk_frozen BK277.out 19; have hfz32_20 := blk_frozen BK277.out 20; have hfz32_21 := blk_frozen BK277.out 21; have hfz32_22 := blk_frozen BK277.out 22; have hfz32_23 := blk_frozen BK277.out 23; have hfz32_24 := blk_frozen BK277.out 24) | ((with_reducible refine gate_callee (f := 25) rfl ?_); refine goesL_ (some 48) rfl rfl Try.func25 (by kernel_rfl) rfl #[.agg #[.int .i64 3, .bool false, .bool false, .int .i64 0, .int .i64 0, .string a0, .string a1, .bool false, .int .i64 0, .string (⟨#[]⟩ : ByteArray), .bool false, .string (⟨#[]⟩ : ByteArray), .bool false, .string (⟨#[]⟩ : ByteArray), .bool false, .string (⟨#[]⟩ : ByteArray), .string (⟨#[]⟩ : ByteArray), .int .i64 0, .bool false, .slice none 0 0, .bool false, .int .i64 0, .slice none 0 0, .slice none 0 0, .slice Ao29 y281.length co29]] rfl (by (try simp only [List.map_toArray, List.map_cons, List.map_nil]); first | done | rfl | (simp only [List.length_drop, List.length_take]; rfl)) ?_; (refine (publish_Alias.calls kj10 3 false false 0 0 a0 a1 false 0 (⟨#[]⟩ : ByteArray) false (⟨#[]⟩ : ByteArray) false (⟨#[]⟩ : ByteArray) false (⟨#[]⟩ : ByteArray) (⟨#[]⟩ : ByteArray) 0 false _ _ ([] : List (S27)) false 0 _ _ ([] : List Int) _ _ ([] : List (S119)) _ _ y281 t285 t286 _ ?side1 ?side2 ?side3 ?side4 ?side5 ?side6 ?side7 ?side8 A25.out).mono ?_); (case side1 => exact Kd.C_nil _ _); (case side2 => exact Nat.le_refl _); (case side3 => exact Kd.C_nil _ _); (case side4 => exact Nat.le_refl _); (case side5 => exact Kd.C_nil _ _); (case side6 => exact Nat.le_refl _); (case side7 => repeat (first | exact (Kd.R_reads' HO283.out).2.2 | (with_reducible refine Kd.C_alloc ?_ _) | (with_reducible refine Kd.C_drewN ?_ _) | (with_reducible refine Kd.C_drew ?_))); (case side8 => exact (Kd.R_reads' HO283.out).2.1); rintro e w33 ⟨rfl, hb⟩; refine ⟨_, rfl, ?_⟩; have n0_ := Aside0.mk (Kd.R_below (by (with_reducible repeat (first | apply Kd.R_alloc | apply Kd.R_drewN | apply Kd.R_drew)); exact HO283.out) hb); have n1_ := Aside0.mk (blk_below (g := gb277) (o := .cells #[.int .i64 3, .bool false, .bool false, .int .i64 0, .int .i64 0, .string a0, .string a1, .bool false, .int .i64 0, .string (⟨#[]⟩ : ByteArray), .bool false, .string (⟨#[]⟩ : ByteArray), .bool false, .string (⟨#[]⟩ : ByteArray), .bool false, .string (⟨#[]⟩ : ByteArray), .string (⟨#[]⟩ : ByteArray), .int .i64 0, .bool false, .slice none 0 0, .bool false, .int .i64 0, .slice none 0 0, .slice none 0 0, .slice Ao29 y281.length co29] 48 (0, 0)) (by (with_reducible repeat (first | refine blk_drewN ?_ _ | refine blk_drew ?_ | refine blk_alloc ?_ _)); exact BK277.out) hb); have n2_ := Aside0.mk (below_step (by repeat (first | (with_reducible first | exact HB.out | apply below_alloc | apply pw_below_drewN | apply below_drew1 | refine below_set ?_ GE277.out) | exact HB.out)) hb); clear HO283; clear BK277; clear HB; have HO283 := n0_; have BK277 := n1_; have HB := n2_; clear n0_ n1_ n2_; (try clear hb); (try clear hb2); (try clear hk); (try clear hi)))
                (try simp only [Act.put, List.setIfInBounds_toArray, List.set_cons_zero, List.set_cons_succ])
                go_cut [58] (fun v58 wc => ∃ (kq : Nat) (x58_25 : Bool), v58 = .bool x58_25 ∧ Aside0 (polyglotlaw09_PublishTopics.j2 kq a0 a2 t278 t284 x58_25 = some r) ∧ Aside0 (kq ≤ kj10) ∧ Aside0 (Kd.R k27 27 wc w.heap.size (fun _ => True) (.slice Ao29 y281.length co29) y281) ∧ Aside0 (wc.heap[gb277]? = some (.cells #[.int .i64 3, .bool false, .bool false, .int .i64 0, .int .i64 0, .string a0, .string a1, .bool false, .int .i64 0, .string (⟨#[]⟩ : ByteArray), .bool false, .string (⟨#[]⟩ : ByteArray), .bool false, .string (⟨#[]⟩ : ByteArray), .bool false, .string (⟨#[]⟩ : ByteArray), .string (⟨#[]⟩ : ByteArray), .int .i64 0, .bool false, (.slice none 0 0), .bool false, .int .i64 0, (.slice none 0 0), (.slice none 0 0), (.slice Ao29 y281.length co29)] 48 (0, 0))) ∧ Aside0 (Below w.heap.size w wc))
                case first =>
                  have H := HC26.out
                  clear HC26
                  by_cases c34 : t286 = true
                  · subst c34
                    have H1 : (polyglotlaw09_PublishTopics.j2 kj10 a0 a2 t278 t284 (t285 != (wrap64 (a2)))) = some r := by rw [if_pos rfl] at H; exact H
                    clear H
                    have H := H1
                    clear H1
                    have H' := Aside0.mk H
                    clear H
                    go_wp2_with (first | ((with_reducible refine polyglotlaw09_PublishTopics.gl rfl ?_); (try (refine gate_guard (by first | rfl | (simp [*]; done) | fail) ?_; dsimp only)); refine wpList_load_row rfl 48 _ rfl _ (by rfl) 48 _ _ _ (by first | exact Aside0.out (by with_reducible assumption) | ((with_reducible repeat (first | refine blk_drewN ?_ _ | refine blk_drew ?_ | refine blk_alloc ?_ _)); exact Aside0.out (by with_reducible assumption)) | (refine blk_put (Aside0.out (by with_reducible assumption)) 24 _ ?_; simp only [List.setIfInBounds_toArray, List.set_cons_zero, List.set_cons_succ]; rfl) | (apply blk_put (i := 24); (case h => exact Aside0.out (by with_reducible assumption)); (case e => (simp only [List.setIfInBounds_toArray, List.set_cons_zero, List.set_cons_succ]; rfl)))) Try.underlying48 rfl (by kernel_rfl) ?_))
                    go_meet
                    case rel => exact ⟨_, ((t285 != (wrap64 (a2)))), (by first | rfl | (simp; done) | (simp [*]; done) | (simp; exact bne_nil_isEmpty _) | exact bne_nil_isEmpty _ | (simp; exact (bne_nil_isEmpty _).symm) | (simp; exact bne_nil_isEmpty' _)), H', ⟨by have := HJ5.out; have := HJ10.out; first | omega | exact Nat.le_refl _⟩, ⟨by (with_reducible repeat (first | apply Kd.R_alloc | apply Kd.R_drewN | apply Kd.R_drew)); exact HO283.out⟩, ⟨by (with_reducible repeat (first | refine blk_drewN ?_ _ | refine blk_drew ?_ | refine blk_alloc ?_ _)); exact BK277.out⟩, ⟨by repeat (first | (with_reducible first | exact HB.out | apply below_alloc | apply pw_below_drewN | apply below_drew1 | refine below_set ?_ GE277.out) | exact HB.out)⟩⟩
                  · replace c34 := Bool.eq_false_iff.mpr c34
                    subst c34
                    have H1 : (polyglotlaw09_PublishTopics.j2 kj10 a0 a2 t278 t284 true) = some r := by rw [if_neg (show ¬ (false = true) by decide)] at H; exact H
                    clear H
                    have H := H1
                    clear H1
                    have H' := Aside0.mk H
                    clear H
                    go_wp2_with (first | ((with_reducible refine polyglotlaw09_PublishTopics.gl rfl ?_); (try (refine gate_guard (by first | rfl | (simp [*]; done) | fail) ?_; dsimp only)); refine wpList_load_row rfl 48 _ rfl _ (by rfl) 48 _ _ _ (by first | exact Aside0.out (by with_reducible assumption) | ((with_reducible repeat (first | refine blk_drewN ?_ _ | refine blk_drew ?_ | refine blk_alloc ?_ _)); exact Aside0.out (by with_reducible assumption)) | (refine blk_put (Aside0.out (by with_reducible assumption)) 24 _ ?_; simp only [List.setIfInBounds_toArray, List.set_cons_zero, List.set_cons_succ]; rfl) | (apply blk_put (i := 24); (case h => exact Aside0.out (by with_reducible assumption)); (case e => (simp only [List.setIfInBounds_toArray, List.set_cons_zero, List.set_cons_succ]; rfl)))) Try.underlying48 rfl (by kernel_rfl) ?_))
                    go_meet
                    case rel => exact ⟨_, (true), (by first | rfl | (simp; done) | (simp [*]; done) | (simp; exact bne_nil_isEmpty _) | exact bne_nil_isEmpty _ | (simp; exact (bne_nil_isEmpty _).symm) | (simp; exact bne_nil_isEmpty' _)), H', ⟨by have := HJ5.out; have := HJ10.out; first | omega | exact Nat.le_refl _⟩, ⟨by (with_reducible repeat (first | apply Kd.R_alloc | apply Kd.R_drewN | apply Kd.R_drew)); exact HO283.out⟩, ⟨by (with_reducible repeat (first | refine blk_drewN ?_ _ | refine blk_drew ?_ | refine blk_alloc ?_ _)); exact BK277.out⟩, ⟨by repeat (first | (with_reducible first | exact HB.out | apply below_alloc | apply pw_below_drewN | apply below_drew1 | refine below_set ?_ GE277.out) | exact HB.out)⟩⟩
                case rest =>
                  clear HC26
                  (try clear c1);(try clear c2);(try clear p2);(try clear c3);(try clear c4);(try clear c5);(try clear c6);(try clear p6);(try clear c8);(try clear c8b0);(try clear c8b1);(try clear c9);(try clear c15);(try clear c15b0);(try clear c15b1);(try clear c15b2);(try clear c22);(try clear c23);(try clear c24);(try clear c25);(try clear c34);(try clear hcz13_0);(try clear hcz13_1);(try clear hcz13_10);(try clear hcz13_11);(try clear hcz13_12);(try clear hcz13_13);(try clear hcz13_14);(try clear hcz13_15);(try clear hcz13_16);(try clear hcz13_17);(try clear hcz13_18);(try clear hcz13_19);(try clear hcz13_2);(try clear hcz13_20);(try clear hcz13_21);(try clear hcz13_22);(try clear hcz13_23);(try clear hcz13_24);(try clear hcz13_3);(try clear hcz13_4);(try clear hcz13_5);(try clear hcz13_6);(try clear hcz13_7);(try clear hcz13_8);(try clear hcz13_9);(try clear hcz16_0);(try clear hcz16_1);(try clear hcz16_10);(try clear hcz16_11);(try clear hcz16_12);(try clear hcz16_13);(try clear hcz16_14);(try clear hcz16_15);(try clear hcz16_16);(try clear hcz16_17);(try clear hcz16_18);(try clear hcz16_19);(try clear hcz16_2);(try clear hcz16_20);(try clear hcz16_21);(try clear hcz16_22);(try clear hcz16_23);(try clear hcz16_24);(try clear hcz16_3);(try clear hcz16_4);(try clear hcz16_5);(try clear hcz16_6);(try clear hcz16_7);(try clear hcz16_8);(try clear hcz16_9);(try clear hcz19_0);(try clear hcz19_1);(try clear hcz19_10);(try clear hcz19_11);(try clear hcz19_12);(try clear hcz19_13);(try clear hcz19_14);(try clear hcz19_15);(try clear hcz19_16);(try clear hcz19_17);(try clear hcz19_18);(try clear hcz19_19);(try clear hcz19_2);(try clear hcz19_20);(try clear hcz19_21);(try clear hcz19_22);(try clear hcz19_23);(try clear hcz19_24);(try clear hcz19_3);(try clear hcz19_4);(try clear hcz19_5);(try clear hcz19_6);(try clear hcz19_7);(try clear hcz19_8);(try clear hcz19_9);(try clear hcz21_0);(try clear hcz21_1);(try clear hcz21_10);(try clear hcz21_11);(try clear hcz21_12);(try clear hcz21_13);(try clear hcz21_14);(try clear hcz21_15);(try clear hcz21_16);(try clear hcz21_17);(try clear hcz21_18);(try clear hcz21_19);(try clear hcz21_2);(try clear hcz21_20);(try clear hcz21_21);(try clear hcz21_22);(try clear hcz21_23);(try clear hcz21_24);(try clear hcz21_3);(try clear hcz21_4);(try clear hcz21_5);(try clear hcz21_6);(try clear hcz21_7);(try clear hcz21_8);(try clear hcz21_9);(try clear hcz30_0);(try clear hcz30_1);(try clear hcz30_10);(try clear hcz30_11);(try clear hcz30_12);(try clear hcz30_13);(try clear hcz30_14);(try clear hcz30_15);(try clear hcz30_16);(try clear hcz30_17);(try clear hcz30_18);(try clear hcz30_19);(try clear hcz30_2);(try clear hcz30_20);(try clear hcz30_21);(try clear hcz30_22);(try clear hcz30_23);(try clear hcz30_24);(try clear hcz30_3);(try clear hcz30_4);(try clear hcz30_5);(try clear hcz30_6);(try clear hcz30_7);(try clear hcz30_8);(try clear hcz30_9);(try clear hcz32_0);(try clear hcz32_1);(try clear hcz32_10);(try clear hcz32_11);(try clear hcz32_12);(try clear hcz32_13);(try clear hcz32_14);(try clear hcz32_15);(try clear hcz32_16);(try clear hcz32_17);(try clear hcz32_18);(try clear hcz32_19);(try clear hcz32_2);(try clear hcz32_20);(try clear hcz32_21);(try clear hcz32_22);(try clear hcz32_23);(try clear hcz32_24);(try clear hcz32_3);(try clear hcz32_4);(try clear hcz32_5);(try clear hcz32_6);(try clear hcz32_7);(try clear hcz32_8);(try clear hcz32_9);(try clear hfz13_0);(try clear hfz13_1);(try clear hfz13_10);(try clear hfz13_11);(try clear hfz13_12);(try clear hfz13_13);(try clear hfz13_14);(try clear hfz13_15);(try clear hfz13_16);(try clear hfz13_17);(try clear hfz13_18);(try clear hfz13_19);(try clear hfz13_2);(try clear hfz13_20);(try clear hfz13_21);(try clear hfz13_22);(try clear hfz13_23);(try clear hfz13_24);(try clear hfz13_3);(try clear hfz13_4);(try clear hfz13_5);(try clear hfz13_6);(try clear hfz13_7);(try clear hfz13_8);(try clear hfz13_9);(try clear hfz16_0);(try clear hfz16_1);(try clear hfz16_10);(try clear hfz16_11);(try clear hfz16_12);(try clear hfz16_13);(try clear hfz16_14);(try clear hfz16_15);(try clear hfz16_16);(try clear hfz16_17);(try clear hfz16_18);(try clear hfz16_19);(try clear hfz16_2);(try clear hfz16_20);(try clear hfz16_21);(try clear hfz16_22);(try clear hfz16_23);(try clear hfz16_24);(try clear hfz16_3);(try clear hfz16_4);(try clear hfz16_5);(try clear hfz16_6);(try clear hfz16_7);(try clear hfz16_8);(try clear hfz16_9);(try clear hfz19_0);(try clear hfz19_1);(try clear hfz19_10);(try clear hfz19_11);(try clear hfz19_12);(try clear hfz19_13);(try clear hfz19_14);(try clear hfz19_15);(try clear hfz19_16);(try clear hfz19_17);(try clear hfz19_18);(try clear hfz19_19);(try clear hfz19_2);(try clear hfz19_20);(try clear hfz19_21);(try clear hfz19_22);(try clear hfz19_23);(try clear hfz19_24);(try clear hfz19_3);(try clear hfz19_4);(try clear hfz19_5);(try clear hfz19_6);(try clear hfz19_7);(try clear hfz19_8);(try clear hfz19_9);(try clear hfz21_0);(try clear hfz21_1);(try clear hfz21_10);(try clear hfz21_11);(try clear hfz21_12);(try clear hfz21_13);(try clear hfz21_14);(try clear hfz21_15);(try clear hfz21_16);(try clear hfz21_17);(try clear hfz21_18);(try clear hfz21_19);(try clear hfz21_2);(try clear hfz21_20);(try clear hfz21_21);(try clear hfz21_22);(try clear hfz21_23);(try clear hfz21_24);(try clear hfz21_3);(try clear hfz21_4);(try clear hfz21_5);(try clear hfz21_6);(try clear hfz21_7);(try clear hfz21_8);(try clear hfz21_9);(try clear hfz30_0);(try clear hfz30_1);(try clear hfz30_10);(try clear hfz30_11);(try clear hfz30_12);(try clear hfz30_13);(try clear hfz30_14);(try clear hfz30_15);(try clear hfz30_16);(try clear hfz30_17);(try clear hfz30_18);(try clear hfz30_19);(try clear hfz30_2);(try clear hfz30_20);(try clear hfz30_21);(try clear hfz30_22);(try clear hfz30_23);(try clear hfz30_24);(try clear hfz30_3);(try clear hfz30_4);(try clear hfz30_5);(try clear hfz30_6);(try clear hfz30_7);(try clear hfz30_8);(try clear hfz30_9);(try clear hfz32_0);(try clear hfz32_1);(try clear hfz32_10);(try clear hfz32_11);(try clear hfz32_12);(try clear hfz32_13);(try clear hfz32_14);(try clear hfz32_15);(try clear hfz32_16);(try clear hfz32_17);(try clear hfz32_18);(try clear hfz32_19);(try clear hfz32_2);(try clear hfz32_20);(try clear hfz32_21);(try clear hfz32_22);(try clear hfz32_23);(try clear hfz32_24);(try clear hfz32_3);(try clear hfz32_4);(try clear hfz32_5);(try clear hfz32_6);(try clear hfz32_7);(try clear hfz32_8);(try clear hfz32_9);(try clear p2)
                  obtain ⟨kq, x58_25, rfl, HA, HJ25, HO_278024, BK277, HB⟩ := hcut
                  cases kq with
                  | zero => exact absurd HA.out (by simp [polyglotlaw09_PublishTopics.j2])
                  | succ kj25 =>
                    have H := HA.out
                    clear HA
                    simp only [polyglotlaw09_PublishTopics.j2] at H
                    by_cases c35 : x58_25 = true
                    · subst c35
                      have H1 : (some false) = some r := by rw [if_pos rfl] at H; exact H
                      clear H
                      have H := H1
                      clear H1
                      exact absurd ((Option.some.inj H).trans HT_.out) (by decide)
                    · replace c35 := Bool.eq_false_iff.mpr c35
                      subst c35
                      have H1 : (if t278 = true then (if ((t284 == 0) == (decide (a2 > 0))) = true then (if t284 = 0 then (some true) else (some (t284 == 9))) else (some false)) else (if a0.toList = ([] : List UInt8) then (if ((t284 == 0) == (decide (a2 > 0))) = true then (if t284 = 0 then (some true) else (some (t284 == 9))) else (some false)) else (some (t284 == 10)))) = some r := by rw [if_neg (show ¬ (false = true) by decide)] at H; exact H
                      clear H
                      have H := H1
                      clear H1
                      by_cases c36 : t278 = true
                      · subst c36
                        have H1 : (if ((t284 == 0) == (decide (a2 > 0))) = true then (if t284 = 0 then (some true) else (some (t284 == 9))) else (some false)) = some r := by rw [if_pos rfl] at H; exact H
                        clear H
                        have H := H1
                        clear H1
                        by_cases c37 : ((t284 == 0) == (decide (a2 > 0))) = true
                        · rw [if_pos c37] at H
                          have c37b0 : ((t284 == 0) == (decide (a2 > 0))) = true := c37
                          (try (have c37b1 : decide ((t284 == 0) = (decide (a2 > 0))) = true := by simpa using c37))
                          (try (have c37b2 : ((t284 == 0) == (decide (a2 > 0))) = true := by simpa using c37))
                          clear c37
                          by_cases c38 : t284 = 0
                          · rw [if_pos c38] at H
                            have c38b0 : (t284 == 0) = true := beq_iff_eq.mpr c38
                            have q1_ : decide (0 < a2) = true := by have e_ := c37b0; rw [c38b0] at e_; simpa using e_
                            (try clear c37b1);(try clear c37b2);(try clear c37b0)
                            have c38b1 : (t284 != 0) = false := bne_eq_false_iff_eq.mpr c38
                            clear c38
                            obtain rfl := Option.some.inj H
                            go_wp2_with (first | ((with_reducible refine polyglotlaw09_PublishTopics.gl rfl ?_); (try (refine gate_guard (by first | rfl | (simp [*]; done) | fail) ?_; dsimp only)); refine wpList_load_row rfl 48 _ rfl _ (by rfl) 48 _ _ _ (by first | exact Aside0.out (by with_reducible assumption) | ((with_reducible repeat (first | refine blk_drewN ?_ _ | refine blk_drew ?_ | refine blk_alloc ?_ _)); exact Aside0.out (by with_reducible assumption)) | (refine blk_put (Aside0.out (by with_reducible assumption)) 24 _ ?_; simp only [List.setIfInBounds_toArray, List.set_cons_zero, List.set_cons_succ]; rfl) | (apply blk_put (i := 24); (case h => exact Aside0.out (by with_reducible assumption)); (case e => (simp only [List.setIfInBounds_toArray, List.set_cons_zero, List.set_cons_succ]; rfl)))) Try.underlying48 rfl (by kernel_rfl) ?_))
                            go_ret
                            exact ⟨by first | rfl | (simp [errW_none, errW_some] <;> rfl) | (simp [*, errW_none, errW_some] <;> rfl), by repeat (first | (with_reducible first | exact HB.out | apply below_alloc | apply pw_below_drewN | apply below_drew1 | refine below_set ?_ GE277.out) | exact HB.out)⟩
                          · rw [if_neg c38] at H
                            have c38b0 : (t284 == 0) = false := beq_eq_false_iff_ne.mpr c38
                            have q1_ : decide (0 < a2) = false := by have e_ := c37b0; rw [c38b0] at e_; simpa using e_
                            (try clear c37b1);(try clear c37b2);(try clear c37b0)
                            have c38b1 : (t284 != 0) = true := bne_iff_ne.mpr c38
                            obtain rfl := Option.some.inj H
                            go_wp2_with (first | ((with_reducible refine polyglotlaw09_PublishTopics.gl rfl ?_); (try (refine gate_guard (by first | rfl | (simp [*]; done) | fail) ?_; dsimp only)); refine wpList_load_row rfl 48 _ rfl _ (by rfl) 48 _ _ _ (by first | exact Aside0.out (by with_reducible assumption) | ((with_reducible repeat (first | refine blk_drewN ?_ _ | refine blk_drew ?_ | refine blk_alloc ?_ _)); exact Aside0.out (by with_reducible assumption)) | (refine blk_put (Aside0.out (by with_reducible assumption)) 24 _ ?_; simp only [List.setIfInBounds_toArray, List.set_cons_zero, List.set_cons_succ]; rfl) | (apply blk_put (i := 24); (case h => exact Aside0.out (by with_reducible assumption)); (case e => (simp only [List.setIfInBounds_toArray, List.set_cons_zero, List.set_cons_succ]; rfl)))) Try.underlying48 rfl (by kernel_rfl) ?_))
                            go_ret
                            exact ⟨by first | rfl | (simp [errW_none, errW_some] <;> rfl) | (simp [*, errW_none, errW_some] <;> rfl), by repeat (first | (with_reducible first | exact HB.out | apply below_alloc | apply pw_below_drewN | apply below_drew1 | refine below_set ?_ GE277.out) | exact HB.out)⟩
                        · rw [if_neg c37] at H
                          have c37b0 : ((t284 == 0) == (decide (a2 > 0))) = false := by simpa using c37
                          (try (have c37b1 : decide ((t284 == 0) = (decide (a2 > 0))) = false := by simpa using c37))
                          (try (have c37b2 : ((t284 == 0) == (decide (a2 > 0))) = false := by simpa using c37))
                          (try (have c37b3 : ¬ ((t284 == 0) = (decide (a2 > 0))) := by simpa using c37))
                          clear c37
                          exact absurd ((Option.some.inj H).trans HT_.out) (by decide)
                      · replace c36 := Bool.eq_false_iff.mpr c36
                        subst c36
                        have H1 : (if a0.toList = ([] : List UInt8) then (if ((t284 == 0) == (decide (a2 > 0))) = true then (if t284 = 0 then (some true) else (some (t284 == 9))) else (some false)) else (some (t284 == 10))) = some r := by rw [if_neg (show ¬ (false = true) by decide)] at H; exact H
                        clear H
                        have H := H1
                        clear H1
                        by_cases c39 : a0.toList = ([] : List UInt8)
                        · rw [if_pos c39] at H
                          have c39b0 : (a0.toList == ([] : List UInt8)) = true := beq_iff_eq.mpr c39
                          have c39b1 : (a0.toList != ([] : List UInt8)) = false := bne_eq_false_iff_eq.mpr c39
                          clear c39
                          by_cases c40 : ((t284 == 0) == (decide (a2 > 0))) = true
                          · rw [if_pos c40] at H
                            have c40b0 : ((t284 == 0) == (decide (a2 > 0))) = true := c40
                            (try (have c40b1 : decide ((t284 == 0) = (decide (a2 > 0))) = true := by simpa using c40))
                            (try (have c40b2 : ((t284 == 0) == (decide (a2 > 0))) = true := by simpa using c40))
                            clear c40
                            by_cases c41 : t284 = 0
                            · rw [if_pos c41] at H
                              have c41b0 : (t284 == 0) = true := beq_iff_eq.mpr c41
                              have q1_ : decide (0 < a2) = true := by have e_ := c40b0; rw [c41b0] at e_; simpa using e_
                              (try clear c40b1);(try clear c40b2);(try clear c40b0)
                              have c41b1 : (t284 != 0) = false := bne_eq_false_iff_eq.mpr c41
                              clear c41
                              obtain rfl := Option.some.inj H
                              go_wp2_with (first | ((with_reducible refine polyglotlaw09_PublishTopics.gl rfl ?_); (try (refine gate_guard (by first | rfl | (simp [*]; done) | fail) ?_; dsimp only)); refine wpList_load_row rfl 48 _ rfl _ (by rfl) 48 _ _ _ (by first | exact Aside0.out (by with_reducible assumption) | ((with_reducible repeat (first | refine blk_drewN ?_ _ | refine blk_drew ?_ | refine blk_alloc ?_ _)); exact Aside0.out (by with_reducible assumption)) | (refine blk_put (Aside0.out (by with_reducible assumption)) 24 _ ?_; simp only [List.setIfInBounds_toArray, List.set_cons_zero, List.set_cons_succ]; rfl) | (apply blk_put (i := 24); (case h => exact Aside0.out (by with_reducible assumption)); (case e => (simp only [List.setIfInBounds_toArray, List.set_cons_zero, List.set_cons_succ]; rfl)))) Try.underlying48 rfl (by kernel_rfl) ?_))
                              go_ret
                              exact ⟨by first | rfl | (simp [errW_none, errW_some] <;> rfl) | (simp [*, errW_none, errW_some] <;> rfl), by repeat (first | (with_reducible first | exact HB.out | apply below_alloc | apply pw_below_drewN | apply below_drew1 | refine below_set ?_ GE277.out) | exact HB.out)⟩
                            · rw [if_neg c41] at H
                              have c41b0 : (t284 == 0) = false := beq_eq_false_iff_ne.mpr c41
                              have q1_ : decide (0 < a2) = false := by have e_ := c40b0; rw [c41b0] at e_; simpa using e_
                              (try clear c40b1);(try clear c40b2);(try clear c40b0)
                              have c41b1 : (t284 != 0) = true := bne_iff_ne.mpr c41
                              obtain rfl := Option.some.inj H
                              go_wp2_with (first | ((with_reducible refine polyglotlaw09_PublishTopics.gl rfl ?_); (try (refine gate_guard (by first | rfl | (simp [*]; done) | fail) ?_; dsimp only)); refine wpList_load_row rfl 48 _ rfl _ (by rfl) 48 _ _ _ (by first | exact Aside0.out (by with_reducible assumption) | ((with_reducible repeat (first | refine blk_drewN ?_ _ | refine blk_drew ?_ | refine blk_alloc ?_ _)); exact Aside0.out (by with_reducible assumption)) | (refine blk_put (Aside0.out (by with_reducible assumption)) 24 _ ?_; simp only [List.setIfInBounds_toArray, List.set_cons_zero, List.set_cons_succ]; rfl) | (apply blk_put (i := 24); (case h => exact Aside0.out (by with_reducible assumption)); (case e => (simp only [List.setIfInBounds_toArray, List.set_cons_zero, List.set_cons_succ]; rfl)))) Try.underlying48 rfl (by kernel_rfl) ?_))
                              go_ret
                              exact ⟨by first | rfl | (simp [errW_none, errW_some] <;> rfl) | (simp [*, errW_none, errW_some] <;> rfl), by repeat (first | (with_reducible first | exact HB.out | apply below_alloc | apply pw_below_drewN | apply below_drew1 | refine below_set ?_ GE277.out) | exact HB.out)⟩
                          · rw [if_neg c40] at H
                            have c40b0 : ((t284 == 0) == (decide (a2 > 0))) = false := by simpa using c40
                            (try (have c40b1 : decide ((t284 == 0) = (decide (a2 > 0))) = false := by simpa using c40))
                            (try (have c40b2 : ((t284 == 0) == (decide (a2 > 0))) = false := by simpa using c40))
                            (try (have c40b3 : ¬ ((t284 == 0) = (decide (a2 > 0))) := by simpa using c40))
                            clear c40
                            exact absurd ((Option.some.inj H).trans HT_.out) (by decide)
                        · rw [if_neg c39] at H
                          have c39b0 : (a0.toList == ([] : List UInt8)) = false := beq_eq_false_iff_ne.mpr c39
                          have c39b1 : (a0.toList != ([] : List UInt8)) = true := bne_iff_ne.mpr c39
                          obtain rfl := Option.some.inj H
                          go_wp2_with (first | ((with_reducible refine polyglotlaw09_PublishTopics.gl rfl ?_); (try (refine gate_guard (by first | rfl | (simp [*]; done) | fail) ?_; dsimp only)); refine wpList_load_row rfl 48 _ rfl _ (by rfl) 48 _ _ _ (by first | exact Aside0.out (by with_reducible assumption) | ((with_reducible repeat (first | refine blk_drewN ?_ _ | refine blk_drew ?_ | refine blk_alloc ?_ _)); exact Aside0.out (by with_reducible assumption)) | (refine blk_put (Aside0.out (by with_reducible assumption)) 24 _ ?_; simp only [List.setIfInBounds_toArray, List.set_cons_zero, List.set_cons_succ]; rfl) | (apply blk_put (i := 24); (case h => exact Aside0.out (by with_reducible assumption)); (case e => (simp only [List.setIfInBounds_toArray, List.set_cons_zero, List.set_cons_succ]; rfl)))) Try.underlying48 rfl (by kernel_rfl) ?_))
                          go_ret
                          exact ⟨by first | rfl | (simp [errW_none, errW_some] <;> rfl) | (simp [*, errW_none, errW_some] <;> rfl), by repeat (first | (with_reducible first | exact HB.out | apply below_alloc | apply pw_below_drewN | apply below_drew1 | refine below_set ?_ GE277.out) | exact HB.out)⟩
  · replace c5 := Bool.eq_false_iff.mpr c5
    subst c5
    have H1 : (some false) = some r := by rw [if_neg (show ¬ (false = true) by decide)] at H; exact H
    clear H
    have H := H1
    clear H1
    exact absurd ((Option.some.inj H).trans HT_.out) (by decide)

def polyglotlaw09_PublishTopics.Pure : Prop := ∀ (a0 : ByteArray) (a1 : ByteArray) (a2 : Int), a0.size ≤ 140737488351232 → a1.size ≤ 140737488351232 → (Lit.int .u16 a2).wf = true → ∃ k, polyglotlaw09_PublishTopics.f k a0 a1 a2 = some true
theorem polyglotlaw09_PublishTopics.walk (P : polyglotlaw09_PublishTopics.Pure) (a0 : ByteArray) (a1 : ByteArray) (a2 : Int) (w : World) (w0 : a0.size ≤ 140737488351232) (w1 : a1.size ≤ 140737488351232) (w2 : (Lit.int .u16 a2).wf = true) :
    Calls Try.prog 6 #[.string a0, .string a1, .int .u16 a2] w fun e w' => e = .returned (.bool true) ∧ Below w.heap.size w w' := by
  obtain ⟨k, h⟩ := P a0 a1 a2 w0 w1 w2
  refine (polyglotlaw09_PublishTopics.calls k a0 a1 a2 true w h).mono ?_
  rintro e w' ⟨rfl, hd⟩
  exact ⟨rfl, hd⟩

end Go.Proofs.Ytngmipfobcaojaa.HA
end

-- YtngmipfobcaojaaHAhBytesLaw
section
namespace Go.Proofs.Ytngmipfobcaojaa.HA
open Go.RowKit Go.Proofs.YtngmipfobcaojaaW.PrintWords Go.Proofs.YtngmipfobcaojaaW.PrintLast Go.Proofs.YtngmipfobcaojaaW.PrintMore
abbrev PropT := S27
def cnt (i : Nat) (l : List PropT) : Nat := l.countP fun p => decide (p.f0.toNat = i)
def encP (p : PropT) : List Int := [p.f0 % 256] ++ bytesOf (valS (ruleOf p.f0).1 p)
def encL (l : List PropT) : List Int := (l.map encP).flatten
def goodC (kind : Int) (l : List PropT) (c : Nat → Int) : Prop :=
  (∀ p ∈ l, checkS (ruleOf p.f0) kind p = 0) ∧ (∀ p ∈ l, 1 < c p.f0.toNat + (cnt p.f0.toNat l : Int) → oftenB kind p.f0 = true)
theorem cnt_cons (i : Nat) (p : PropT) (l : List PropT) : cnt i (p :: l) = cnt i l + if p.f0.toNat = i then 1 else 0 := by
  unfold cnt
  rw [List.countP_cons]
  simp
theorem upd_eq (c : Nat → Int) (i : Nat) (v : Int) (j : Nat) : upd c i v j = if j = i then v else c j := by
  unfold upd
  rfl
theorem good_cons (kind : Int) (p : PropT) (l : List PropT) (c : Nat → Int) (hc : ∀ i, 0 ≤ c i) :
    goodC kind (p :: l) c ↔ (checkS (ruleOf p.f0) kind p = 0 ∧ (1 < c p.f0.toNat + 1 → oftenB kind p.f0 = true) ∧ goodC kind l (upd c p.f0.toNat (c p.f0.toNat + 1))) := by
  have same : ∀ q : PropT, checkS (ruleOf p.f0) kind p = 0 → checkS (ruleOf q.f0) kind q = 0 → q.f0.toNat = p.f0.toNat → q.f0 = p.f0 := by
    intro q h1 h2 h3
    have := check_id kind p h1
    have := check_id kind q h2
    omega
  constructor
  · rintro ⟨h1, h2⟩
    have hp := h1 p List.mem_cons_self
    refine ⟨hp, fun h => h2 p List.mem_cons_self ?_, fun q hq => h1 q (List.mem_cons_of_mem _ hq), fun q hq h => h2 q (List.mem_cons_of_mem _ hq) ?_⟩
    · rw [cnt_cons, if_pos rfl]; omega
    · rw [upd_eq] at h
      rw [cnt_cons]
      by_cases e : q.f0.toNat = p.f0.toNat
      · rw [if_pos e] at h; rw [if_pos e.symm]; rw [e] at h ⊢; omega
      · rw [if_neg e] at h; rw [if_neg (fun x => e x.symm)]; omega
  · rintro ⟨h1, h2, h3, h4⟩
    refine ⟨fun q hq => ?_, fun q hq h => ?_⟩
    · rcases List.mem_cons.1 hq with rfl | hq
      · exact h1
      · exact h3 q hq
    · rcases List.mem_cons.1 hq with rfl | hq
      · by_cases e : ∃ x ∈ l, x.f0.toNat = q.f0.toNat
        · obtain ⟨x, hx, e⟩ := e
          have := h4 x hx (by
            rw [upd_eq, if_pos e, e]
            rw [cnt_cons, if_pos rfl] at h
            omega)
          rwa [same x h1 (h3 x hx) e] at this
        · have : cnt q.f0.toNat l = 0 := by
            unfold cnt
            rw [List.countP_eq_zero]
            intro x hx hh
            exact e ⟨x, hx, by simpa using hh⟩
          apply h2
          rw [cnt_cons, if_pos rfl, this] at h
          omega
      · apply h4 q hq
        rw [cnt_cons] at h
        rw [upd_eq]
        by_cases e : q.f0.toNat = p.f0.toNat
        · rw [if_pos e]; rw [if_pos e.symm] at h; rw [e] at h ⊢; omega
        · rw [if_neg e]; rw [if_neg (fun x => e x.symm)] at h; omega
theorem bytesTo_good (kind : Int) : ∀ (l : List PropT) (c : Nat → Int) (acc : List Int), (∀ i, 0 ≤ c i) → goodC kind l c →
    bytesTo kind l c acc = if decide (0 < c 22 + (cnt 22 l : Int)) && c 21 + (cnt 21 l : Int) == 0 then (⟨#[]⟩, 9)
      else if (varS (acc ++ encL l).length).2 = 0 then ((varS (acc ++ encL l).length).1 ++ strOfNums (acc ++ encL l), 0) else (⟨#[]⟩, 4) := by
  intro l
  induction l with
  | nil =>
    intro c acc hc _
    simp [bytesTo, encL, cnt]
  | cons p l ih =>
    intro c acc hc h
    obtain ⟨h1, h2, h3⟩ := (good_cons kind p l c hc).1 h
    rw [bytesTo, if_neg (by rw [h1]; simp)]
    have hb : (decide (1 < c p.f0.toNat + 1) && !oftenB kind p.f0) = false := by
      by_cases q : 1 < c p.f0.toNat + 1
      · rw [h2 q]; simp
      · simp [q]
    rw [hb]
    simp only [Bool.false_eq_true, if_false]
    rw [ih _ _ (fun i => by rw [upd_eq]; split; · have := hc p.f0.toNat; omega
                            · exact hc i) h3]
    have ea : acc ++ [p.f0 % 256] ++ bytesOf (valS (ruleOf p.f0).1 p) ++ encL l = acc ++ encL (p :: l) := by
      simp [encL, encP]
    have ec : ∀ i, upd c p.f0.toNat (c p.f0.toNat + 1) i + (cnt i l : Int) = c i + (cnt i (p :: l) : Int) := by
      intro i
      rw [upd_eq, cnt_cons]
      by_cases e : i = p.f0.toNat
      · subst e; simp; omega
      · rw [if_neg e, if_neg (fun x => e x.symm)]; omega
    rw [ea, ec, ec]
theorem bytesTo_bad (kind : Int) : ∀ (l : List PropT) (c : Nat → Int) (acc : List Int), (∀ i, 0 ≤ c i) → ¬ goodC kind l c → (bytesTo kind l c acc).2 ≠ 0 := by
  intro l
  induction l with
  | nil =>
    intro c acc hc h
    exact absurd ⟨fun _ q => by simp at q, fun _ q => by simp at q⟩ h
  | cons p l ih =>
    intro c acc hc h
    rw [bytesTo]
    by_cases h1 : checkS (ruleOf p.f0) kind p = 0
    · rw [if_neg (by rw [h1]; simp)]
      by_cases h2 : 1 < c p.f0.toNat + 1 → oftenB kind p.f0 = true
      · have hb : (decide (1 < c p.f0.toNat + 1) && !oftenB kind p.f0) = false := by
          by_cases q : 1 < c p.f0.toNat + 1
          · rw [h2 q]; simp
          · simp [q]
        rw [hb]
        simp only [Bool.false_eq_true, if_false]
        apply ih _ _ (fun i => by rw [upd_eq]; split; · have := hc p.f0.toNat; omega
                                  · exact hc i)
        intro h3
        exact h ((good_cons kind p l c hc).2 ⟨h1, h2, h3⟩)
      · have hb : (decide (1 < c p.f0.toNat + 1) && !oftenB kind p.f0) = true := by
          have q1 : 1 < c p.f0.toNat + 1 := Classical.byContradiction fun q => h2 fun x => absurd x q
          have q2 : oftenB kind p.f0 = false := by
            cases e : oftenB kind p.f0 with
            | false => rfl
            | true => exact absurd (fun _ => e) h2
          rw [q2]; simp [q1]
        rw [hb]
        simp
    · rw [if_pos h1]
      exact h1
def good (kind : Int) (l : List PropT) : Prop := l.length ≤ 1000 ∧ goodC kind l (fun _ => 0)
def dataOk (l : List PropT) : Bool := !(decide (0 < cnt 22 l) && decide (cnt 21 l = 0))
theorem encP_len (p : PropT) : (encP p).length ≤ 131075 := by
  unfold encP
  have := valS_size (ruleOf p.f0).1 p
  simp [bytesOf]
  omega
theorem encL_len (l : List PropT) : (encL l).length ≤ 131075 * l.length := by
  induction l with
  | nil => simp [encL]
  | cons p l ih =>
    have : encL (p :: l) = encP p ++ encL l := by simp [encL]
    rw [this, List.length_append, List.length_cons]
    have := encP_len p
    omega
theorem bytes_good {kind : Int} {l : List PropT} (h : good kind l) :
    bytesS kind l = if dataOk l then ((varS (encL l).length).1 ++ strOfNums (encL l), 0) else (⟨#[]⟩, 9) := by
  unfold bytesS
  have h1 := h.1
  have hl := encL_len l
  rw [if_neg (by omega), bytesTo_good kind l (fun _ => 0) [] (fun _ => Int.le_refl 0) h.2]
  have hv : (varS ((encL l).length : Int)).2 = 0 := by
    unfold varS
    rw [if_pos (by constructor <;> omega)]
  simp only [List.nil_append, hv, if_true, Int.zero_add]
  unfold dataOk
  by_cases a : 0 < cnt 22 l <;> by_cases b : cnt 21 l = 0 <;> simp [a, b] <;> omega
theorem bytes_bad {kind : Int} {l : List PropT} (h : ¬ good kind l) : (bytesS kind l).2 ≠ 0 := by
  unfold bytesS
  by_cases h1 : l.length ≤ 1000
  · rw [if_neg (by omega)]
    exact bytesTo_bad kind l _ _ (fun _ => Int.le_refl 0) (fun q => h ⟨h1, q⟩)
  · rw [if_pos (by omega)]
    decide
theorem bytes_ok {kind : Int} {l : List PropT} : (bytesS kind l).2 = 0 ↔ good kind l ∧ dataOk l = true := by
  by_cases h : good kind l
  · rw [bytes_good h]
    cases dataOk l <;> simp [h]
  · simp [h, bytes_bad h]
end Go.Proofs.Ytngmipfobcaojaa.HA
end

-- YtngmipfobcaojaaHAhValidLaw
section
namespace Go.Proofs.Ytngmipfobcaojaa.HA
open Go.RowKit Go.Proofs.YtngmipfobcaojaaW.PrintWords Go.Proofs.YtngmipfobcaojaaW.PrintLast Go.Proofs.YtngmipfobcaojaaW.PrintMore
theorem valid5_f (kind : Int) (l : List PropT) : prop_Valid.f kind l = some (bytesS kind l).2 := rfl
end Go.Proofs.Ytngmipfobcaojaa.HA
end

-- YtngmipfobcaojaaHAhPubLaw
section
namespace Go.Proofs.Ytngmipfobcaojaa.HA
open Go.RowKit Go.Proofs.YtngmipfobcaojaaW.PrintWords Go.Proofs.YtngmipfobcaojaaW.PrintLast Go.Proofs.YtngmipfobcaojaaW.PrintMore
theorem eqI_f (k : Nat) : slices_EqualFunc_int_int_int_int.f (k + 1) [] [] = some true := by
  unfold slices_EqualFunc_int_int_int_int.f
  rw [slices_EqualFunc_int_int_int_int.l0.eq_def]
  simp
theorem eqF_f (k : Nat) : api_Filter_102.f (k + 1) [] [] = some true := by
  unfold api_Filter_102.f
  rw [api_Filter_102.l0.eq_def]
  simp
theorem eqP_f (k : Nat) : api_Prop_104.f (k + 1) [] [] = some true := by
  unfold api_Prop_104.f
  rw [api_Prop_104.l0.eq_def]
  simp
theorem eqP1_f (k : Nat) (p : PropT) : api_Prop_104.f (k + 2) [p] [p] = some true := by
  unfold api_Prop_104.f
  rw [api_Prop_104.l0.eq_def]
  simp only []
  have h1 : wrap64 ((0 : Int) + 1) = 1 := by unfold wrap64; omega
  rw [h1, api_Prop_104.l0.eq_def]
  simp [api_Prop_105.f]
theorem same9 (k : Nat) (q id : Int) (t p : ByteArray) (l : List PropT) (hl : l = [] ∨ ∃ x, l = [x]) :
    head_Same.f (k + 2) 3 false false q id t p false 0 ⟨#[]⟩ false ⟨#[]⟩ false ⟨#[]⟩ false ⟨#[]⟩ ⟨#[]⟩ 0 false [] false 0 [] [] l 3 false false q id t p false 0 ⟨#[]⟩ false ⟨#[]⟩ false ⟨#[]⟩ false ⟨#[]⟩ ⟨#[]⟩ 0 false [] false 0 [] [] l = some true := by
  have e3 : api_Prop_104.f (k + 2) l l = some true := by
    rcases hl with rfl | ⟨x, rfl⟩
    · exact eqP_f (k + 1)
    · exact eqP1_f k x
  have e0 := eqP_f (k + 1)
  have e1 := eqI_f (k + 1)
  have e2 := eqF_f (k + 1)
  unfold head_Same.f head_sameWill.f head_list_int.f api_Filter_86.f api_Prop_87.f head_strip.f
  rw [e0, e1, e2, e3]
  simp
def aliasB (l : List PropT) : Bool := match l with | [] => false | x :: _ => x.f0 == 35
theorem get1_f (k : Nat) (l : List PropT) (hl : l = [] ∨ ∃ x, l = [x]) : ∃ a b c d, prop_Get.f (k + 2) l 35 = some (a, b, c, d, aliasB l) ∧ (∀ x, l = [x] → x.f0 = 35 → b = x.f1) := by
  rcases hl with rfl | ⟨x, rfl⟩
  · refine ⟨0, 0, ⟨#[]⟩, ⟨#[]⟩, ?_, fun x h => by simp at h⟩
    unfold prop_Get.f
    rw [prop_Get.l0.eq_def]
    simp [aliasB]
  · unfold prop_Get.f
    rw [prop_Get.l0.eq_def]
    simp only []
    by_cases e : x.f0 = 35
    · refine ⟨x.f0, x.f1, x.f2, x.f3, ?_, fun y h _ => by cases h; rfl⟩
      simp [rd_T27, e, aliasB]
    · refine ⟨0, 0, ⟨#[]⟩, ⟨#[]⟩, ?_, fun y h h2 => by cases h; exact absurd h2 e⟩
      have h1 : wrap64 ((0 : Int) + 1) = 1 := by unfold wrap64; omega
      rw [h1, prop_Get.l0.eq_def]
      simp [rd_T27, e, aliasB]
def validP (v q id : Int) (t : ByteArray) (l : List PropT) : Int :=
  if fieldsS v q id l.length true = false then 2
  else if (nameS t || (v == 5 && (aliasB l && (t.toList == [])))) = false then 10
  else (bytesS 3 l).2
theorem validP_f (k : Nat) (hk : 5 ≤ k) (v q id : Int) (t p : ByteArray) (l : List PropT) (hv : v = 4 ∨ v = 5) (hq : 0 ≤ q ∧ q ≤ 2) (hl : l = [] ∨ ∃ x, l = [x]) :
    publish_Valid.f k v 3 false false q id t p false 0 ⟨#[]⟩ false ⟨#[]⟩ false ⟨#[]⟩ false ⟨#[]⟩ ⟨#[]⟩ 0 false [] false 0 [] [] l = some (validP v q id t l) := by
  obtain ⟨k, rfl⟩ : ∃ m, k = m + 2 := ⟨k - 2, by omega⟩
  have hk1 : publish_known.f v = some true := by unfold publish_known.f; rcases hv with rfl | rfl <;> simp
  have hk2 : head_known.f v = some true := by unfold head_known.f; rcases hv with rfl | rfl <;> simp
  have hk3 : head_kinds.f v 3 = some true := by unfold head_kinds.f; rcases hv with rfl | rfl <;> simp
  have hF : ∃ n, head_Flags.f (k + 2) v 3 false false q id t p false 0 ⟨#[]⟩ false ⟨#[]⟩ false ⟨#[]⟩ false ⟨#[]⟩ ⟨#[]⟩ 0 false [] false 0 [] [] l = some (n, 0) := by
    unfold head_Flags.f
    rw [hk2, hk3]
    simp only [Option.bind_some, if_true]
    rw [if_neg (by omega), if_neg (by omega)]
    by_cases h0 : q = 0
    · simp only [h0, if_true]
      rw [head_Flags.j0.eq_def]
      exact ⟨_, rfl⟩
    · rw [if_neg h0, head_Flags.j0.eq_def]
      exact ⟨_, rfl⟩
  obtain ⟨n, hF⟩ := hF
  have hS : publish_fields.f (k + 2) v 3 false false q id t p false 0 ⟨#[]⟩ false ⟨#[]⟩ false ⟨#[]⟩ false ⟨#[]⟩ ⟨#[]⟩ 0 false [] false 0 [] [] l = some (fieldsS v q id l.length true) := by
    unfold publish_fields.f
    rw [same9 k q id t p l hl]
    rfl
  obtain ⟨a, b, c, d, hg, _⟩ := get1_f k l hl
  have hN : publish_named.f (k + 2) v 3 false false q id t p false 0 ⟨#[]⟩ false ⟨#[]⟩ false ⟨#[]⟩ false ⟨#[]⟩ ⟨#[]⟩ 0 false [] false 0 [] [] l = some (nameS t || (v == 5 && (aliasB l && (t.toList == [])))) := by
    unfold publish_named.f publish_Alias.f
    rw [hg]
    simp only [Option.bind_some, name_f]
    cases nameS t with
    | true => rfl
    | false =>
      by_cases h5 : v = 5
      · cases aliasB l <;> simp [h5]
      · simp [h5]
  have hV : prop_Valid.f 3 l = some (bytesS 3 l).2 := valid5_f 3 l
  unfold publish_Valid.f validP
  simp only [restV, lookV, hk1, hF, hS, hN, hV, Option.bind_some, and_self, if_true]
  cases fieldsS v q id l.length true with
  | false => simp
  | true =>
    cases (nameS t || (v == 5 && (aliasB l && (t.toList == [])))) with
    | false => simp
    | true =>
      simp
      intro h
      rw [h]
end Go.Proofs.Ytngmipfobcaojaa.HA
end

-- YtngmipfobcaojaaHAhRef3
section
namespace Go.Proofs.Ytngmipfobcaojaa.HA
open Go.RowKit Go.Proofs.YtngmipfobcaojaaW.PrintWords Go.Proofs.YtngmipfobcaojaaW.PrintLast Go.Proofs.YtngmipfobcaojaaW.PrintMore

def gI (s : ByteArray) (i : Nat) : Int := ((s.get! i).toNat : Int)
theorem gI_range (s : ByteArray) (i : Nat) : 0 ≤ gI s i ∧ gI s i < 256 := by
  have := UInt8.toNat_lt (s.get! i)
  unfold gI
  omega
theorem get!_in (s : ByteArray) (i : Nat) (h : i < s.size) : s.get! i = s[i]'h := by
  show s.data[i]! = s.data[i]'h
  exact getElem!_pos s.data i h
theorem bt_gI (s : ByteArray) (i : Nat) (h : i < s.size) : bt s (i : Int) = gI s i := by
  unfold bt gI
  rw [dif_pos (by simpa using h), get!_in s i h]
  simp
def goesOn (s : ByteArray) (i : Nat) : Bool := decide (i < s.size) && (decide (128 ≤ gI s i) && decide (gI s i ≤ 191))
theorem wrap_id {n : Int} (h1 : -9223372036854775808 ≤ n) (h2 : n ≤ 9223372036854775807) : wrap64 n = n := by
  unfold wrap64; omega
theorem more_f (s : ByteArray) (i : Nat) : polyglotref03_more.f s (i : Int) = some (if goesOn s i = true then (gI s i - 128, true) else (0, false)) := by
  unfold polyglotref03_more.f goesOn
  have hr := gI_range s i
  by_cases h : i < s.size
  · rw [if_neg (by omega), if_pos (by omega), if_pos (by omega), bt_gI s i h]
    by_cases h1 : gI s i < 128
    · rw [if_pos h1, if_neg (by simp; omega)]
    · by_cases h2 : gI s i > 191
      · rw [if_neg h1, if_pos h2, if_neg (by simp; omega)]
      · rw [if_neg h1, if_neg h2, if_pos (by simp; omega), wrap_id (n := gI s i) (by omega) (by omega), wrap_id (by omega) (by omega)]
  · rw [if_pos (by omega), if_neg (by simp; omega)]
def finP (n z least : Int) : Int × Int := if n < least ∨ n > 1114111 ∨ (n ≥ 55296 ∧ n ≤ 57343) then (0, 0) else (n, z)
theorem l0_end (k : Nat) (s : ByteArray) (pos n z least : Int) : polyglotref03_Point.l0 (k + 1) s pos n z least z = some (finP n z least) := by
  rw [polyglotref03_Point.l0.eq_def]
  simp only [finP, Int.lt_irrefl, if_false]
  repeat' split
  all_goals first | rfl | (exfalso; omega)
theorem l0_step (k : Nat) (s : ByteArray) (pos j : Nat) (n z least : Int) (hj : (j : Int) < z) (hz : z ≤ 4) (hs : pos < 4294967296) (hn : 0 ≤ n ∧ n < 4194304) :
    polyglotref03_Point.l0 (k + 1) s pos n z least j =
      if goesOn s (pos + j) = true then polyglotref03_Point.l0 k s pos (64 * n + (gI s (pos + j) - 128)) z least ((j + 1 : Nat) : Int) else some (0, 0) := by
  rw [polyglotref03_Point.l0.eq_def]
  have hr := gI_range s (pos + j)
  simp only [hj, if_true]
  rw [wrap_id (n := (pos : Int) + (j : Int)) (by omega) (by omega), show (pos : Int) + (j : Int) = ((pos + j : Nat) : Int) by omega, more_f]
  by_cases h : goesOn s (pos + j) = true
  · simp only [h, if_true, Option.bind_some]
    rw [wrap_id (n := 64 * n) (by omega) (by omega), wrap_id (n := 64 * n + _) (by omega) (by omega), wrap_id (n := (j : Int) + 1) (by omega) (by omega)]
    rfl
  · simp [h]
def ptP (s : ByteArray) (p : Nat) : Int × Int :=
  if gI s p < 128 then (gI s p, 1)
  else if 192 ≤ gI s p ∧ gI s p < 224 then (if goesOn s (p + 1) = true then finP (64 * (gI s p - 192) + (gI s (p + 1) - 128)) 2 128 else (0, 0))
  else if 224 ≤ gI s p ∧ gI s p < 240 then (if goesOn s (p + 1) = true then (if goesOn s (p + 2) = true then finP (64 * (64 * (gI s p - 224) + (gI s (p + 1) - 128)) + (gI s (p + 2) - 128)) 3 2048 else (0, 0)) else (0, 0))
  else if 240 ≤ gI s p ∧ gI s p < 248 then (if goesOn s (p + 1) = true then (if goesOn s (p + 2) = true then (if goesOn s (p + 3) = true then finP (64 * (64 * (64 * (gI s p - 240) + (gI s (p + 1) - 128)) + (gI s (p + 2) - 128)) + (gI s (p + 3) - 128)) 4 65536 else (0, 0)) else (0, 0)) else (0, 0))
  else (0, 0)
theorem j2_f (k : Nat) (s : ByteArray) (p : Nat) (n z least : Int) : polyglotref03_Point.j2 (k + 1) s p n z least = polyglotref03_Point.l0 k s p n z least 1 := by
  rw [polyglotref03_Point.j2.eq_def]
theorem point_f (k : Nat) (s : ByteArray) (p : Nat) (h : p < s.size) (hs : s.size < 4294967296) : polyglotref03_Point.f (k + 8) s p = some (ptP s p) := by
  unfold polyglotref03_Point.f ptP
  have hr := gI_range s p
  have r1 := gI_range s (p + 1)
  have r2 := gI_range s (p + 2)
  have r3 := gI_range s (p + 3)
  have hp : p < 4294967296 := by omega
  rw [if_pos (by omega), if_pos (by omega), bt_gI s p h, wrap_id (n := gI s p) (by omega) (by omega)]
  by_cases h1 : gI s p < 128
  · rw [if_pos h1, if_pos h1]
  rw [if_neg h1, if_neg h1]
  have e1 : (1 : Int) = ((1 : Nat) : Int) := rfl
  by_cases h2 : 192 ≤ gI s p ∧ gI s p < 224
  · rw [if_pos h2.1, if_pos h2, polyglotref03_Point.j0.eq_def]
    simp only [h2.2, decide_true, if_true]
    rw [wrap_id (by omega) (by omega), j2_f, e1, l0_step _ _ _ _ _ _ _ (by omega) (by omega) hp (by omega)]; simp only [Nat.reduceAdd]
    by_cases g1 : goesOn s (p + 1) = true
    · rw [if_pos g1, if_pos g1]; exact l0_end _ _ _ _ _ _
    · rw [if_neg g1, if_neg g1]
  rw [if_neg h2]
  by_cases h3 : 224 ≤ gI s p ∧ gI s p < 240
  · rw [if_pos (show gI s p ≥ 192 by omega), if_pos h3, polyglotref03_Point.j0.eq_def]
    simp only [show ¬ gI s p < 224 by omega, decide_false, show gI s p ≥ 224 by omega, if_true, Bool.false_eq_true, if_false]
    rw [polyglotref03_Point.j1.eq_def]
    simp only [h3.2, decide_true, if_true]
    rw [wrap_id (by omega) (by omega), j2_f, e1, l0_step _ _ _ _ _ _ _ (by omega) (by omega) hp (by omega)]; simp only [Nat.reduceAdd]
    by_cases g1 : goesOn s (p + 1) = true
    · rw [if_pos g1, if_pos g1]
      have q1 := of_decide_eq_true (Bool.and_eq_true_iff.mp (Bool.and_eq_true_iff.mp g1).2).1
      have q2 := of_decide_eq_true (Bool.and_eq_true_iff.mp (Bool.and_eq_true_iff.mp g1).2).2
      rw [l0_step _ _ _ _ _ _ _ (by omega) (by omega) hp (by omega)]; simp only [Nat.reduceAdd]
      by_cases g2 : goesOn s (p + 2) = true
      · rw [if_pos g2, if_pos g2]; exact l0_end _ _ _ _ _ _
      · rw [if_neg g2, if_neg g2]
    · rw [if_neg g1, if_neg g1]
  rw [if_neg h3]
  by_cases h4 : 240 ≤ gI s p ∧ gI s p < 248
  · rw [if_pos (show gI s p ≥ 192 by omega), if_pos h4, polyglotref03_Point.j0.eq_def]
    simp only [show ¬ gI s p < 224 by omega, decide_false, show gI s p ≥ 224 by omega, if_true, Bool.false_eq_true, if_false]
    rw [polyglotref03_Point.j1.eq_def]
    simp only [show ¬ gI s p < 240 by omega, decide_false, show gI s p ≥ 240 by omega, h4.2, if_true, Bool.false_eq_true, if_false]
    rw [wrap_id (by omega) (by omega), j2_f, e1, l0_step _ _ _ _ _ _ _ (by omega) (by omega) hp (by omega)]; simp only [Nat.reduceAdd]
    by_cases g1 : goesOn s (p + 1) = true
    · rw [if_pos g1, if_pos g1]
      have q1 := of_decide_eq_true (Bool.and_eq_true_iff.mp (Bool.and_eq_true_iff.mp g1).2).1
      have q2 := of_decide_eq_true (Bool.and_eq_true_iff.mp (Bool.and_eq_true_iff.mp g1).2).2
      rw [l0_step _ _ _ _ _ _ _ (by omega) (by omega) hp (by omega)]; simp only [Nat.reduceAdd]
      by_cases g2 : goesOn s (p + 2) = true
      · rw [if_pos g2, if_pos g2]
        have u1 := of_decide_eq_true (Bool.and_eq_true_iff.mp (Bool.and_eq_true_iff.mp g2).2).1
        have u2 := of_decide_eq_true (Bool.and_eq_true_iff.mp (Bool.and_eq_true_iff.mp g2).2).2
        rw [l0_step _ _ _ _ _ _ _ (by omega) (by omega) hp (by omega)]; simp only [Nat.reduceAdd]
        by_cases g3 : goesOn s (p + 3) = true
        · rw [if_pos g3, if_pos g3]; exact l0_end _ _ _ _ _ _
        · rw [if_neg g3, if_neg g3]
      · rw [if_neg g2, if_neg g2]
    · rw [if_neg g1, if_neg g1]
  rw [if_neg h4]
  by_cases h5 : gI s p ≥ 192
  · rw [if_pos h5, polyglotref03_Point.j0.eq_def]
    simp only [show ¬ gI s p < 224 by omega, decide_false, show gI s p ≥ 224 by omega, if_true, Bool.false_eq_true, if_false]
    rw [polyglotref03_Point.j1.eq_def]
    simp only [show ¬ gI s p < 240 by omega, decide_false, show gI s p ≥ 240 by omega, show ¬ gI s p < 248 by omega, if_true, Bool.false_eq_true, if_false]
  · rw [if_neg h5, polyglotref03_Point.j0.eq_def]
    simp only [show ¬ gI s p ≥ 224 by omega, Bool.false_eq_true, if_false]
    rw [polyglotref03_Point.j1.eq_def]
    simp only [show ¬ gI s p ≥ 240 by omega, Bool.false_eq_true, if_false]

theorem whole_iff (s : ByteArray) (p : Nat) (h : p < s.size) :
    wholeB (s.extract p s.size) = (decide (p + 2 < s.size) && (decide (gI s p = 239) && (decide (gI s (p + 1) = 191) && decide (gI s (p + 2) = 189)))) := by
  unfold wholeB
  have hsz : (s.extract p s.size).size = s.size - p := by simp
  rw [hsz]
  by_cases h3 : p + 2 < s.size
  · have e : ((s.extract p s.size).extract 0 3).toList = [s.get! p, s.get! (p + 1), s.get! (p + 2)] := by
      have hl : s.data.toList.length = s.size := by simp
      have d0 := List.drop_eq_getElem_cons (l := s.data.toList) (i := p) (by omega)
      have d1 := List.drop_eq_getElem_cons (l := s.data.toList) (i := p + 1) (by omega)
      have d2 := List.drop_eq_getElem_cons (l := s.data.toList) (i := p + 1 + 1) (by omega)
      have g : ∀ i (hi : i < s.size), s.get! i = s.data.toList[i]'(by omega) := by
        intro i hi
        rw [get!_in s i hi, Array.getElem_toList]
        rfl
      rw [Lib.toList_data, ByteArray.data_extract, ByteArray.data_extract, Array.toList_extract, Array.toList_extract, List.extract_eq_take_drop, List.extract_eq_take_drop, List.drop_zero, List.take_take, d0, d1, d2, g p h, g (p + 1) (by omega), g (p + 2) (by omega)]
      rw [show min (3 - 0) (s.size - p) = 3 by omega]
      rfl
    rw [e, decide_eq_true (show 3 ≤ s.size - p by omega), decide_eq_true h3, Bool.true_and, Bool.true_and]
    have hx : ∀ (x : UInt8) (n : Nat) (hn : n < 256), (x == UInt8.ofNat n) = decide ((x.toNat : Int) = (n : Int)) := by
      intro x n hn
      rw [Bool.eq_iff_iff, beq_iff_eq, decide_eq_true_iff]
      constructor
      · rintro rfl
        have := UInt8.toNat_ofNat_of_lt' (n := n) (by simpa using hn)
        omega
      · intro q
        apply UInt8.toNat_inj.mp
        have := UInt8.toNat_ofNat_of_lt' (n := n) (by simpa using hn)
        omega
    show ((s.get! p == UInt8.ofNat 239) && ((s.get! (p + 1) == UInt8.ofNat 191) && ((s.get! (p + 2) == UInt8.ofNat 189) && true))) = _
    rw [hx _ 239 (by omega), hx _ 191 (by omega), hx _ 189 (by omega), Bool.and_true]
    rfl
  · rw [decide_eq_false (show ¬ 3 ≤ s.size - p by omega), decide_eq_false h3, Bool.false_and, Bool.false_and]
theorem cont_on (s : ByteArray) (p : Nat) (h : p < s.size) (j : Nat) : (decide (p + j < s.size) && (s.get! (p + j)).toNat / 64 == 2) = goesOn s (p + j) := by
  unfold goesOn gI
  have := UInt8.toNat_lt (s.get! (p + j))
  rw [Bool.eq_iff_iff]
  simp only [Bool.and_eq_true, decide_eq_true_eq, beq_iff_eq]
  omega
theorem on_iff (s : ByteArray) (i : Nat) : goesOn s i = true ↔ (i < s.size ∧ 128 ≤ gI s i ∧ gI s i ≤ 191) := by
  unfold goesOn
  simp only [Bool.and_eq_true, decide_eq_true_eq]
theorem valid_iff (c : Nat) : Utf8.valid (c : Int) = true ↔ (c < 55296 ∨ (57344 ≤ c ∧ c ≤ 1114111)) := by
  unfold Utf8.valid
  simp only [Bool.or_eq_true, Bool.and_eq_true, decide_eq_true_eq]
  omega
theorem fin_cases (n z least : Int) : (finP n z least = (0, 0) ∧ (n < least ∨ n > 1114111 ∨ (n ≥ 55296 ∧ n ≤ 57343))) ∨ (finP n z least = (n, z) ∧ ¬ (n < least ∨ n > 1114111 ∨ (n ≥ 55296 ∧ n ≤ 57343))) := by
  unfold finP
  split
  · rename_i h; exact Or.inl ⟨rfl, h⟩
  · rename_i h; exact Or.inr ⟨rfl, h⟩
set_option maxHeartbeats 2000000 in
theorem point_bad (s : ByteArray) (p : Nat) (h : p < s.size) :
    (badAt s p = true ∧ ((ptP s p).2 = 0 ∨ (ptP s p).1 = 0)) ∨
      (badAt s p = false ∧ (ptP s p).1 ≠ 0 ∧ 1 ≤ (ptP s p).2 ∧ (ptP s p).2 = ((Utf8.decode s p).2 : Int)) := by
  have hb : badAt s p = true ↔ ((Utf8.decode s p).1 = 0 ∨ ((Utf8.decode s p).1 = 65533 ∧ ¬ (p + 2 < s.size ∧ gI s p = 239 ∧ gI s (p + 1) = 191 ∧ gI s (p + 2) = 189))) := by
    unfold badAt
    rw [whole_iff s p h]
    simp only [Bool.or_eq_true, beq_iff_eq, Bool.and_eq_true, Bool.not_eq_true', Bool.and_eq_false_iff, decide_eq_false_iff_not]
    omega
  have hb' : badAt s p = false ↔ ¬ badAt s p = true := by simp
  rw [hb', hb]
  clear hb hb'
  have e1 : gI s (p + 1) = ((s.get! (p + 1)).toNat : Int) := rfl
  have e2 : gI s (p + 2) = ((s.get! (p + 2)).toNat : Int) := rfl
  have e3 : gI s (p + 3) = ((s.get! (p + 3)).toNat : Int) := rfl
  have e0 : gI s p = ((s.get! p).toNat : Int) := rfl
  have r0 := UInt8.toNat_lt (s.get! p)
  have r1 := UInt8.toNat_lt (s.get! (p + 1))
  have r2 := UInt8.toNat_lt (s.get! (p + 2))
  have r3 := UInt8.toNat_lt (s.get! (p + 3))
  have c1 := on_iff s (p + 1)
  have c2 := on_iff s (p + 2)
  have c3 := on_iff s (p + 3)
  unfold ptP
  simp only [Utf8.decode, Bool.and_assoc, cont_on s p h, Nat.add_zero]
  simp only [e0, e1, e2, e3] at c1 c2 c3 ⊢
  obtain ⟨b0, hb0⟩ : ∃ b, b = (s.get! p).toNat := ⟨_, rfl⟩
  rw [← hb0] at r0
  obtain ⟨b1, hb1⟩ : ∃ b, b = (s.get! (p + 1)).toNat := ⟨_, rfl⟩
  rw [← hb1] at r1
  obtain ⟨b2, hb2⟩ : ∃ b, b = (s.get! (p + 2)).toNat := ⟨_, rfl⟩
  rw [← hb2] at r2
  obtain ⟨b3, hb3⟩ : ∃ b, b = (s.get! (p + 3)).toNat := ⟨_, rfl⟩
  rw [← hb3] at r3
  simp only [← hb0, ← hb1, ← hb2, ← hb3] at c1 c2 c3 ⊢
  clear e0 e1 e2 e3 hb0 hb1 hb2 hb3
  generalize goesOn s (p + 1) = q1 at *
  generalize goesOn s (p + 2) = q2 at *
  generalize goesOn s (p + 3) = q3 at *
  generalize s.size = z at *
  have k1 : (q1 = true ∧ (p + 1 < z ∧ 128 ≤ b1 ∧ b1 ≤ 191)) ∨ (q1 = false ∧ ¬ (p + 1 < z ∧ 128 ≤ b1 ∧ b1 ≤ 191)) := by cases q1 <;> simp at c1 ⊢ <;> omega
  have k2 : (q2 = true ∧ (p + 2 < z ∧ 128 ≤ b2 ∧ b2 ≤ 191)) ∨ (q2 = false ∧ ¬ (p + 2 < z ∧ 128 ≤ b2 ∧ b2 ≤ 191)) := by cases q2 <;> simp at c2 ⊢ <;> omega
  have k3 : (q3 = true ∧ (p + 3 < z ∧ 128 ≤ b3 ∧ b3 ≤ 191)) ∨ (q3 = false ∧ ¬ (p + 3 < z ∧ 128 ≤ b3 ∧ b3 ≤ 191)) := by cases q3 <;> simp at c3 ⊢ <;> omega
  clear c1 c2 c3
  by_cases a1 : b0 < 128
  · rw [if_pos (show (b0 : Int) < 128 by omega), if_pos a1]
    dsimp only
    (try dsimp only); (try simp only [true_or, or_true, true_and, and_true, false_or, or_false, false_and, and_false, ne_eq, not_true_eq_false, not_false_eq_true]); first | done | omega
  rw [if_neg (show ¬ (b0 : Int) < 128 by omega), if_neg a1]
  by_cases a2 : b0 / 32 = 6
  · rw [if_pos (show 192 ≤ (b0 : Int) ∧ (b0 : Int) < 224 by omega)]
    have x6 : (b0 / 32 == 6) = true := beq_iff_eq.mpr a2
    have x14 : (b0 / 16 == 14) = false := beq_eq_false_iff_ne.mpr (by omega)
    have x30 : (b0 / 8 == 30) = false := beq_eq_false_iff_ne.mpr (by omega)
    rcases k1 with ⟨rfl, k1⟩ | ⟨rfl, k1⟩
    · have hv := True.intro
      rcases fin_cases (64 * ((b0 : Int) - 192) + ((b1 : Int) - 128)) 2 128 with ⟨e_, hf⟩ | ⟨e_, hf⟩
      · rw [e_]
        simp only [x6, x14, x30, beq_self_eq_true, Bool.false_and, Bool.true_and, Bool.and_false, Bool.and_true, if_true, Bool.false_eq_true, if_false, Utf8.runeError, ge_iff_le]
        split
        · (try dsimp only); (try simp only [true_or, or_true, true_and, and_true, false_or, or_false, false_and, and_false, ne_eq, not_true_eq_false, not_false_eq_true]); first | done | omega
        · (try dsimp only); (try simp only [true_or, or_true, true_and, and_true, false_or, or_false, false_and, and_false, ne_eq, not_true_eq_false, not_false_eq_true]); first | done | omega
      · rw [e_]
        simp only [x6, x14, x30, beq_self_eq_true, Bool.false_and, Bool.true_and, Bool.and_false, Bool.and_true, if_true, Bool.false_eq_true, if_false, Utf8.runeError, ge_iff_le]
        split
        · (try dsimp only); (try simp only [true_or, or_true, true_and, and_true, false_or, or_false, false_and, and_false, ne_eq, not_true_eq_false, not_false_eq_true]); first | done | omega
        · (try dsimp only); (try simp only [true_or, or_true, true_and, and_true, false_or, or_false, false_and, and_false, ne_eq, not_true_eq_false, not_false_eq_true]); first | done | omega
    · simp only [x6, x14, x30, beq_self_eq_true, Bool.false_and, Bool.true_and, Bool.and_false, Bool.and_true, if_true, Bool.false_eq_true, if_false, Utf8.runeError, ge_iff_le]
      (try dsimp only); (try simp only [true_or, or_true, true_and, and_true, false_or, or_false, false_and, and_false, ne_eq, not_true_eq_false, not_false_eq_true]); first | done | omega
  rw [if_neg (show ¬ (192 ≤ (b0 : Int) ∧ (b0 : Int) < 224) by omega)]
  have x6 : (b0 / 32 == 6) = false := beq_eq_false_iff_ne.mpr a2
  by_cases a3 : b0 / 16 = 14
  · rw [if_pos (show 224 ≤ (b0 : Int) ∧ (b0 : Int) < 240 by omega)]
    have x14 : (b0 / 16 == 14) = true := beq_iff_eq.mpr a3
    have x30 : (b0 / 8 == 30) = false := beq_eq_false_iff_ne.mpr (by omega)
    rcases k1 with ⟨rfl, k1⟩ | ⟨rfl, k1⟩
    · rcases k2 with ⟨rfl, k2⟩ | ⟨rfl, k2⟩
      · have hv := valid_iff (b0 % 16 * 4096 + b1 % 64 * 64 + b2 % 64)
        rcases fin_cases (64 * (64 * ((b0 : Int) - 224) + ((b1 : Int) - 128)) + ((b2 : Int) - 128)) 3 2048 with ⟨e_, hf⟩ | ⟨e_, hf⟩
        · rw [e_]
          simp only [x6, x14, x30, beq_self_eq_true, Bool.false_and, Bool.true_and, Bool.and_false, Bool.and_true, if_true, Bool.false_eq_true, if_false, Utf8.runeError, ge_iff_le, Bool.and_eq_true, decide_eq_true_eq, hv]
          split
          · (try dsimp only); (try simp only [true_or, or_true, true_and, and_true, false_or, or_false, false_and, and_false, ne_eq, not_true_eq_false, not_false_eq_true]); first | done | omega
          · (try dsimp only); (try simp only [true_or, or_true, true_and, and_true, false_or, or_false, false_and, and_false, ne_eq, not_true_eq_false, not_false_eq_true]); first | done | omega
        · rw [e_]
          simp only [x6, x14, x30, beq_self_eq_true, Bool.false_and, Bool.true_and, Bool.and_false, Bool.and_true, if_true, Bool.false_eq_true, if_false, Utf8.runeError, ge_iff_le, Bool.and_eq_true, decide_eq_true_eq, hv]
          split
          · (try dsimp only); (try simp only [true_or, or_true, true_and, and_true, false_or, or_false, false_and, and_false, ne_eq, not_true_eq_false, not_false_eq_true]); first | done | omega
          · (try dsimp only); (try simp only [true_or, or_true, true_and, and_true, false_or, or_false, false_and, and_false, ne_eq, not_true_eq_false, not_false_eq_true]); first | done | omega
      · simp only [x6, x14, x30, beq_self_eq_true, Bool.false_and, Bool.true_and, Bool.and_false, Bool.and_true, if_true, Bool.false_eq_true, if_false, Utf8.runeError, ge_iff_le]
        (try dsimp only); (try simp only [true_or, or_true, true_and, and_true, false_or, or_false, false_and, and_false, ne_eq, not_true_eq_false, not_false_eq_true]); first | done | omega
    · simp only [x6, x14, x30, beq_self_eq_true, Bool.false_and, Bool.true_and, Bool.and_false, Bool.and_true, if_true, Bool.false_eq_true, if_false, Utf8.runeError, ge_iff_le]
      (try dsimp only); (try simp only [true_or, or_true, true_and, and_true, false_or, or_false, false_and, and_false, ne_eq, not_true_eq_false, not_false_eq_true]); first | done | omega
  rw [if_neg (show ¬ (224 ≤ (b0 : Int) ∧ (b0 : Int) < 240) by omega)]
  have x14 : (b0 / 16 == 14) = false := beq_eq_false_iff_ne.mpr a3
  by_cases a4 : b0 / 8 = 30
  · rw [if_pos (show 240 ≤ (b0 : Int) ∧ (b0 : Int) < 248 by omega)]
    have x30 : (b0 / 8 == 30) = true := beq_iff_eq.mpr a4
    rcases k1 with ⟨rfl, k1⟩ | ⟨rfl, k1⟩
    · rcases k2 with ⟨rfl, k2⟩ | ⟨rfl, k2⟩
      · rcases k3 with ⟨rfl, k3⟩ | ⟨rfl, k3⟩
        · have hv := valid_iff (b0 % 8 * 262144 + b1 % 64 * 4096 + b2 % 64 * 64 + b3 % 64)
          rcases fin_cases (64 * (64 * (64 * ((b0 : Int) - 240) + ((b1 : Int) - 128)) + ((b2 : Int) - 128)) + ((b3 : Int) - 128)) 4 65536 with ⟨e_, hf⟩ | ⟨e_, hf⟩
          · rw [e_]
            simp only [x6, x14, x30, beq_self_eq_true, Bool.false_and, Bool.true_and, Bool.and_false, Bool.and_true, if_true, Bool.false_eq_true, if_false, Utf8.runeError, ge_iff_le, Bool.and_eq_true, decide_eq_true_eq, hv]
            split
            · (try dsimp only); (try simp only [true_or, or_true, true_and, and_true, false_or, or_false, false_and, and_false, ne_eq, not_true_eq_false, not_false_eq_true]); first | done | omega
            · (try dsimp only); (try simp only [true_or, or_true, true_and, and_true, false_or, or_false, false_and, and_false, ne_eq, not_true_eq_false, not_false_eq_true]); first | done | omega
          · rw [e_]
            simp only [x6, x14, x30, beq_self_eq_true, Bool.false_and, Bool.true_and, Bool.and_false, Bool.and_true, if_true, Bool.false_eq_true, if_false, Utf8.runeError, ge_iff_le, Bool.and_eq_true, decide_eq_true_eq, hv]
            split
            · (try dsimp only); (try simp only [true_or, or_true, true_and, and_true, false_or, or_false, false_and, and_false, ne_eq, not_true_eq_false, not_false_eq_true]); first | done | omega
            · (try dsimp only); (try simp only [true_or, or_true, true_and, and_true, false_or, or_false, false_and, and_false, ne_eq, not_true_eq_false, not_false_eq_true]); first | done | omega
        · simp only [x6, x14, x30, beq_self_eq_true, Bool.false_and, Bool.true_and, Bool.and_false, Bool.and_true, if_true, Bool.false_eq_true, if_false, Utf8.runeError, ge_iff_le]
          (try dsimp only); (try simp only [true_or, or_true, true_and, and_true, false_or, or_false, false_and, and_false, ne_eq, not_true_eq_false, not_false_eq_true]); first | done | omega
      · simp only [x6, x14, x30, beq_self_eq_true, Bool.false_and, Bool.true_and, Bool.and_false, Bool.and_true, if_true, Bool.false_eq_true, if_false, Utf8.runeError, ge_iff_le]
        (try dsimp only); (try simp only [true_or, or_true, true_and, and_true, false_or, or_false, false_and, and_false, ne_eq, not_true_eq_false, not_false_eq_true]); first | done | omega
    · simp only [x6, x14, x30, beq_self_eq_true, Bool.false_and, Bool.true_and, Bool.and_false, Bool.and_true, if_true, Bool.false_eq_true, if_false, Utf8.runeError, ge_iff_le]
      (try dsimp only); (try simp only [true_or, or_true, true_and, and_true, false_or, or_false, false_and, and_false, ne_eq, not_true_eq_false, not_false_eq_true]); first | done | omega
  rw [if_neg (show ¬ (240 ≤ (b0 : Int) ∧ (b0 : Int) < 248) by omega)]
  have x30 : (b0 / 8 == 30) = false := beq_eq_false_iff_ne.mpr a4
  simp only [x6, x14, x30, beq_self_eq_true, Bool.false_and, Bool.true_and, Bool.and_false, Bool.and_true, if_true, Bool.false_eq_true, if_false, Utf8.runeError, ge_iff_le]
  (try dsimp only); (try simp only [true_or, or_true, true_and, and_true, false_or, or_false, false_and, and_false, ne_eq, not_true_eq_false, not_false_eq_true]); first | done | omega
theorem decode_fits (s : ByteArray) (p : Nat) (h : p < s.size) : p + (Utf8.decode s p).2 ≤ s.size := by
  simp only [Utf8.decode, Bool.and_eq_true, decide_eq_true_eq, beq_iff_eq, Nat.add_zero]
  repeat' split
  all_goals simp only []
  all_goals omega
theorem refBad_f (s : ByteArray) (hs : s.size < 4294967296) : ∀ (b k p : Nat), p ≤ s.size → s.size - p ≤ b → polyglotref03_Bad.l0 (k + b + 9) s p = some (badTo s b p) := by
  intro b
  induction b with
  | zero =>
    intro k p h1 h2
    rw [polyglotref03_Bad.l0.eq_def]
    simp only []
    rw [if_neg (by omega), badTo_end s 0 p (by omega)]
  | succ b ih =>
    intro k p h1 h2
    by_cases hp : p < s.size
    · rw [show k + (b + 1) + 9 = (k + b + 9) + 1 by omega, polyglotref03_Bad.l0.eq_def]
      simp only []
      rw [if_pos (by omega), show k + b + 9 = (k + b + 1) + 8 by omega, point_f _ s p hp hs, badTo]
      simp only [Option.bind_some, hp, if_true]
      rcases point_bad s p hp with ⟨q1, q2⟩ | ⟨q1, q2, q3, q4⟩
      · rw [q1]
        simp only [if_true]
        rcases q2 with q2 | q2 <;> simp [q2]
      · have hw := decode_fits s p hp
        rw [if_neg (show ¬ (ptP s p).2 = 0 by omega), if_neg q2, q1, wrap_id (by omega) (by omega), show k + b + 1 + 8 = k + b + 9 by omega]
        rw [q4, show (p : Int) + ((Utf8.decode s p).2 : Int) = ((p + (Utf8.decode s p).2 : Nat) : Int) by omega]
        rw [ih k (p + (Utf8.decode s p).2) (by omega) (by omega)]
        simp
    · rw [show k + (b + 1) + 9 = (k + b + 9) + 1 by omega, polyglotref03_Bad.l0.eq_def]
      simp only []
      rw [if_neg (by omega), badTo_end s _ p (by omega)]
theorem refValid_f (s : ByteArray) (hs : s.size < 4294967296) (k : Nat) : polyglotref03_Valid.f (k + s.size + 9) s = some (validS s) := by
  unfold polyglotref03_Valid.f validS polyglotref03_Bad.f
  have := refBad_f s hs s.size k 0 (by omega) (by omega)
  rw [show ((0 : Nat) : Int) = 0 from rfl] at this
  rw [this]
  have hp : ∀ b p, badTo s b p = -1 ∨ 0 ≤ badTo s b p := by
    intro b
    induction b with
    | zero => intro p; exact Or.inl rfl
    | succ b ih =>
      intro p
      unfold badTo
      split
      · split
        · exact Or.inr (by omega)
        · exact ih _
      · exact Or.inl rfl
  have := hp s.size 0
  by_cases h : (s.size : Int) ≤ 65535
  · rw [if_pos h]
    simp only [Option.bind_some, h, decide_true, Bool.true_and, Option.some.injEq]
    rw [Bool.eq_iff_iff, decide_eq_true_iff, beq_iff_eq]
    omega
  · rw [if_neg h, decide_eq_false h, Bool.false_and]
end Go.Proofs.Ytngmipfobcaojaa.HA
end

-- YtngmipfobcaojaaHAhNameLaw
section
namespace Go.Proofs.Ytngmipfobcaojaa.HA
open Go.RowKit Go.Proofs.YtngmipfobcaojaaW.PrintWords Go.Proofs.YtngmipfobcaojaaW.PrintLast Go.Proofs.YtngmipfobcaojaaW.PrintMore
def hasB (s : ByteArray) (c : Int) : Bool := s.data.toList.any fun u => ((u.toNat : Nat) : Int) == c
theorem has_l0 (s : ByteArray) (c : Int) (hs : s.size ≤ 1000000) : ∀ (d k i : Nat), i + d = s.size → d < k → polyglotref04_has.l0 k s c i = some ((s.data.toList.drop i).any fun u => ((u.toNat : Nat) : Int) == c) := by
  intro d
  induction d with
  | zero =>
    intro k i hi hk
    obtain ⟨k, rfl⟩ : ∃ m, k = m + 1 := ⟨k - 1, by omega⟩
    rw [polyglotref04_has.l0.eq_def]
    simp only []
    rw [if_neg (by omega), List.drop_of_length_le (by simp; omega)]
    rfl
  | succ d ih =>
    intro k i hi hk
    obtain ⟨k, rfl⟩ : ∃ m, k = m + 1 := ⟨k - 1, by omega⟩
    rw [polyglotref04_has.l0.eq_def]
    simp only []
    have hlt : i < s.data.toList.length := by simp; omega
    have hb : bt s (i : Int) = ((s.data.toList[i].toNat : Nat) : Int) := by
      rw [← rd_bytesOf]
      unfold rd bytesOf
      rw [List.getD_eq_getElem?_getD, Int.toNat_natCast, List.getElem?_map, List.getElem?_eq_getElem hlt]
      rfl
    rw [if_pos (by omega), if_pos (by omega), hb, List.drop_eq_getElem_cons hlt, List.any_cons]
    by_cases e : ((s.data.toList[i].toNat : Nat) : Int) = c
    · rw [if_pos e, beq_iff_eq.2 e]; rfl
    · rw [if_neg e, beq_eq_false_iff_ne.2 e, show wrap64 ((i : Int) + 1) = ((i + 1 : Nat) : Int) by unfold wrap64; omega, ih k (i + 1) (by omega) (by omega)]
      rfl
theorem has4_f (s : ByteArray) (c : Int) (k : Nat) (hs : s.size ≤ 1000000) (hk : s.size < k) : polyglotref04_has.f k s c = some (hasB s c) := by
  unfold polyglotref04_has.f
  have := has_l0 s c hs s.size k 0 (by omega) hk
  rw [show ((0 : Nat) : Int) = 0 from rfl, List.drop_zero] at this
  exact this
theorem hasB_eq (s : ByteArray) (c : Nat) (hc : c < 256) : hasB s (c : Int) = s.data.toList.contains (UInt8.ofNat c) := by
  unfold hasB
  rw [List.contains_eq_any_beq]
  congr 1
  funext u
  rw [Bool.eq_iff_iff, beq_iff_eq, beq_iff_eq]
  constructor
  · intro h
    have : u.toNat = c := by omega
    rw [← this]
    simp
  · intro h
    subst h
    rw [UInt8.toNat_ofNat_of_lt' (by simpa using hc)]
theorem ref4Name_f (s : ByteArray) (k : Nat) (hs : s.size ≤ 1000) (hk : 1100 ≤ k) : polyglotref04_Name.f k s = some (nameS s) := by
  unfold polyglotref04_Name.f nameS wildIn
  have hv : polyglotref03_Valid.f k s = some (validS s) := by
    have := refValid_f s (by omega) (k - s.size - 9)
    rwa [show k - s.size - 9 + s.size + 9 = k by omega] at this
  have h43 := hasB_eq s 43 (by omega)
  have h35 := hasB_eq s 35 (by omega)
  rw [hv, has4_f s 43 k (by omega) (by omega), has4_f s 35 k (by omega) (by omega)]
  simp only [Option.bind_some]
  rw [show (43 : Int) = ((43 : Nat) : Int) from rfl, show (35 : Int) = ((35 : Nat) : Int) from rfl, h43, h35]
  rw [show UInt8.ofNat 43 = 43 from rfl, show UInt8.ofNat 35 = 35 from rfl]
  by_cases h : s.toList = []
  · simp [h]
  · rw [if_neg h, beq_eq_false_iff_ne.2 h]
    cases validS s <;> cases s.data.toList.contains 43 <;> cases s.data.toList.contains 35 <;> rfl
end Go.Proofs.Ytngmipfobcaojaa.HA
end

-- YtngmipfobcaojaaPurePublishTopics
section
namespace Go.Proofs.Ytngmipfobcaojaa.HA
open Go.RowKit Go.Proofs.YtngmipfobcaojaaW.PrintWords Go.Proofs.YtngmipfobcaojaaW.PrintLast Go.Proofs.YtngmipfobcaojaaW.PrintMore
set_option maxRecDepth 100000 in
theorem livesT_f : polyglotlaw09_lives.f 2000 = some true := by kernel_rfl
theorem wfT_u16 {a : Int} (h : (Lit.int .u16 a).wf = true) : 0 ≤ a ∧ a ≤ 65535 := by
  simp only [Lit.wf, Bool.and_eq_true, decide_eq_true_eq] at h
  have e1 : IntKind.u16.min = 0 := by decide
  have e2 : IntKind.u16.max = 65535 := by decide
  omega
theorem alias_bytes (n : Int) (h0 : 0 ≤ n) (h1 : n ≤ 65535) : (bytesS 3 [⟨35, n, ⟨#[]⟩, ⟨#[]⟩⟩]).2 = if 0 < n then 0 else 9 := by
  by_cases h : 0 < n
  · rw [if_pos h]
    refine bytes_ok.2 ⟨⟨by simp, ?_, ?_⟩, ?_⟩
    · intro p hp
      rw [List.mem_singleton.1 hp]
      have er : ruleOf 35 = (2, 8, 1, 65535) := by kernel_rfl
      have eh : hasS (2, 8, 1, 65535) 3 = true := by kernel_rfl
      have hne : (⟨#[]⟩ : ByteArray).toList = [] := by rw [Lib.toList_data]
      show checkS (ruleOf 35) 3 _ = 0
      rw [er]
      unfold checkS
      rw [eh]
      simp [hne]
      omega
    · intro p hp hc
      rw [List.mem_singleton.1 hp] at hc
      simp [cnt] at hc
    · unfold dataOk cnt
      simp
  · rw [if_neg h]
    obtain rfl : n = 0 := by omega
    kernel_rfl
end Go.Proofs.Ytngmipfobcaojaa.HA
namespace Go.Proofs.Ytngmipfobcaojaa.Pure
open Go.Proofs.Ytngmipfobcaojaa.HA
open Go.RowKit Go.Proofs.YtngmipfobcaojaaW.PrintWords Go.Proofs.YtngmipfobcaojaaW.PrintLast Go.Proofs.YtngmipfobcaojaaW.PrintMore
theorem PublishTopics : polyglotlaw09_PublishTopics.Pure := by
  intro a0 a1 a2 hs0 hs1 hw2
  have hu := wfT_u16 hw2
  refine ⟨2000, ?_⟩
  unfold polyglotlaw09_PublishTopics.f
  rw [livesT_f]
  simp only [Option.bind_some, if_true]
  have hj0 : polyglotlaw09_PublishTopics.j0 2000 a0 a1 a2 true = some true := by
    rw [show (2000 : Nat) = 1999 + 1 from rfl, polyglotlaw09_PublishTopics.j0.eq_def]
    simp only [if_true]
  by_cases h0 : (a0.size : Int) > 300
  · rw [if_pos h0]; exact hj0
  rw [if_neg h0]
  by_cases h1 : (a1.size : Int) > 300
  · rw [decide_eq_true h1]; exact hj0
  rw [decide_eq_false h1, show (2000 : Nat) = 1999 + 1 from rfl, polyglotlaw09_PublishTopics.j0.eq_def]
  simp only [Bool.false_eq_true, if_false]
  rw [ref4Name_f a0 1999 (by omega) (by omega)]
  have hb0 : (bytesS 3 []).2 = 0 := by kernel_rfl
  have hP : ∀ v, v = 4 ∨ v = 5 → validP v 0 0 a0 [] = if nameS a0 = true then 0 else 10 := by
    intro v hv
    unfold validP fieldsS
    rw [hb0]
    rcases hv with rfl | rfl <;> cases nameS a0 <;> simp [aliasB]
  rw [validP_f 1999 (by omega) 4 0 0 a0 a1 [] (Or.inl rfl) ⟨by omega, by omega⟩ (Or.inl rfl), validP_f 1999 (by omega) 5 0 0 a0 a1 [] (Or.inr rfl) ⟨by omega, by omega⟩ (Or.inl rfl), hP 4 (Or.inl rfl), hP 5 (Or.inr rfl)]
  simp only [Option.bind_some]
  have hf : (((if nameS a0 = true then (0 : Int) else 10) == 0) != nameS a0) = false := by cases nameS a0 <;> simp
  rw [hf]
  simp only [Bool.false_eq_true, if_false]
  rw [show (1999 : Nat) = 1998 + 1 from rfl, polyglotlaw09_PublishTopics.j1.eq_def]
  simp only [Bool.false_eq_true, if_false, Option.bind_some]
  have hm : a2 % 4294967296 = a2 := by omega
  rw [hm, validP_f 1998 (by omega) 5 0 0 a0 a1 _ (Or.inr rfl) ⟨by omega, by omega⟩ (Or.inr ⟨_, rfl⟩)]
  obtain ⟨r0, r1, r2, r3, hg, hg2⟩ := get1_f 1996 [⟨35, a2, ⟨#[]⟩, ⟨#[]⟩⟩] (Or.inr ⟨_, rfl⟩)
  have hr1 := hg2 _ rfl rfl
  unfold publish_Alias.f
  rw [show (1998 : Nat) = 1996 + 2 from rfl, hg]
  simp only [Option.bind_some]
  have ha : aliasB [(⟨35, a2, ⟨#[]⟩, ⟨#[]⟩⟩ : PropT)] = true := rfl
  rw [ha, if_pos rfl, hr1]
  simp only [bne_self_eq_false]
  rw [show (1996 + 2 : Nat) = 1997 + 1 from rfl, polyglotlaw09_PublishTopics.j2.eq_def]
  simp only [Bool.false_eq_true, if_false]
  have hV : validP 5 0 0 a0 [⟨35, a2, ⟨#[]⟩, ⟨#[]⟩⟩] = if (nameS a0 || (a0.toList == [])) = false then 10 else if 0 < a2 then 0 else 9 := by
    unfold validP fieldsS
    rw [alias_bytes a2 hu.1 hu.2, ha]
    simp
  rw [hV]
  have hfin : ∀ e : Int, e = (if 0 < a2 then 0 else 9) → (if ((e == 0) == (decide (a2 > 0))) = true then (if e = 0 then (some true) else (some (e == 9))) else (some false)) = some true := by
    intro e he
    by_cases q : 0 < a2
    · rw [if_pos q] at he; subst he; simp [q]
    · rw [if_neg q] at he; subst he; simp [q]
  cases hn : nameS a0 with
  | true =>
    simp only [Bool.true_or, Bool.true_eq_false, if_false, if_true]
    exact hfin _ rfl
  | false =>
    simp only [Bool.false_eq_true, if_false, Bool.false_or]
    by_cases ht : a0.toList = []
    · rw [if_pos ht, ht]
      simp only [beq_self_eq_true, Bool.true_eq_false, if_false]
      exact hfin _ rfl
    · rw [if_neg ht, beq_eq_false_iff_ne.2 ht]
      rfl
end Go.Proofs.Ytngmipfobcaojaa.Pure
end

-- YtngmipfobcaojaaLawPublishTopics
section
namespace Go.Proofs.Ytngmipfobcaojaa.publishTopics
open Go.ChangeShapes Go.WideShapes Go.ChangeAt Go.RowKit
open Go.ChangeMaps (open_string shut_string)
theorem own : ownKnob Try.prog.godebug = none := by kernel_rfl
set_option maxRecDepth 100000 in
theorem lifted (os : Os) (started : os.Started) (H : Type) (enc : TypeId × Value → H) :
    ReturnsInHanded {} Try.checked os 6 .any (Rows.publishTopicsSpec.pre6 enc Try.prog Try.f6 Rows.publishTopicsRow.domain false) (Rows.publishTopicsSpec.post enc Try.prog Try.f6 false true false false) := by
  refine returnsInHanded_of_change_sized (C := Try.checked) own started (by kernel_rfl) Try.func6
    (ChangeSpec.witness6 (enc := enc) (C := Try.checked) false ⟨#[], #[.string ByteArray.empty, .string ByteArray.empty, .int .u16 0], []⟩ 8 (by kernel_rfl) (by kernel_rfl) (by kernel_rfl) (by kernel_rfl)) ?_
  intro W base args ds gs before hval0 hW hcnd hsz0 _
  have hsz : (DataW.weightsEach Try.prog (Try.f6.params.toList ++ Rows.publishTopicsSpec.plain.varTypes Try.prog) (ds ++ gs)).all (· ≤ reachBytes) = true := hsz0
  have hval : ∀ (j : Nat) t v, Try.f6.params[j]? = some t → args[j]? = some v → Value.okWide Try.prog W .any base t v := hval0
  have hW' := hW
  obtain ⟨p, q, hA0, hV, rfl, hfz, hnd⟩ := hW
  have hA : DataW.TrodAll enc Try.prog W 0 (fun _ => true) true Try.f6.params.toList args.toList ds p := hA0
  rw [Try.params6] at hA hval hsz
  obtain ⟨v0, vs0, d0, ds0, p0, q0, hargs, rfl, rfl, h0, r0⟩ := trodAll_cons hA
  obtain ⟨v1, vs1, d1, ds1, p1, q1, rfl, rfl, rfl, h1, r1⟩ := trodAll_cons r0
  obtain ⟨v2, vs2, d2, ds2, p2, q2, rfl, rfl, rfl, h2, r2⟩ := trodAll_cons r1
  obtain ⟨rfl, rfl, rfl⟩ := trodAll_nil r2
  obtain rfl : args = #[v0, v1, v2] := by cases args; simp_all
  obtain ⟨rfl, rfl⟩ := trodVars_none hV
  obtain ⟨a0, rfl, rfl, rfl, y0⟩ := open_string Try.underlying9 (hval 0 9 v0 rfl rfl) h0
  have w0 : a0.size ≤ 140737488351232 := by
    have z := sized_string hsz (j := 0) (t := 9) rfl rfl
    rw [Array.length_toList] at z
    exact z
  obtain ⟨a1, rfl, rfl, rfl, y1⟩ := open_string Try.underlying9 (hval 1 9 v1 rfl rfl) h1
  have w1 : a1.size ≤ 140737488351232 := by
    have z := sized_string hsz (j := 1) (t := 9) rfl rfl
    rw [Array.length_toList] at z
    exact z
  obtain ⟨a2, rfl, rfl, rfl, w2⟩ := open_int Try.underlying43 (hval 2 43 v2 rfl rfl) h2
  clear hA0 hval0 hsz0 hsz
  refine (HA.polyglotlaw09_PublishTopics.walk Pure.PublishTopics a0 a1 a2 W w0 w1 w2).mono fun e W' ⟨he, bel⟩ => ?_
  subst he
  exact ⟨_, rfl, _, _, _, [], _, [], hW', trodAll_mk1 (shut_bool Try.underlying4 _), (trodAll_cons_mk (shut_string Try.underlying9 y0) (trodAll_cons_mk (shut_string Try.underlying9 y1) (trodAll_cons_mk (shut_int Try.underlying43 w2) trodAll_mk0))), rfl, bel.frame _, fun h => by cases h⟩
theorem over : Rows.publishTopicsRow.holds Try.pinned (OpenSpec.ofChange Rows.publishTopicsSpec) :=
  OpenClaim.holds_of_wide 6 Try.f6 rfl rfl rfl rfl rfl rfl rfl ⟨rfl, rfl, rfl, rfl, rfl⟩ rfl rfl rfl rfl rfl (by kernel_rfl) Try.func6 (by kernel_rfl)
    (of_decide_eq_true (by kernel_rfl)) (by unfold Func.isWrapper; first | (rw [if_pos (by decide +kernel)]; kernel_rfl) | (rw [if_neg (by decide +kernel)]; exact ⟨rfl, rfl⟩))
    (fun os started H enc _ => lifted os started H enc)
theorem proved : Rows.PublishTopicsSaid := over
#print axioms proved
end Go.Proofs.Ytngmipfobcaojaa.publishTopics
namespace Go.Proofs.Ytngmipfobcaojaa
theorem publishTopics_holds : Rows.PublishTopicsSaid := publishTopics.proved
end Go.Proofs.Ytngmipfobcaojaa
end
