/- A part of the proof: texts that were built one by one, laid together. -/
import Derived.Test.YtngmipfobcaojaaGreatCPropCalls1
import Derived.ChangeAlike
import Derived.RegionTactic
import Derived.Deep.RegionHeld3
import Derived.Deep.AppendLies
import Derived.Lib.AppendStr
set_option linter.unusedVariables false
set_option linter.unusedSimpArgs false
-- YtngmipfobcaojaaGreatHAhSource
section
namespace Go.Proofs.YtngmipfobcaojaaGreat.HA
open Go.RowKit Go.Proofs.YtngmipfobcaojaaGreatW.PrintWords Go.Proofs.YtngmipfobcaojaaGreatW.PrintLast Go.Proofs.YtngmipfobcaojaaGreatW.PrintMore
def srcObj (gc : Nat) (id n : Int) (t v : ByteArray) : Obj := .cells #[.pointer (some ⟨gc, 0, none⟩), .int .i64 id, .int .u32 n, .string t, .string v] 132 (0, 0)
structure SrcAt (w0 W : World) (gs gc : Nat) (text : ByteArray) (at_ err : Int) (id n : Int) (t v : ByteArray) : Prop where
  cur : IsS145 w0 W gc text at_ err
  src : W.heap[gs]? = some (srcObj gc id n t v)
  lo : w0.heap.size ≤ gs
  bel : Below w0.heap.size w0 W
def Keep2 (w w' : World) (gs gc : Nat) : Prop := w.heap.size ≤ w'.heap.size ∧ ∀ i, i < w.heap.size → i ≠ gs → i ≠ gc → w'.heap[i]? = w.heap[i]?
theorem Keep2.refl (w : World) (gs gc : Nat) : Keep2 w w gs gc := ⟨Nat.le_refl _, fun _ _ _ _ => rfl⟩
theorem Keep2.trans {a b c : World} {gs gc : Nat} (h : Keep2 a b gs gc) (k : Keep2 b c gs gc) : Keep2 a c gs gc :=
  ⟨Nat.le_trans h.1 k.1, fun i hi h1 h2 => (k.2 i (Nat.lt_of_lt_of_le hi h.1) h1 h2).trans (h.2 i hi h1 h2)⟩
theorem Keep2.transD {a b c : World} {gs gc m : Nat} (h : Keep2 a b gs gc) (k : Keep2 (b.drewN m) c gs gc) : Keep2 a c gs gc :=
  ⟨Nat.le_trans h.1 k.1, fun i hi h1 h2 => (k.2 i (Nat.lt_of_lt_of_le hi h.1) h1 h2).trans (h.2 i hi h1 h2)⟩
theorem Keep2.but {a b c : World} {gs gc : Nat} (h : Keep2 a b gs gc) (k : KeepBut b c gc none) : Keep2 a c gs gc :=
  h.trans ⟨k.1, fun i hi _ h2 => k.2 i hi h2 (by simp)⟩
theorem Keep2.below {a b c : World} {gs gc : Nat} (h : Keep2 a b gs gc) (k : Below b.heap.size b c) : Keep2 a c gs gc :=
  h.trans ⟨k.size, fun i hi _ _ => k.block i hi⟩
theorem Keep2.set {a b : World} {gs gc : Nat} (h : Keep2 a b gs gc) (j : Nat) (u : Value) : Keep2 a (b.setCell ⟨gs, j, none⟩ u) gs gc :=
  h.trans ⟨by simp [World.setCell], fun i _ h1 _ => Below.heap_setCell b ⟨gs, j, none⟩ u i h1⟩
section
variable {w0 W : World} {gs gc : Nat} {text : ByteArray} {at_ err id n : Int} {t v : ByteArray}
theorem SrcAt.ne (h : SrcAt w0 W gs gc text at_ err id n t v) : gs ≠ gc := by
  rintro rfl
  have := h.src.symm.trans h.cur.1
  simp [srcObj] at this
theorem SrcAt.ptr (h : SrcAt w0 W gs gc text at_ err id n t v) : W.cell? ⟨gs, 0, none⟩ = some (.pointer (some ⟨gc, 0, none⟩)) := (qk h.src 0).trans rfl
theorem SrcAt.f1 (h : SrcAt w0 W gs gc text at_ err id n t v) : W.cell? ⟨gs, 1, none⟩ = some (.int .i64 id) := (qk h.src 1).trans rfl
theorem SrcAt.f2 (h : SrcAt w0 W gs gc text at_ err id n t v) : W.cell? ⟨gs, 2, none⟩ = some (.int .u32 n) := (qk h.src 2).trans rfl
theorem SrcAt.f3 (h : SrcAt w0 W gs gc text at_ err id n t v) : W.cell? ⟨gs, 3, none⟩ = some (.string t) := (qk h.src 3).trans rfl
theorem SrcAt.f4 (h : SrcAt w0 W gs gc text at_ err id n t v) : W.cell? ⟨gs, 4, none⟩ = some (.string v) := (qk h.src 4).trans rfl
theorem SrcAt.fz (h : SrcAt w0 W gs gc text at_ err id n t v) (i : Nat) : W.frozen? ⟨gs, i, none⟩ = false := q9 h.src i
theorem SrcAt.moved (h : SrcAt w0 W gs gc text at_ err id n t v) {W' : World} {at2 err2 : Int} (hc : IsS145 w0 W' gc text at2 err2) (hb : Below w0.heap.size w0 W') (hk : KeepBut W W' gc none) : SrcAt w0 W' gs gc text at2 err2 id n t v :=
  ⟨hc, (hk.2 gs (blk_lt h.src) h.ne (by simp)).trans h.src, h.lo, hb⟩
theorem SrcAt.grown (h : SrcAt w0 W gs gc text at_ err id n t v) {W' : World} (hb : Below W.heap.size W W') : SrcAt w0 W' gs gc text at_ err id n t v :=
  ⟨h.cur.below hb, qo h.src hb, h.lo, qe h.bel hb⟩
theorem SrcAt.drewN (h : SrcAt w0 W gs gc text at_ err id n t v) (m : Nat) : SrcAt w0 (W.drewN m) gs gc text at_ err id n t v :=
  ⟨h.cur, h.src, h.lo, qa h.bel m⟩
theorem SrcAt.drawn (h : SrcAt w0 W gs gc text at_ err id n t v) {W' : World} (hd : Drawn0 W W') : SrcAt w0 W' gs gc text at_ err id n t v := by
  obtain ⟨⟨m, rfl⟩⟩ := hd
  exact h.drewN m
theorem SrcAt.set2 (h : SrcAt w0 W gs gc text at_ err id n t v) (x : Int) : SrcAt w0 (W.setCell ⟨gs, 2, none⟩ (.int .u32 x)) gs gc text at_ err id x t v :=
  ⟨h.cur.far (p := ⟨gs, 2, none⟩) (fun e => h.ne e.symm) _, qx h.src 2 _ rfl, h.lo, qw h.bel h.lo⟩
theorem SrcAt.set3 (h : SrcAt w0 W gs gc text at_ err id n t v) (x : ByteArray) : SrcAt w0 (W.setCell ⟨gs, 3, none⟩ (.string x)) gs gc text at_ err id n x v :=
  ⟨h.cur.far (p := ⟨gs, 3, none⟩) (fun e => h.ne e.symm) _, qx h.src 3 _ rfl, h.lo, qw h.bel h.lo⟩
theorem SrcAt.set4 (h : SrcAt w0 W gs gc text at_ err id n t v) (x : ByteArray) : SrcAt w0 (W.setCell ⟨gs, 4, none⟩ (.string x)) gs gc text at_ err id n t x :=
  ⟨h.cur.far (p := ⟨gs, 4, none⟩) (fun e => h.ne e.symm) _, qx h.src 4 _ rfl, h.lo, qw h.bel h.lo⟩
end
def failS (err e : Int) : Int := if err = 0 then e else err
def needS (text : ByteArray) (at_ err m : Int) : ByteArray × Int × Int := takeS text at_ (if err = 0 ∧ (m < 0 ∨ m > text.size - at_) then 5 else err) m
theorem need_at (text : ByteArray) (at_ err m : Int) (h0 : 0 ≤ at_) (h1 : at_ ≤ text.size) : 0 ≤ (needS text at_ err m).2.1 ∧ (needS text at_ err m).2.1 ≤ text.size := take_at text at_ _ m h0 h1
theorem need_size (text : ByteArray) (at_ err m : Int) (h0 : 0 ≤ at_) (h1 : at_ ≤ text.size) : (needS text at_ err m).1.size ≤ text.size := take_size text at_ _ m h0 h1
theorem fail_calls (g : Nat) (text : ByteArray) (at_ err e1 : Int) (w0 w : World) (hI : IsS145 w0 w g text at_ err) (hB : Below w0.heap.size w0 w) :
    Calls Tryz.prog 159 #[.pointer (some ⟨g, 0, none⟩), .int .i64 e1] w fun e w' => e = .returned (.tuple #[]) ∧ IsS145 w0 w' g text at_ (failS err e1) ∧ Below w0.heap.size w0 w' ∧ KeepBut w w' g none := by
  have hr := fun W hI hB => octet_Cursor_ready.calls g text at_ err (err == 0) text at_ err w0 W hI hB rfl
  have HR := Aside0.mk hr
  have HI0 := Aside0.mk hI
  have HB := Aside0.mk hB
  clear hr hI hB
  by_cases he : err = 0
  · have t1 : (err == 0) = true := beq_iff_eq.2 he
    rw [t1] at HR
    rw [show failS err e1 = e1 from if_pos he]
    clear he
    go_enter Tryz.func159, Tryz.ntmps159
    go_wp2_with (go_at_call 162; refine (HR.out _ HI0.out HB.out).mono ?_; rintro e w' ⟨rfl, hi, hb, hk⟩; have HI1 := Aside0.mk hi; have HB1 := Aside0.mk hb; have HK1 := Aside0.mk hk; have hf2 := q9 hi.1 2; have hc2 : w'.cell? ⟨g, 2, none⟩ = some (.int .i64 err) := (qk hi.1 2).trans rfl; clear hi hb hk)
    go_end0
    exact ⟨rfl, by repeat (with_reducible first | exact HI1.out | apply IsS145.drewN | apply IsS145.set_2), by repeat (with_reducible first | exact HB1.out | apply qa | refine qw ?_ (IsS145.ge HI1.out)), by repeat (with_reducible first | exact HK1.out | apply KeepBut.set_ | apply keep_drewN)⟩
  · have t1 : (err == 0) = false := beq_eq_false_iff_ne.2 he
    rw [t1] at HR
    rw [show failS err e1 = err from if_neg he]
    clear he
    go_enter Tryz.func159, Tryz.ntmps159
    go_wp2_with (go_at_call 162; refine (HR.out _ HI0.out HB.out).mono ?_; rintro e w' ⟨rfl, hi, hb, hk⟩)
    go_end0
    exact ⟨rfl, by exact hi, by exact hb, by exact hk⟩
set_option maxHeartbeats 2000000 in
set_option maxRecDepth 100000 in
theorem need_calls (w0 w : World) (gs gc : Nat) (text : ByteArray) (at_ err id n : Int) (t v : ByteArray) (m : Int) (hS : SrcAt w0 w gs gc text at_ err id n t v) (h0 : 0 ≤ at_) (h1 : at_ ≤ text.size) (hs : text.size ≤ 4000000000000000000) :
    Calls Tryz.prog 158 #[.pointer (some ⟨gs, 0, none⟩), .int .i64 m] w fun e w' => e = .returned (.string (needS text at_ err m).1) ∧ SrcAt w0 w' gs gc text (needS text at_ err m).2.1 (needS text at_ err m).2.2 id n t v ∧ Keep2 w w' gs gc := by
  have HS := Aside0.mk hS
  have HK := Aside0.mk (Keep2.refl w gs gc)
  have hp := hS.ptr
  clear hS
  unfold needS
  by_cases he : err = 0
  · have t1 : (err == 0) = true := beq_iff_eq.2 he
    by_cases hm : m < 0
    · have t2 : decide (m < 0) = true := decide_eq_true hm
      rw [if_pos ⟨he, Or.inl hm⟩]
      have ef : failS err 5 = 5 := if_pos he
      clear he hm
      go_enter Tryz.func158, Tryz.ntmps158
      go_wp2_with (first | (go_at_call 112; refine (octet_Cursor_Err.calls gc text at_ err err text at_ err w0 _ ?s1 ?s2 rfl).mono ?_; (case s1 => exact HS.out.cur); (case s2 => exact HS.out.bel); rintro e w1 ⟨rfl, hi, hb, hk⟩; have n_ := Aside0.mk (HS.out.moved hi hb hk); have k_ := Aside0.mk (HK.out.but hk); clear HS HK hi hb hk; have HS := n_; have HK := k_; clear n_ k_; have hp := HS.out.ptr) | (go_at_call 159; refine (fail_calls gc text at_ err 5 w0 _ ?s1 ?s2).mono ?_; (case s1 => exact HS.out.cur); (case s2 => exact HS.out.bel); rintro e w1 ⟨rfl, hi, hb, hk⟩; have n_ := Aside0.mk (HS.out.moved hi hb hk); have k_ := Aside0.mk (HK.out.but hk); clear HS HK hi hb hk; have HS := n_; have HK := k_; clear n_ k_; have hp := HS.out.ptr; rw [ef] at HS) | (go_at_call 148; refine (octet_Cursor_Take.calls gc text at_ 5 m (takeS text at_ 5 m).1 text (takeS text at_ 5 m).2.1 (takeS text at_ 5 m).2.2 w0 _ ?s1 ?s2 (take_f text at_ 5 m h0 h1 hs)).mono ?_; (case s1 => exact HS.out.cur); (case s2 => exact HS.out.bel); rintro e w1 ⟨rfl, hi, hb, hk⟩; have n_ := Aside0.mk (HS.out.moved hi hb hk); have k_ := Aside0.mk (HK.out.but hk); clear HS HK hi hb hk; have HS := n_; have HK := k_; clear n_ k_; have hp := HS.out.ptr))
      go_ret
      exact ⟨rfl, HS.out, HK.out⟩
    · have t2 : decide (m < 0) = false := decide_eq_false hm
      by_cases hl : m > (text.size : Int) - at_
      · have t3 : decide ((text.size : Int) - at_ < m) = true := decide_eq_true hl
        rw [if_pos ⟨he, Or.inr hl⟩]
        have ef : failS err 5 = 5 := if_pos he
        clear he hm hl
        go_enter Tryz.func158, Tryz.ntmps158
        go_wp2_with (first | (go_at_call 112; refine (octet_Cursor_Err.calls gc text at_ err err text at_ err w0 _ ?s1 ?s2 rfl).mono ?_; (case s1 => exact HS.out.cur); (case s2 => exact HS.out.bel); rintro e w1 ⟨rfl, hi, hb, hk⟩; have n_ := Aside0.mk (HS.out.moved hi hb hk); have k_ := Aside0.mk (HK.out.but hk); clear HS HK hi hb hk; have HS := n_; have HK := k_; clear n_ k_; have hp := HS.out.ptr) | (go_at_call 110; refine (octet_Cursor_Left.calls gc text at_ err ((text.size : Int) - at_) text at_ err w0 _ ?s1 ?s2 (left_f text at_ err h0 h1)).mono ?_; (case s1 => exact HS.out.cur); (case s2 => exact HS.out.bel); rintro e w1 ⟨rfl, hi, hb, hk⟩; have n_ := Aside0.mk (HS.out.moved hi hb hk); have k_ := Aside0.mk (HK.out.but hk); clear HS HK hi hb hk; have HS := n_; have HK := k_; clear n_ k_; have hp := HS.out.ptr) | (go_at_call 159; refine (fail_calls gc text at_ err 5 w0 _ ?s1 ?s2).mono ?_; (case s1 => exact HS.out.cur); (case s2 => exact HS.out.bel); rintro e w1 ⟨rfl, hi, hb, hk⟩; have n_ := Aside0.mk (HS.out.moved hi hb hk); have k_ := Aside0.mk (HK.out.but hk); clear HS HK hi hb hk; have HS := n_; have HK := k_; clear n_ k_; have hp := HS.out.ptr; rw [ef] at HS) | (go_at_call 148; refine (octet_Cursor_Take.calls gc text at_ 5 m (takeS text at_ 5 m).1 text (takeS text at_ 5 m).2.1 (takeS text at_ 5 m).2.2 w0 _ ?s1 ?s2 (take_f text at_ 5 m h0 h1 hs)).mono ?_; (case s1 => exact HS.out.cur); (case s2 => exact HS.out.bel); rintro e w1 ⟨rfl, hi, hb, hk⟩; have n_ := Aside0.mk (HS.out.moved hi hb hk); have k_ := Aside0.mk (HK.out.but hk); clear HS HK hi hb hk; have HS := n_; have HK := k_; clear n_ k_; have hp := HS.out.ptr))
        go_ret
        exact ⟨rfl, HS.out, HK.out⟩
      · have t3 : decide ((text.size : Int) - at_ < m) = false := decide_eq_false hl
        rw [if_neg (fun q => q.2.elim hm hl)]
        clear he hm hl
        go_enter Tryz.func158, Tryz.ntmps158
        go_wp2_with (first | (go_at_call 112; refine (octet_Cursor_Err.calls gc text at_ err err text at_ err w0 _ ?s1 ?s2 rfl).mono ?_; (case s1 => exact HS.out.cur); (case s2 => exact HS.out.bel); rintro e w1 ⟨rfl, hi, hb, hk⟩; have n_ := Aside0.mk (HS.out.moved hi hb hk); have k_ := Aside0.mk (HK.out.but hk); clear HS HK hi hb hk; have HS := n_; have HK := k_; clear n_ k_; have hp := HS.out.ptr) | (go_at_call 110; refine (octet_Cursor_Left.calls gc text at_ err ((text.size : Int) - at_) text at_ err w0 _ ?s1 ?s2 (left_f text at_ err h0 h1)).mono ?_; (case s1 => exact HS.out.cur); (case s2 => exact HS.out.bel); rintro e w1 ⟨rfl, hi, hb, hk⟩; have n_ := Aside0.mk (HS.out.moved hi hb hk); have k_ := Aside0.mk (HK.out.but hk); clear HS HK hi hb hk; have HS := n_; have HK := k_; clear n_ k_; have hp := HS.out.ptr) | (go_at_call 148; refine (octet_Cursor_Take.calls gc text at_ err m (takeS text at_ err m).1 text (takeS text at_ err m).2.1 (takeS text at_ err m).2.2 w0 _ ?s1 ?s2 (take_f text at_ err m h0 h1 hs)).mono ?_; (case s1 => exact HS.out.cur); (case s2 => exact HS.out.bel); rintro e w1 ⟨rfl, hi, hb, hk⟩; have n_ := Aside0.mk (HS.out.moved hi hb hk); have k_ := Aside0.mk (HK.out.but hk); clear HS HK hi hb hk; have HS := n_; have HK := k_; clear n_ k_; have hp := HS.out.ptr))
        go_ret
        exact ⟨rfl, HS.out, HK.out⟩
  · have t1 : (err == 0) = false := beq_eq_false_iff_ne.2 he
    rw [if_neg (fun q => he q.1)]
    clear he
    go_enter Tryz.func158, Tryz.ntmps158
    go_wp2_with (first | (go_at_call 112; refine (octet_Cursor_Err.calls gc text at_ err err text at_ err w0 _ ?s1 ?s2 rfl).mono ?_; (case s1 => exact HS.out.cur); (case s2 => exact HS.out.bel); rintro e w1 ⟨rfl, hi, hb, hk⟩; have n_ := Aside0.mk (HS.out.moved hi hb hk); have k_ := Aside0.mk (HK.out.but hk); clear HS HK hi hb hk; have HS := n_; have HK := k_; clear n_ k_; have hp := HS.out.ptr) | (go_at_call 148; refine (octet_Cursor_Take.calls gc text at_ err m (takeS text at_ err m).1 text (takeS text at_ err m).2.1 (takeS text at_ err m).2.2 w0 _ ?s1 ?s2 (take_f text at_ err m h0 h1 hs)).mono ?_; (case s1 => exact HS.out.cur); (case s2 => exact HS.out.bel); rintro e w1 ⟨rfl, hi, hb, hk⟩; have n_ := Aside0.mk (HS.out.moved hi hb hk); have k_ := Aside0.mk (HK.out.but hk); clear HS HK hi hb hk; have HS := n_; have HK := k_; clear n_ k_; have hp := HS.out.ptr))
    go_ret
    exact ⟨rfl, HS.out, HK.out⟩
attribute [local irreducible] needS takeS getS
def dataS (text : ByteArray) (at_ err : Int) : ByteArray × Int × Int := needS text (needS text at_ err 2).2.1 (needS text at_ err 2).2.2 (wrap64 (getS (needS text at_ err 2).1))
theorem data_at (text : ByteArray) (at_ err : Int) (h0 : 0 ≤ at_) (h1 : at_ ≤ text.size) : 0 ≤ (dataS text at_ err).2.1 ∧ (dataS text at_ err).2.1 ≤ text.size :=
  need_at text (needS text at_ err 2).2.1 (needS text at_ err 2).2.2 (wrap64 (getS (needS text at_ err 2).1)) (need_at text at_ err 2 h0 h1).1 (need_at text at_ err 2 h0 h1).2
theorem data_size (text : ByteArray) (at_ err : Int) (h0 : 0 ≤ at_) (h1 : at_ ≤ text.size) : (dataS text at_ err).1.size ≤ text.size :=
  need_size text (needS text at_ err 2).2.1 (needS text at_ err 2).2.2 (wrap64 (getS (needS text at_ err 2).1)) (need_at text at_ err 2 h0 h1).1 (need_at text at_ err 2 h0 h1).2
def writtenS (text : ByteArray) (at_ err : Int) : ByteArray × Int × Int := ((dataS text at_ err).1, (dataS text at_ err).2.1, if validS (dataS text at_ err).1 = true then (dataS text at_ err).2.2 else failS (dataS text at_ err).2.2 6)
theorem written_at (text : ByteArray) (at_ err : Int) (h0 : 0 ≤ at_) (h1 : at_ ≤ text.size) : 0 ≤ (writtenS text at_ err).2.1 ∧ (writtenS text at_ err).2.1 ≤ text.size := data_at text at_ err h0 h1
set_option maxHeartbeats 2000000 in
set_option maxRecDepth 100000 in
theorem data_calls (w0 w : World) (gs gc : Nat) (text : ByteArray) (at_ err id n : Int) (t v : ByteArray) (hS : SrcAt w0 w gs gc text at_ err id n t v) (h0 : 0 ≤ at_) (h1 : at_ ≤ text.size) (hs : text.size ≤ 4000000000000000000) :
    Calls Tryz.prog 161 #[.pointer (some ⟨gs, 0, none⟩)] w fun e w' => e = .returned (.string (dataS text at_ err).1) ∧ SrcAt w0 w' gs gc text (dataS text at_ err).2.1 (dataS text at_ err).2.2 id n t v ∧ Keep2 w w' gs gc := by
  have HS := Aside0.mk hS
  have HK := Aside0.mk (Keep2.refl w gs gc)
  have hp := hS.ptr
  clear hS
  have ha := need_at text at_ err 2 h0 h1
  have hb := need_size text at_ err 2 h0 h1
  unfold dataS
  generalize hq : needS text at_ err 2 = q at *
  have HQ := Aside0.mk hq
  clear hq
  go_enter Tryz.func161, Tryz.ntmps161
  go_wp2_with (first | (go_at_call 158; with_reducible refine (need_calls w0 _ gs gc text at_ err id n t v 2 ?s1 h0 h1 hs).mono ?_; (case s1 => repeat (with_reducible first | exact HS.out | refine SrcAt.drewN ?_ _)); rintro e w1 ⟨rfl, hS1, hk⟩; rw [HQ.out] at hS1; rw [HQ.out]; have n_ := Aside0.mk hS1; have k_ := Aside0.mk (show Keep2 w w1 gs gc by first | exact HK.out.trans hk | exact HK.out.transD hk); clear HS HK hS1 hk; have HS := n_; have HK := k_; clear n_ k_; have hp := HS.out.ptr; have hf2 := HS.out.f2; have hf3 := HS.out.f3; have hf4 := HS.out.f4; have hz2 := HS.out.fz 2; have hz3 := HS.out.fz 3; have hz4 := HS.out.fz 4) | (go_at_call 69; refine (octet_Get.calls 20 q.1 (getS q.1) _ (get_f 20 q.1 (by omega) (by omega))).mono ?_; rintro e w1 ⟨rfl, ⟨⟨nd, rfl⟩⟩⟩) | (go_at_call 158; with_reducible refine (need_calls w0 _ gs gc text q.2.1 q.2.2 id n t v (wrap64 (getS q.1)) ?s1 ha.1 ha.2 hs).mono ?_; (case s1 => repeat (with_reducible first | exact HS.out | refine SrcAt.drewN ?_ _)); rintro e w1 ⟨rfl, hS1, hk⟩; have n_ := Aside0.mk hS1; have k_ := Aside0.mk (show Keep2 w w1 gs gc by first | exact HK.out.trans hk | exact HK.out.transD hk); clear HS HK hS1 hk; have HS := n_; have HK := k_; clear n_ k_; have hp := HS.out.ptr; have hf2 := HS.out.f2; have hf3 := HS.out.f3; have hf4 := HS.out.f4; have hz2 := HS.out.fz 2; have hz3 := HS.out.fz 3; have hz4 := HS.out.fz 4))
  go_ret
  exact ⟨rfl, HS.out, HK.out⟩
set_option maxHeartbeats 2000000 in
set_option maxRecDepth 100000 in
theorem written_calls (w0 w : World) (gs gc : Nat) (text : ByteArray) (at_ err id n : Int) (t v : ByteArray) (hS : SrcAt w0 w gs gc text at_ err id n t v) (h0 : 0 ≤ at_) (h1 : at_ ≤ text.size) (hs : text.size ≤ 4000000000000000000) :
    Calls Tryz.prog 160 #[.pointer (some ⟨gs, 0, none⟩)] w fun e w' => e = .returned (.string (writtenS text at_ err).1) ∧ SrcAt w0 w' gs gc text (writtenS text at_ err).2.1 (writtenS text at_ err).2.2 id n t v ∧ Keep2 w w' gs gc := by
  have HS := Aside0.mk hS
  have HK := Aside0.mk (Keep2.refl w gs gc)
  have hp := hS.ptr
  clear hS
  unfold writtenS
  cases hv : validS (dataS text at_ err).1 with
  | true =>
    have tv : validS (dataS text at_ err).1 = true := hv
    simp only [if_true]
    go_enter Tryz.func160, Tryz.ntmps160
    go_wp2_with (first | (go_at_call 161; with_reducible refine (data_calls w0 _ gs gc text at_ err id n t v  ?s1 h0 h1 hs).mono ?_; (case s1 => repeat (with_reducible first | exact HS.out | refine SrcAt.drewN ?_ _)); rintro e w1 ⟨rfl, hS1, hk⟩; have n_ := Aside0.mk hS1; have k_ := Aside0.mk (show Keep2 w w1 gs gc by first | exact HK.out.trans hk | exact HK.out.transD hk); clear HS HK hS1 hk; have HS := n_; have HK := k_; clear n_ k_; have hp := HS.out.ptr; have hf2 := HS.out.f2; have hf3 := HS.out.f3; have hf4 := HS.out.f4; have hz2 := HS.out.fz 2; have hz3 := HS.out.fz 3; have hz4 := HS.out.fz 4) | (go_at_call 100; refine (ustring_Valid.calls (dataS text at_ err).1 true _ (by rw [valid_f, tv])).mono ?_; rintro e w1 ⟨rfl, hk⟩; have n_ := Aside0.mk (HS.out.grown hk); have k_ := Aside0.mk (HK.out.below hk); clear HS HK hk; have HS := n_; have HK := k_; clear n_ k_; have hp := HS.out.ptr) | (go_at_call 159; refine (fail_calls gc text (dataS text at_ err).2.1 (dataS text at_ err).2.2 6 w0 _ ?s1 ?s2).mono ?_; (case s1 => exact HS.out.cur); (case s2 => exact HS.out.bel); rintro e w1 ⟨rfl, hi, hb, hk⟩; have n_ := Aside0.mk (HS.out.moved hi hb hk); have k_ := Aside0.mk (HK.out.but hk); clear HS HK hi hb hk; have HS := n_; have HK := k_; clear n_ k_; have hp := HS.out.ptr))
    go_ret
    exact ⟨rfl, HS.out, HK.out⟩
  | false =>
    have tv : validS (dataS text at_ err).1 = false := hv
    simp only [Bool.false_eq_true, if_false]
    go_enter Tryz.func160, Tryz.ntmps160
    go_wp2_with (first | (go_at_call 161; with_reducible refine (data_calls w0 _ gs gc text at_ err id n t v  ?s1 h0 h1 hs).mono ?_; (case s1 => repeat (with_reducible first | exact HS.out | refine SrcAt.drewN ?_ _)); rintro e w1 ⟨rfl, hS1, hk⟩; have n_ := Aside0.mk hS1; have k_ := Aside0.mk (show Keep2 w w1 gs gc by first | exact HK.out.trans hk | exact HK.out.transD hk); clear HS HK hS1 hk; have HS := n_; have HK := k_; clear n_ k_; have hp := HS.out.ptr; have hf2 := HS.out.f2; have hf3 := HS.out.f3; have hf4 := HS.out.f4; have hz2 := HS.out.fz 2; have hz3 := HS.out.fz 3; have hz4 := HS.out.fz 4) | (go_at_call 100; refine (ustring_Valid.calls (dataS text at_ err).1 false _ (by rw [valid_f, tv])).mono ?_; rintro e w1 ⟨rfl, hk⟩; have n_ := Aside0.mk (HS.out.grown hk); have k_ := Aside0.mk (HK.out.below hk); clear HS HK hk; have HS := n_; have HK := k_; clear n_ k_; have hp := HS.out.ptr) | (go_at_call 159; refine (fail_calls gc text (dataS text at_ err).2.1 (dataS text at_ err).2.2 6 w0 _ ?s1 ?s2).mono ?_; (case s1 => exact HS.out.cur); (case s2 => exact HS.out.bel); rintro e w1 ⟨rfl, hi, hb, hk⟩; have n_ := Aside0.mk (HS.out.moved hi hb hk); have k_ := Aside0.mk (HK.out.but hk); clear HS HK hi hb hk; have HS := n_; have HK := k_; clear n_ k_; have hp := HS.out.ptr))
    go_ret
    exact ⟨rfl, HS.out, HK.out⟩
def oneS (text : ByteArray) (at_ err : Int) : Int × Int × Int := ((getS (needS text at_ err 1).1) % 4294967296, (needS text at_ err 1).2.1, (needS text at_ err 1).2.2)
set_option maxHeartbeats 2000000 in
set_option maxRecDepth 100000 in
theorem one_calls (w0 w : World) (gs gc : Nat) (text : ByteArray) (at_ err id n : Int) (t v : ByteArray) (hS : SrcAt w0 w gs gc text at_ err id n t v) (h0 : 0 ≤ at_) (h1 : at_ ≤ text.size) (hs : text.size ≤ 4000000000000000000) :
    Calls Tryz.prog 140 #[.pointer (some ⟨gs, 0, none⟩)] w fun e w' => e = .returned (.tuple #[]) ∧ SrcAt w0 w' gs gc text (oneS text at_ err).2.1 (oneS text at_ err).2.2 id (oneS text at_ err).1 t v ∧ Keep2 w w' gs gc := by
  have HS := Aside0.mk hS
  have HK := Aside0.mk (Keep2.refl w gs gc)
  have hp := hS.ptr
  clear hS
  have hb := need_size text at_ err 1 h0 h1
  unfold oneS
  generalize hq : needS text at_ err 1 = q at *
  have HQ := Aside0.mk hq
  clear hq
  go_enter Tryz.func140, Tryz.ntmps140
  go_wp2_with (first | (go_at_call 158; with_reducible refine (need_calls w0 _ gs gc text at_ err id n t v 1 ?s1 h0 h1 hs).mono ?_; (case s1 => repeat (with_reducible first | exact HS.out | refine SrcAt.drewN ?_ _)); rintro e w1 ⟨rfl, hS1, hk⟩; rw [HQ.out] at hS1; rw [HQ.out]; have n_ := Aside0.mk hS1; have k_ := Aside0.mk (show Keep2 w w1 gs gc by first | exact HK.out.trans hk | exact HK.out.transD hk); clear HS HK hS1 hk; have HS := n_; have HK := k_; clear n_ k_; have hp := HS.out.ptr; have hf2 := HS.out.f2; have hf3 := HS.out.f3; have hf4 := HS.out.f4; have hz2 := HS.out.fz 2; have hz3 := HS.out.fz 3; have hz4 := HS.out.fz 4) | (go_at_call 69; refine (octet_Get.calls 20 q.1 (getS q.1) _ (get_f 20 q.1 (by omega) (by omega))).mono ?_; rintro e w1 ⟨rfl, ⟨⟨nd, rfl⟩⟩⟩))
  go_end0
  exact ⟨rfl, by repeat (with_reducible first | exact HS.out | apply SrcAt.drewN | apply SrcAt.set2 | apply SrcAt.set3 | apply SrcAt.set4), by repeat (first | exact HK.out | apply Keep2.set)⟩
def twoS (text : ByteArray) (at_ err : Int) : Int × Int × Int := ((getS (needS text at_ err 2).1) % 4294967296, (needS text at_ err 2).2.1, (needS text at_ err 2).2.2)
set_option maxHeartbeats 2000000 in
set_option maxRecDepth 100000 in
theorem two_calls (w0 w : World) (gs gc : Nat) (text : ByteArray) (at_ err id n : Int) (t v : ByteArray) (hS : SrcAt w0 w gs gc text at_ err id n t v) (h0 : 0 ≤ at_) (h1 : at_ ≤ text.size) (hs : text.size ≤ 4000000000000000000) :
    Calls Tryz.prog 141 #[.pointer (some ⟨gs, 0, none⟩)] w fun e w' => e = .returned (.tuple #[]) ∧ SrcAt w0 w' gs gc text (twoS text at_ err).2.1 (twoS text at_ err).2.2 id (twoS text at_ err).1 t v ∧ Keep2 w w' gs gc := by
  have HS := Aside0.mk hS
  have HK := Aside0.mk (Keep2.refl w gs gc)
  have hp := hS.ptr
  clear hS
  have hb := need_size text at_ err 2 h0 h1
  unfold twoS
  generalize hq : needS text at_ err 2 = q at *
  have HQ := Aside0.mk hq
  clear hq
  go_enter Tryz.func141, Tryz.ntmps141
  go_wp2_with (first | (go_at_call 158; with_reducible refine (need_calls w0 _ gs gc text at_ err id n t v 2 ?s1 h0 h1 hs).mono ?_; (case s1 => repeat (with_reducible first | exact HS.out | refine SrcAt.drewN ?_ _)); rintro e w1 ⟨rfl, hS1, hk⟩; rw [HQ.out] at hS1; rw [HQ.out]; have n_ := Aside0.mk hS1; have k_ := Aside0.mk (show Keep2 w w1 gs gc by first | exact HK.out.trans hk | exact HK.out.transD hk); clear HS HK hS1 hk; have HS := n_; have HK := k_; clear n_ k_; have hp := HS.out.ptr; have hf2 := HS.out.f2; have hf3 := HS.out.f3; have hf4 := HS.out.f4; have hz2 := HS.out.fz 2; have hz3 := HS.out.fz 3; have hz4 := HS.out.fz 4) | (go_at_call 69; refine (octet_Get.calls 20 q.1 (getS q.1) _ (get_f 20 q.1 (by omega) (by omega))).mono ?_; rintro e w1 ⟨rfl, ⟨⟨nd, rfl⟩⟩⟩))
  go_end0
  exact ⟨rfl, by repeat (with_reducible first | exact HS.out | apply SrcAt.drewN | apply SrcAt.set2 | apply SrcAt.set3 | apply SrcAt.set4), by repeat (first | exact HK.out | apply Keep2.set)⟩
def fourS (text : ByteArray) (at_ err : Int) : Int × Int × Int := ((getS (needS text at_ err 4).1) % 4294967296, (needS text at_ err 4).2.1, (needS text at_ err 4).2.2)
set_option maxHeartbeats 2000000 in
set_option maxRecDepth 100000 in
theorem four_calls (w0 w : World) (gs gc : Nat) (text : ByteArray) (at_ err id n : Int) (t v : ByteArray) (hS : SrcAt w0 w gs gc text at_ err id n t v) (h0 : 0 ≤ at_) (h1 : at_ ≤ text.size) (hs : text.size ≤ 4000000000000000000) :
    Calls Tryz.prog 142 #[.pointer (some ⟨gs, 0, none⟩)] w fun e w' => e = .returned (.tuple #[]) ∧ SrcAt w0 w' gs gc text (fourS text at_ err).2.1 (fourS text at_ err).2.2 id (fourS text at_ err).1 t v ∧ Keep2 w w' gs gc := by
  have HS := Aside0.mk hS
  have HK := Aside0.mk (Keep2.refl w gs gc)
  have hp := hS.ptr
  clear hS
  have hb := need_size text at_ err 4 h0 h1
  unfold fourS
  generalize hq : needS text at_ err 4 = q at *
  have HQ := Aside0.mk hq
  clear hq
  go_enter Tryz.func142, Tryz.ntmps142
  go_wp2_with (first | (go_at_call 158; with_reducible refine (need_calls w0 _ gs gc text at_ err id n t v 4 ?s1 h0 h1 hs).mono ?_; (case s1 => repeat (with_reducible first | exact HS.out | refine SrcAt.drewN ?_ _)); rintro e w1 ⟨rfl, hS1, hk⟩; rw [HQ.out] at hS1; rw [HQ.out]; have n_ := Aside0.mk hS1; have k_ := Aside0.mk (show Keep2 w w1 gs gc by first | exact HK.out.trans hk | exact HK.out.transD hk); clear HS HK hS1 hk; have HS := n_; have HK := k_; clear n_ k_; have hp := HS.out.ptr; have hf2 := HS.out.f2; have hf3 := HS.out.f3; have hf4 := HS.out.f4; have hz2 := HS.out.fz 2; have hz3 := HS.out.fz 3; have hz4 := HS.out.fz 4) | (go_at_call 69; refine (octet_Get.calls 20 q.1 (getS q.1) _ (get_f 20 q.1 (by omega) (by omega))).mono ?_; rintro e w1 ⟨rfl, ⟨⟨nd, rfl⟩⟩⟩))
  go_end0
  exact ⟨rfl, by repeat (with_reducible first | exact HS.out | apply SrcAt.drewN | apply SrcAt.set2 | apply SrcAt.set3 | apply SrcAt.set4), by repeat (first | exact HK.out | apply Keep2.set)⟩
attribute [local irreducible] dataS writtenS
set_option maxHeartbeats 2000000 in
set_option maxRecDepth 100000 in
theorem text_calls (w0 w : World) (gs gc : Nat) (text : ByteArray) (at_ err id n : Int) (t v : ByteArray) (hS : SrcAt w0 w gs gc text at_ err id n t v) (h0 : 0 ≤ at_) (h1 : at_ ≤ text.size) (hs : text.size ≤ 4000000000000000000) :
    Calls Tryz.prog 144 #[.pointer (some ⟨gs, 0, none⟩)] w fun e w' => e = .returned (.tuple #[]) ∧ SrcAt w0 w' gs gc text (writtenS text at_ err).2.1 (writtenS text at_ err).2.2 id n (writtenS text at_ err).1 v ∧ Keep2 w w' gs gc := by
  have HS := Aside0.mk hS
  have HK := Aside0.mk (Keep2.refl w gs gc)
  have hp := hS.ptr
  clear hS
  generalize hq : writtenS text at_ err = q at *
  have HQ := Aside0.mk hq
  clear hq
  go_enter Tryz.func144, Tryz.ntmps144
  go_wp2_with (go_at_call 160; with_reducible refine (written_calls w0 _ gs gc text at_ err id n t v  ?s1 h0 h1 hs).mono ?_; (case s1 => repeat (with_reducible first | exact HS.out | refine SrcAt.drewN ?_ _)); rintro e w1 ⟨rfl, hS1, hk⟩; rw [HQ.out] at hS1; rw [HQ.out]; have n_ := Aside0.mk hS1; have k_ := Aside0.mk (show Keep2 w w1 gs gc by first | exact HK.out.trans hk | exact HK.out.transD hk); clear HS HK hS1 hk; have HS := n_; have HK := k_; clear n_ k_; have hp := HS.out.ptr; have hf2 := HS.out.f2; have hf3 := HS.out.f3; have hf4 := HS.out.f4; have hz2 := HS.out.fz 2; have hz3 := HS.out.fz 3; have hz4 := HS.out.fz 4)
  go_end0
  exact ⟨rfl, by repeat (with_reducible first | exact HS.out | apply SrcAt.drewN | apply SrcAt.set2 | apply SrcAt.set3 | apply SrcAt.set4), by repeat (first | exact HK.out | apply Keep2.set)⟩
set_option maxHeartbeats 2000000 in
set_option maxRecDepth 100000 in
theorem binary_calls (w0 w : World) (gs gc : Nat) (text : ByteArray) (at_ err id n : Int) (t v : ByteArray) (hS : SrcAt w0 w gs gc text at_ err id n t v) (h0 : 0 ≤ at_) (h1 : at_ ≤ text.size) (hs : text.size ≤ 4000000000000000000) :
    Calls Tryz.prog 145 #[.pointer (some ⟨gs, 0, none⟩)] w fun e w' => e = .returned (.tuple #[]) ∧ SrcAt w0 w' gs gc text (dataS text at_ err).2.1 (dataS text at_ err).2.2 id n (dataS text at_ err).1 v ∧ Keep2 w w' gs gc := by
  have HS := Aside0.mk hS
  have HK := Aside0.mk (Keep2.refl w gs gc)
  have hp := hS.ptr
  clear hS
  generalize hq : dataS text at_ err = q at *
  have HQ := Aside0.mk hq
  clear hq
  go_enter Tryz.func145, Tryz.ntmps145
  go_wp2_with (go_at_call 161; with_reducible refine (data_calls w0 _ gs gc text at_ err id n t v  ?s1 h0 h1 hs).mono ?_; (case s1 => repeat (with_reducible first | exact HS.out | refine SrcAt.drewN ?_ _)); rintro e w1 ⟨rfl, hS1, hk⟩; rw [HQ.out] at hS1; rw [HQ.out]; have n_ := Aside0.mk hS1; have k_ := Aside0.mk (show Keep2 w w1 gs gc by first | exact HK.out.trans hk | exact HK.out.transD hk); clear HS HK hS1 hk; have HS := n_; have HK := k_; clear n_ k_; have hp := HS.out.ptr; have hf2 := HS.out.f2; have hf3 := HS.out.f3; have hf4 := HS.out.f4; have hz2 := HS.out.fz 2; have hz3 := HS.out.fz 3; have hz4 := HS.out.fz 4)
  go_end0
  exact ⟨rfl, by repeat (with_reducible first | exact HS.out | apply SrcAt.drewN | apply SrcAt.set2 | apply SrcAt.set3 | apply SrcAt.set4), by repeat (first | exact HK.out | apply Keep2.set)⟩
def pairS (text : ByteArray) (at_ err : Int) : ByteArray × ByteArray × Int × Int := ((writtenS text at_ err).1, (writtenS text (writtenS text at_ err).2.1 (writtenS text at_ err).2.2).1, (writtenS text (writtenS text at_ err).2.1 (writtenS text at_ err).2.2).2.1, (writtenS text (writtenS text at_ err).2.1 (writtenS text at_ err).2.2).2.2)
set_option maxHeartbeats 2000000 in
set_option maxRecDepth 100000 in
theorem pair_calls (w0 w : World) (gs gc : Nat) (text : ByteArray) (at_ err id n : Int) (t v : ByteArray) (hS : SrcAt w0 w gs gc text at_ err id n t v) (h0 : 0 ≤ at_) (h1 : at_ ≤ text.size) (hs : text.size ≤ 4000000000000000000) :
    Calls Tryz.prog 146 #[.pointer (some ⟨gs, 0, none⟩)] w fun e w' => e = .returned (.tuple #[]) ∧ SrcAt w0 w' gs gc text (pairS text at_ err).2.2.1 (pairS text at_ err).2.2.2 id n (pairS text at_ err).1 (pairS text at_ err).2.1 ∧ Keep2 w w' gs gc := by
  have HS := Aside0.mk hS
  have HK := Aside0.mk (Keep2.refl w gs gc)
  have hp := hS.ptr
  clear hS
  have hb := written_at text at_ err h0 h1
  unfold pairS
  generalize hq : writtenS text at_ err = q at *
  have HQ := Aside0.mk hq
  clear hq
  generalize hr : writtenS text q.2.1 q.2.2 = r at *
  have HR := Aside0.mk hr
  clear hr
  go_enter Tryz.func146, Tryz.ntmps146
  go_wp2_with (first | (go_at_call 160; with_reducible refine (written_calls w0 _ gs gc text at_ err id n t v  ?s1 h0 h1 hs).mono ?_; (case s1 => repeat (with_reducible first | exact HS.out | refine SrcAt.drewN ?_ _)); rintro e w1 ⟨rfl, hS1, hk⟩; rw [HQ.out] at hS1; rw [HQ.out]; have n_ := Aside0.mk hS1; have k_ := Aside0.mk (show Keep2 w w1 gs gc by first | exact HK.out.trans hk | exact HK.out.transD hk); clear HS HK hS1 hk; have HS := n_; have HK := k_; clear n_ k_; have hp := HS.out.ptr; have hf2 := HS.out.f2; have hf3 := HS.out.f3; have hf4 := HS.out.f4; have hz2 := HS.out.fz 2; have hz3 := HS.out.fz 3; have hz4 := HS.out.fz 4) | (go_at_call 160; with_reducible refine (written_calls w0 _ gs gc text q.2.1 q.2.2 id n q.1 v  ?s1 hb.1 hb.2 hs).mono ?_; (case s1 => repeat (with_reducible first | exact HS.out | refine SrcAt.drewN ?_ _ | apply SrcAt.set3)); rintro e w1 ⟨rfl, hS1, hk⟩; rw [HR.out] at hS1; rw [HR.out]; have n_ := Aside0.mk hS1; have k_ := Aside0.mk (show Keep2 w w1 gs gc by first | exact (HK.out.set 3 _).trans hk | exact HK.out.transD hk); clear HS HK hS1 hk; have HS := n_; have HK := k_; clear n_ k_; have hp := HS.out.ptr; have hf2 := HS.out.f2; have hf3 := HS.out.f3; have hf4 := HS.out.f4; have hz2 := HS.out.fz 2; have hz3 := HS.out.fz 3; have hz4 := HS.out.fz 4))
  go_end0
  exact ⟨rfl, by repeat (with_reducible first | exact HS.out | apply SrcAt.drewN | apply SrcAt.set2 | apply SrcAt.set3 | apply SrcAt.set4), by repeat (first | exact HK.out | apply Keep2.set)⟩
def restS (text : ByteArray) (at_ : Int) : ByteArray := text.extract at_.toNat text.size
def varErr (text : ByteArray) (at_ err : Int) : Int := if (readVarS (restS text at_)).2.2 = 0 then err else failS err 5
def varyS (text : ByteArray) (at_ err : Int) : Int × Int × Int := ((readVarS (restS text at_)).1 % 4294967296, (takeS text at_ (varErr text at_ err) (readVarS (restS text at_)).2.1).2.1, (takeS text at_ (varErr text at_ err) (readVarS (restS text at_)).2.1).2.2)
set_option maxHeartbeats 2000000 in
set_option maxRecDepth 100000 in
theorem vary_calls (w0 w : World) (gs gc : Nat) (text : ByteArray) (at_ err id n : Int) (t v : ByteArray) (hS : SrcAt w0 w gs gc text at_ err id n t v) (h0 : 0 ≤ at_) (h1 : at_ ≤ text.size) (hs : text.size ≤ 4000000000000000000) :
    Calls Tryz.prog 143 #[.pointer (some ⟨gs, 0, none⟩)] w fun e w' => e = .returned (.tuple #[]) ∧ SrcAt w0 w' gs gc text (varyS text at_ err).2.1 (varyS text at_ err).2.2 id (varyS text at_ err).1 t v ∧ Keep2 w w' gs gc := by
  have HS := Aside0.mk hS
  have HK := Aside0.mk (Keep2.refl w gs gc)
  have hp := hS.ptr
  clear hS
  unfold varyS varErr
  have hq := varread_f 20 (text.extract at_.toNat text.size) (by omega)
  unfold restS
  generalize readVarS (text.extract at_.toNat text.size) = q at *
  have HQ := Aside0.mk hq
  clear hq
  by_cases hz : q.2.2 = 0
  · have t1 : (q.2.2 != 0) = false := by rw [hz]; rfl
    rw [if_pos hz]
    clear hz
    go_enter Tryz.func143, Tryz.ntmps143
    go_wp2_with (first | (go_at_call 147; refine (octet_Cursor_Rest.calls gc text at_ err (text.extract at_.toNat text.size) text at_ err w0 _ ?s1 ?s2 (rest_f text at_ err h0 h1)).mono ?_; (case s1 => exact HS.out.cur); (case s2 => exact HS.out.bel); rintro e w1 ⟨rfl, hi, hb, hk⟩; have n_ := Aside0.mk (HS.out.moved hi hb hk); have k_ := Aside0.mk (HK.out.but hk); clear HS HK hi hb hk; have HS := n_; have HK := k_; clear n_ k_; have hp := HS.out.ptr) | (go_at_call 53; refine (varint_Read.calls 20 (text.extract at_.toNat text.size) q.1 q.2.1 q.2.2 _ HQ.out).mono ?_; rintro e w1 ⟨rfl, hk⟩; have n_ := Aside0.mk (HS.out.grown hk); have k_ := Aside0.mk (HK.out.below hk); clear HS HK hk; have HS := n_; have HK := k_; clear n_ k_; have hp := HS.out.ptr; have hf2 := HS.out.f2; have hz2 := HS.out.fz 2) | (go_at_call 159; refine (fail_calls gc text at_ err 5 w0 _ ?s1 ?s2).mono ?_; (case s1 => exact HS.out.cur); (case s2 => exact HS.out.bel); rintro e w1 ⟨rfl, hi, hb, hk⟩; have n_ := Aside0.mk (HS.out.moved hi hb hk); have k_ := Aside0.mk (HK.out.but hk); clear HS HK hi hb hk; have HS := n_; have HK := k_; clear n_ k_; have hp := HS.out.ptr; have hf2 := HS.out.f2; have hz2 := HS.out.fz 2) | (go_at_call 148; refine (octet_Cursor_Take.calls gc text at_ err q.2.1 (takeS text at_ err q.2.1).1 text (takeS text at_ err q.2.1).2.1 (takeS text at_ err q.2.1).2.2 w0 _ ?s1 ?s2 (take_f text at_ err q.2.1 h0 h1 hs)).mono ?_; (case s1 => exact (HS.out.set2 (q.1 % 4294967296)).cur); (case s2 => exact (HS.out.set2 (q.1 % 4294967296)).bel); rintro e w1 ⟨rfl, hi, hb, hk⟩; have n_ := Aside0.mk ((HS.out.set2 (q.1 % 4294967296)).moved hi hb hk); have k_ := Aside0.mk ((HK.out.set 2 (.int .u32 (q.1 % 4294967296))).but hk); clear HS HK hi hb hk; have HS := n_; have HK := k_; clear n_ k_; have hp := HS.out.ptr))
    go_end0
    exact ⟨rfl, by repeat (with_reducible first | exact HS.out | apply SrcAt.drewN | apply SrcAt.set2), by repeat (first | exact HK.out | apply Keep2.set)⟩
  · have t1 : (q.2.2 != 0) = true := bne_iff_ne.2 hz
    rw [if_neg hz]
    clear hz
    go_enter Tryz.func143, Tryz.ntmps143
    go_wp2_with (first | (go_at_call 147; refine (octet_Cursor_Rest.calls gc text at_ err (text.extract at_.toNat text.size) text at_ err w0 _ ?s1 ?s2 (rest_f text at_ err h0 h1)).mono ?_; (case s1 => exact HS.out.cur); (case s2 => exact HS.out.bel); rintro e w1 ⟨rfl, hi, hb, hk⟩; have n_ := Aside0.mk (HS.out.moved hi hb hk); have k_ := Aside0.mk (HK.out.but hk); clear HS HK hi hb hk; have HS := n_; have HK := k_; clear n_ k_; have hp := HS.out.ptr) | (go_at_call 53; refine (varint_Read.calls 20 (text.extract at_.toNat text.size) q.1 q.2.1 q.2.2 _ HQ.out).mono ?_; rintro e w1 ⟨rfl, hk⟩; have n_ := Aside0.mk (HS.out.grown hk); have k_ := Aside0.mk (HK.out.below hk); clear HS HK hk; have HS := n_; have HK := k_; clear n_ k_; have hp := HS.out.ptr; have hf2 := HS.out.f2; have hz2 := HS.out.fz 2) | (go_at_call 159; refine (fail_calls gc text at_ err 5 w0 _ ?s1 ?s2).mono ?_; (case s1 => exact HS.out.cur); (case s2 => exact HS.out.bel); rintro e w1 ⟨rfl, hi, hb, hk⟩; have n_ := Aside0.mk (HS.out.moved hi hb hk); have k_ := Aside0.mk (HK.out.but hk); clear HS HK hi hb hk; have HS := n_; have HK := k_; clear n_ k_; have hp := HS.out.ptr; have hf2 := HS.out.f2; have hz2 := HS.out.fz 2) | (go_at_call 148; refine (octet_Cursor_Take.calls gc text at_ (failS err 5) q.2.1 (takeS text at_ (failS err 5) q.2.1).1 text (takeS text at_ (failS err 5) q.2.1).2.1 (takeS text at_ (failS err 5) q.2.1).2.2 w0 _ ?s1 ?s2 (take_f text at_ (failS err 5) q.2.1 h0 h1 hs)).mono ?_; (case s1 => exact (HS.out.set2 (q.1 % 4294967296)).cur); (case s2 => exact (HS.out.set2 (q.1 % 4294967296)).bel); rintro e w1 ⟨rfl, hi, hb, hk⟩; have n_ := Aside0.mk ((HS.out.set2 (q.1 % 4294967296)).moved hi hb hk); have k_ := Aside0.mk ((HK.out.set 2 (.int .u32 (q.1 % 4294967296))).but hk); clear HS HK hi hb hk; have HS := n_; have HK := k_; clear n_ k_; have hp := HS.out.ptr))
    go_end0
    exact ⟨rfl, by repeat (with_reducible first | exact HS.out | apply SrcAt.drewN | apply SrcAt.set2), by repeat (first | exact HK.out | apply Keep2.set)⟩
end Go.Proofs.YtngmipfobcaojaaGreat.HA
end

-- YtngmipfobcaojaaGreatHAhReaders
section
namespace Go.Proofs.YtngmipfobcaojaaGreat.HA
open Go.RowKit Go.Proofs.YtngmipfobcaojaaGreatW.PrintWords Go.Proofs.YtngmipfobcaojaaGreatW.PrintLast Go.Proofs.YtngmipfobcaojaaGreatW.PrintMore
def readTab : List (Int × Nat) := [(1, 140), (2, 141), (3, 142), (4, 143), (5, 144), (6, 145), (7, 146)]
def readEnt (x : (Int × Nat) × Nat) : MapEntry := { key := .int .i64 x.1.1, val := .func (.func x.1.2) #[] #[], born := x.2 }
def readObj : Obj := .map (readTab.zipIdx.map readEnt).toArray 7
theorem run_insR (w : World) (es : Array MapEntry) (c : Nat) (k : Int) (v : Value) (h : freeK es.toList k = true) :
    (Instr.mapUpdate 127 (.map (some w.heap.size)) (.int .i64 k) v).run Tryz.prog (w.alloc (.map es c)) = .ok () (w.alloc (.map (es.push { key := .int .i64 k, val := v, born := c }) (c + 1))) := by
  have hh : (w.alloc (.map es c)).heap[w.heap.size]? = some (.map es c) := heap_alloc_new w _
  have hf := freeK_now k es.toList 0 h
  have hs : ∀ o, { w.alloc (.map es c) with heap := (w.alloc (.map es c)).heap.setIfInBounds w.heap.size o } = w.alloc o := fun o => by
    simp only [World.alloc]
    congr 1
    apply Array.ext'
    simp [Array.setIfInBounds, Array.toList_push]
  have hck : ∀ W : World, (Instr.checkKey false 10000 3 (.int .i64 k)).run Tryz.prog W = .ok () W := fun W => checkKey_int _ 9999 _ _ W
  have hp : ∀ W : World, (pure none : Sem (Option (Nat × Value))).run Tryz.prog W = .ok none W := fun _ => rfl
  simp only [Instr.mapUpdate, Sem.run_bind, run_underlying Tryz.underlying127, Result.andThen, getObj, Sem.run, hh, hck, Instr.findKey, run_underlying Tryz.underlying3, hf, setObj, hp]
  exact congrArg (Result.ok ()) (hs _)
set_option maxHeartbeats 4000000 in
set_option maxRecDepth 100000 in
theorem prop_readers.calls0 (w : World) :
    Calls Tryz.prog 108 #[] w fun e w' => e = .returned (.map (some w.heap.size)) ∧ w.alloc readObj = w' := by
  have hmm := @run_makeMap Tryz.prog
  have hup := fun es c k v h => run_insR w es c k v h
  have hfk : ∀ (k a : Int) (v : Value) (b : Nat) (l : List MapEntry), freeK ({ key := .int .i64 a, val := v, born := b } :: l) k = (!(k == a) && freeK l k) := fun _ _ _ _ _ => rfl
  have hfn : ∀ k : Int, freeK [] k = true := fun _ => rfl
  go_enter Tryz.func108, Tryz.ntmps108
  go_wp2
  go_ret
  exact ⟨rfl, rfl⟩
theorem findNow_read (id : Int) : ∀ (l : List (Int × Nat)) (i j : Nat) (f : Nat), (id, f) ∈ l → l.Nodup → (∀ x ∈ l, x.1 = id → x.2 = f) →
    ∃ m, Instr.findNow (.int .i64) (.int .i64 id) ((l.zipIdx j).map readEnt) i = some (some (m, .func (.func f) #[] #[]))
  | [], _, _, _, h, _, _ => by simp at h
  | x :: l, i, j, f, h, hn, hu => by
    simp only [List.zipIdx_cons, List.map_cons, Instr.findNow, readEnt, Instr.sameNow, if_true]
    cases e : (id == x.1) with
    | true =>
      have := hu x List.mem_cons_self (by simpa using (beq_iff_eq.1 e).symm)
      exact ⟨i, by rw [this]⟩
    | false =>
      rcases List.mem_cons.1 h with rfl | h
      · simp at e
      · exact findNow_read id l (i + 1) (j + 1) f h (List.nodup_cons.1 hn).2 (fun y hy => hu y (List.mem_cons_of_mem _ hy))
theorem run_read_lookup (W : World) (b : Nat) (id : Int) (f : Nat) (hb : W.heap[b]? = some readObj) (hm : (id, f) ∈ readTab) :
    (Instr.lookup 127 (.map (some b)) (.int .i64 id) false).run Tryz.prog W = .ok (.func (.func f) #[] #[]) W := by
  unfold readObj at hb
  have hg := MapKept.run_getObj_map (P := Tryz.prog) hb
  obtain ⟨m, h1⟩ := findNow_read id readTab 0 0 f hm (by decide) (by
    intro x hx e
    subst e
    simp only [readTab, List.mem_cons, List.not_mem_nil, or_false, Prod.ext_iff] at hm hx
    omega)
  simp only [Instr.lookup, Sem.run_bind, run_underlying Tryz.underlying127, Result.andThen, hg, checkKey_int', Instr.findKey, run_underlying Tryz.underlying3, run_pure', h1]
  rfl
end Go.Proofs.YtngmipfobcaojaaGreat.HA
end

-- YtngmipfobcaojaaGreatHA30
section
namespace Go.Proofs.YtngmipfobcaojaaGreat.HA
open Go.RowKit Go.Proofs.YtngmipfobcaojaaGreatW.PrintWords Go.Proofs.YtngmipfobcaojaaGreatW.PrintLast Go.Proofs.YtngmipfobcaojaaGreatW.PrintMore
attribute [local go_sem] q1k q1j q1s q1t q1a q19 q1h q1i

def varint_may.f (a0 : Int) : Option (Bool) := if a0 ≥ 0 then (some (decide (a0 ≤ 268435455))) else (some false)
theorem z52_0 {p : Prop} (h : p := by first | rfl | (simp; done) | (simp [*]; done) | (simp; exact qh _) | exact qh _ | (simp; exact (qh _).symm) | (simp; exact q15 _)) : p := h
set_option maxHeartbeats 8000000 in
set_option maxRecDepth 100000 in
theorem varint_may.calls (a0 : Int) (r : Bool) (w : World) (h : varint_may.f a0 = some r) :
  Calls Tryz.prog 103 #[.int .i64 a0] w fun e w' => e = .returned (.bool r) ∧ Drawn0 w w' := by
 have H : (if a0 ≥ 0 then (some (decide (a0 ≤ 268435455))) else (some false)) = some r := h
 clear h
 by_cases c2 : a0 ≥ 0
 ·rw [if_pos c2] at H
  have c2b0 : decide (0 ≤ a0) = true := decide_eq_true c2
  clear c2
  obtain rfl := Option.some.inj H
  go_enter Tryz.func103, Tryz.ntmps103
  go_wp2
  go_ret
  exact ⟨z52_0, (by repeat (first | exact Drawn0.refl _ | apply Drawn0.step))⟩
 rw [if_neg c2] at H
 have c2b0 : decide (0 ≤ a0) = false := decide_eq_false c2
 clear c2
 obtain rfl := Option.some.inj H
 go_enter Tryz.func103, Tryz.ntmps103
 go_wp2
 go_ret
 exact ⟨z52_0, (by repeat (first | exact Drawn0.refl _ | apply Drawn0.step))⟩

end Go.Proofs.YtngmipfobcaojaaGreat.HA
end

-- YtngmipfobcaojaaGreatHA31
section
namespace Go.Proofs.YtngmipfobcaojaaGreat.HA
open Go.RowKit Go.Proofs.YtngmipfobcaojaaGreatW.PrintWords Go.Proofs.YtngmipfobcaojaaGreatW.PrintLast Go.Proofs.YtngmipfobcaojaaGreatW.PrintMore
attribute [local go_sem] q1k q1j q1s q1t q1a q19 q1h q1i

def varint_Bytes.l0 : Nat → Int → List Int → Option (ByteArray × Int)
 | 0, _, _ => none
 | k + 1, x0, x4 => if x0 ≥ 128 then (if x4.length < 140737488355328 then (varint_Bytes.l0 k (wrap64 (Int.tdiv x0 128)) (x4 ++ [Go.bits .or .u8 ((Int.tmod x0 128) % 256) 128])) else (none)) else (if x4.length < 140737488355328 then (some (strOfNums (x4 ++ [(x0) % 256]), 0)) else (none))
def varint_Bytes.f (k : Nat) (a0 : Int) : Option (ByteArray × Int) := (varint_may.f a0).bind fun t119 => (if t119 = true then (varint_Bytes.l0 k a0 ([] : List Int)) else (some ((⟨#[]⟩ : ByteArray), 2)))
theorem z53_0 {p : Prop} (h : p := by repeat (first | (with_reducible first | exact HB.out | apply qg | apply qa | apply qi) | exact HB.out)) : p := h
theorem z53_1 {p : Prop} (h : p := by (try simp only [List.map_toArray, List.map_cons, List.map_nil]); first | done | rfl | (simp only [List.length_drop, List.length_take]; rfl)) : p := h
theorem z53_2 {p : Prop} (h : p := by first | rfl | (simp; done) | (simp [*]; done) | (simp; exact qh _) | exact qh _ | (simp; exact (qh _).symm) | (simp; exact q15 _)) : p := h
theorem z53_3 {p : Prop} (h : p := by (with_reducible repeat (first | apply Kd.R_alloc | apply Kd.R_drewN | apply Kd.R_drew)); exact HO_4.out) : p := h
set_option maxHeartbeats 8000000 in
set_option maxRecDepth 100000 in
theorem varint_Bytes.calls (k : Nat) (a0 : Int) (r1 : ByteArray) (r2 : Int) (w : World) (h : varint_Bytes.f k a0 = some (r1, r2)) :
  Calls Tryz.prog 50 #[.int .i64 a0] w fun e w' => e = .returned (.tuple #[.string r1, .int .i64 r2]) ∧ Below w.heap.size w w' := by
 have HB := Aside0.mk (Below.refl w.heap.size w)
 have H : ((varint_may.f a0).bind fun t119 => (if t119 = true then (varint_Bytes.l0 k a0 ([] : List Int)) else (some ((⟨#[]⟩ : ByteArray), 2)))) = some (r1, r2) := h
 clear h
 replace H := Option.bind_eq_some_iff.mp H
 obtain ⟨t119, A20, H⟩ := H
 replace H : (if t119 = true then (varint_Bytes.l0 k a0 ([] : List Int)) else (some ((⟨#[]⟩ : ByteArray), 2))) = some (r1, r2) := H
 have A2 := Aside0.mk A20
 clear A20
 by_cases c3 : t119 = true
 ·subst c3
  rw [if_pos rfl] at H
  have H' := Aside0.mk H
  clear H
  go_enter Tryz.func50, Tryz.ntmps50
  go_wp2_with (first | ((with_reducible refine ql (f := 103) rfl ?_); refine q1b (some 6) rfl rfl Tryz.func103 (by kernel_rfl) rfl #[.int .i64 a0] rfl z53_1 ?_; (with_reducible refine (varint_may.calls a0 true _ A2.out).mono ?_); rintro e w' ⟨rfl, ⟨nd, rfl⟩⟩; refine ⟨_, rfl, ?_⟩))
  go_loopg [0, 4] k (fun kq v0 v4 w' => ∃ (x0_1 : Int) (x4_1 : List Int), v0 = .int .i64 x0_1 ∧ Aside0 (varint_Bytes.l0 kq x0_1 x4_1 = some (r1, r2)) ∧ Aside0 (kq ≤ k) ∧ Aside0 (Kd.R (Kd.int .u8) 5 w' w.heap.size (fun _ => True) v4 x4_1) ∧ Aside0 (Below w.heap.size w w'))
  case atStart => exact ⟨(a0), (([] : List Int)), z53_2, H', ⟨Nat.le_refl _⟩, ⟨(by first | exact Kd.R_nil _ _ _ _ _ | exact Kd.N_nil _ _ _ _ _ | exact Kd.V_nil _ _ _ _ _ | exact Kd.Q_nil _ _ _ _ _ | exact Kd.S_nil _ _ _ _ _)⟩, ⟨z53_0⟩⟩
  case round =>
   clear H'
   obtain ⟨x0_1, x4_1, rfl, HA, HK1, HO_4, HB⟩ := hrel
   cases gk with
   | zero => exact absurd HA.out (by simp [varint_Bytes.l0])
   | succ k1 =>
    have H := HA.out
    clear HA
    simp only [varint_Bytes.l0] at H
    by_cases c4 : x0_1 ≥ 128
    ·rw [if_pos c4] at H
     have c4b0 : decide (128 ≤ x0_1) = true := decide_eq_true c4
     clear c4
     by_cases c5 : x4_1.length < 140737488355328
     ·rw [if_pos c5] at H
      have LMc5 := Aside0.mk c5
      clear c5
      obtain ⟨y120, hy120⟩ : ∃ y_ : List Int, y_ = (x4_1 ++ [Go.bits .or .u8 ((Int.tmod x0_1 128) % 256) 128]) := ⟨_, rfl⟩
      replace H : (varint_Bytes.l0 k1 (wrap64 (Int.tdiv x0_1 128)) y120) = some (r1, r2) := by first | (rw [hy120]; with_reducible exact H) | (have H2_ := (Option.bind_some _ _).symm.trans H; rw [hy120]; with_reducible exact H2_) | (have H2_ := (Option.bind_some _ _).symm.trans H; with_reducible exact H2_) | with_reducible exact H | (rw [hy120]; exact H) | exact H
      have Ny120 := Aside0.mk hy120
      clear hy120
      have H' := Aside0.mk H
      clear H
      go_wp2_with (first | ((with_reducible refine gate_builtin (b := .append) (xs := #[.tmp 12, .tmp 17]) rfl ?_); at_builtin; refine Kd.R_append (Kd.int .u8) (w0 := w) w.heap.size rfl (.tmp 12) (.tmp 17) 65 5 (.int .u8 0) 1 rfl Tryz.underlying65 info5 rfl (by decide) (by omega) u4 x4_1 (Go.bits .or .u8 ((Int.tmod x0_1 128) % 256) 128) [.int .u8 (Go.bits .or .u8 ((Int.tmod x0_1 128) % 256) 128)] (fun _ => True) (fun _ => False) rfl rfl ?aP (fun _ hk => hk.elim) ?aF ?aO ?aB ?aS ?aL ?_; (case aP => exact rfl); (case aB => exact z53_0); (case aF => exact (fun _ _ => trivial)); (case aO => exact z53_3); (case aS => exact (qm z53_0)); (case aL => have := LMc5.out; omega); intro v121 w6 ho hb hg hat; rw [← Ny120.out] at ho; have n0_ := Aside0.mk (hb); have n1_ := Aside0.mk (ho); clear HB; clear HO_4; have HB := n0_; have HO122 := n1_; clear n0_ n1_; clear ho hb hg hat))
      go_roundg k1
      case measure => have := HK1.out; omega
      case rel => exact ⟨(wrap64 (Int.tdiv x0_1 128)), (y120), z53_2, H', ⟨by have := HK1.out; omega⟩, ⟨by (with_reducible repeat (first | apply Kd.R_alloc | apply Kd.R_drewN | apply Kd.R_drew)); exact HO122.out⟩, ⟨by repeat (first | (with_reducible first | exact HB.out | apply qg | apply qa | apply qi) | exact HB.out)⟩⟩
     rw [if_neg c5] at H
     exact absurd H (by simp)
    rw [if_neg c4] at H
    have c4b0 : decide (128 ≤ x0_1) = false := decide_eq_false c4
    clear c4
    by_cases c7 : x4_1.length < 140737488355328
    ·rw [if_pos c7] at H
     have LMc7 := Aside0.mk c7
     clear c7
     obtain ⟨y123, hy123⟩ : ∃ y_ : List Int, y_ = (x4_1 ++ [(x0_1) % 256]) := ⟨_, rfl⟩
     replace H : (some (strOfNums y123, 0)) = some (r1, r2) := by first | (rw [hy123]; with_reducible exact H) | (have H2_ := (Option.bind_some _ _).symm.trans H; rw [hy123]; with_reducible exact H2_) | (have H2_ := (Option.bind_some _ _).symm.trans H; with_reducible exact H2_) | with_reducible exact H | (rw [hy123]; exact H) | exact H
     have Ny123 := Aside0.mk hy123
     clear hy123
     simp only [Option.some.injEq, Prod.mk.injEq] at H
     obtain ⟨rfl, rfl⟩ := H
     go_wp2_with (first | ((with_reducible refine gate_builtin (b := .append) (xs := #[.tmp 19, .tmp 22]) rfl ?_); at_builtin; refine Kd.R_append (Kd.int .u8) (w0 := w) w.heap.size rfl (.tmp 19) (.tmp 22) 65 5 (.int .u8 0) 1 rfl Tryz.underlying65 info5 rfl (by decide) (by omega) u4 x4_1 ((x0_1) % 256) [.int .u8 ((x0_1) % 256)] (fun _ => True) (fun _ => False) rfl rfl ?aP (fun _ hk => hk.elim) ?aF ?aO ?aB ?aS ?aL ?_; (case aP => exact rfl); (case aB => exact z53_0); (case aF => exact (fun _ _ => trivial)); (case aO => exact z53_3); (case aS => exact (qm z53_0)); (case aL => have := LMc7.out; omega); intro v124 w8 ho hb hg hat; rw [← Ny123.out] at ho; have n0_ := Aside0.mk (hb); have n1_ := Aside0.mk (ho); clear HB; clear HO_4; have HB := n0_; have HO125 := n1_; clear n0_ n1_; clear ho hb hg hat; have hcv9 := own_string (P := Tryz.prog) Tryz.underlying65 Tryz.underlying5 Tryz.underlying9 (Kd.own_of_R HO125.out)))
     go_ret2
     exact ⟨(by first | rfl | (simp [qq, qp] <;> rfl) | (simp [*, qq, qp] <;> rfl)), z53_0⟩
    rw [if_neg c7] at H
    exact absurd H (by simp)
 replace c3 := Bool.eq_false_iff.mpr c3
 subst c3
 rw [if_neg (show ¬ (false = true) by decide)] at H
 simp only [Option.some.injEq, Prod.mk.injEq] at H
 obtain ⟨rfl, rfl⟩ := H
 go_enter Tryz.func50, Tryz.ntmps50
 go_wp2_with (first | ((with_reducible refine ql (f := 103) rfl ?_); refine q1b (some 6) rfl rfl Tryz.func103 (by kernel_rfl) rfl #[.int .i64 a0] rfl z53_1 ?_; (with_reducible refine (varint_may.calls a0 false _ A2.out).mono ?_); rintro e w' ⟨rfl, ⟨nd, rfl⟩⟩; refine ⟨_, rfl, ?_⟩))
 go_ret2
 exact ⟨(by first | rfl | (simp [qq, qp] <;> rfl) | (simp [*, qq, qp] <;> rfl)), z53_0⟩

end Go.Proofs.YtngmipfobcaojaaGreat.HA
end

-- YtngmipfobcaojaaGreatHA32
section
namespace Go.Proofs.YtngmipfobcaojaaGreat.HA
open Go.RowKit Go.Proofs.YtngmipfobcaojaaGreatW.PrintWords Go.Proofs.YtngmipfobcaojaaGreatW.PrintLast Go.Proofs.YtngmipfobcaojaaGreatW.PrintMore
attribute [local go_sem] q1k q1j q1s q1t q1a q19 q1h q1i

def octet_Put.l0 : Nat → Int → Int → List Int → Int → Int → Option (ByteArray)
 | 0, _, _, _, _, _ => none
 | k + 1, x0, x1, x5, x13, x14 => if x14 < x13 then (if x14 < 8 then (if 0 ≤ (IntKind.u64.wrap (wrap64 (8 * x14))) then (if 0 ≤ (wrap64 ((wrap64 (x1 - 1)) - x14)) then (if (wrap64 ((wrap64 (x1 - 1)) - x14)) < (x5.length : Int) then (octet_Put.l0 k x0 x1 (x5.set ((wrap64 ((wrap64 (x1 - 1)) - x14)) : Int).toNat ((shr .u64 x0 (IntKind.u64.wrap (wrap64 (8 * x14)))) % 256)) x13 (wrap64 (x14 + 1))) else (none)) else (none)) else (none)) else (octet_Put.l0 k x0 x1 x5 x13 (wrap64 (x14 + 1)))) else (some (strOfNums x5))
def octet_Put.f (k : Nat) (a0 : Int) (a1 : Int) : Option (ByteArray) := if a1 ≤ 0 then (some (⟨#[]⟩ : ByteArray)) else (if 0 ≤ (mn a1 16) then (if (mn a1 16 : Int).toNat ≤ 281474976710656 then (octet_Put.l0 k a0 (mn a1 16) (List.replicate (mn a1 16 : Int).toNat 0) (mn a1 16) 0) else (none)) else (none))
theorem z54_0 {p : Prop} (h : p := by repeat (first | (with_reducible first | exact HB.out | apply qg | apply qa | apply qi) | exact HB.out)) : p := h
theorem z54_1 {p : Prop} (h : p := by first | (with_reducible assumption) | assumption) : p := h
theorem z54_2 {p : Prop} (h : p := by first | rfl | (simp; done) | (simp [*]; done) | (simp; exact qh _) | exact qh _ | (simp; exact (qh _).symm) | (simp; exact q15 _)) : p := h
set_option maxHeartbeats 8000000 in
set_option maxRecDepth 100000 in
theorem octet_Put.calls (k : Nat) (a0 : Int) (a1 : Int) (r : ByteArray) (w : World) (h : octet_Put.f k a0 a1 = some r) :
  Calls Tryz.prog 65 #[.int .u64 a0, .int .i64 a1] w fun e w' => e = .returned (.string r) ∧ Below w.heap.size w w' := by
 have HB := Aside0.mk (Below.refl w.heap.size w)
 have H : (if a1 ≤ 0 then (some (⟨#[]⟩ : ByteArray)) else (if 0 ≤ (mn a1 16) then (if (mn a1 16 : Int).toNat ≤ 281474976710656 then (octet_Put.l0 k a0 (mn a1 16) (List.replicate (mn a1 16 : Int).toNat 0) (mn a1 16) 0) else (none)) else (none))) = some r := h
 clear h
 by_cases c3 : a1 ≤ 0
 ·rw [if_pos c3] at H
  have c3b0 : decide (a1 ≤ 0) = true := decide_eq_true c3
  clear c3
  obtain rfl := Option.some.inj H
  go_enter Tryz.func65, Tryz.ntmps65
  go_wp2
  go_ret
  exact ⟨(by first | rfl | (simp [qq, qp] <;> rfl) | (simp [*, qq, qp] <;> rfl)), z54_0⟩
 rw [if_neg c3] at H
 have c3b0 : decide (a1 ≤ 0) = false := decide_eq_false c3
 clear c3
 obtain ⟨ji4, hji4⟩ : ∃ j_ : Int, (mn a1 16) = j_ := ⟨_, rfl⟩
 replace H : (if 0 ≤ (ji4) then (if (ji4 : Int).toNat ≤ 281474976710656 then (octet_Put.l0 k a0 ji4 (List.replicate (ji4 : Int).toNat 0) ji4 0) else (none)) else (none)) = some r := by first | (rw [hji4] at H; exact H) | (simp only [hji4] at H ⊢; exact H)
 (try (have hji4h : ji4 ≤ 16 := by (rw [← hji4]; unfold mn; (repeat' split) <;> omega)))
 (try (have hji4g : ji4 ≤ 64 := by omega))
 have hji4_ : (if 16 < a1 then 16 else a1) = ji4 := hji4
 by_cases c5 : 0 ≤ (ji4)
 ·rw [if_pos c5] at H
  have c5b0 := eq_true c5
  have c5b1 : decide (0 ≤ (ji4)) = true := decide_eq_true c5
  clear c5
  by_cases c6 : (ji4 : Int).toNat ≤ 281474976710656
  ·rw [if_pos c6] at H
   have c6b0 := eq_true c6
   have c6b1 : decide ((ji4 : Int).toNat ≤ 281474976710656) = true := decide_eq_true c6
   clear c6
   obtain ⟨y126, hy126⟩ : ∃ y_ : List Int, y_ = (List.replicate (ji4 : Int).toNat 0) := ⟨_, rfl⟩
   replace H : (octet_Put.l0 k a0 ji4 y126 ji4 0) = some r := by first | (rw [hy126]; with_reducible exact H) | (have H2_ := (Option.bind_some _ _).symm.trans H; rw [hy126]; with_reducible exact H2_) | (have H2_ := (Option.bind_some _ _).symm.trans H; with_reducible exact H2_) | with_reducible exact H | (rw [hy126]; exact H) | exact H
   have Ny126 := Aside0.mk hy126
   clear hy126
   have H' := Aside0.mk H
   clear H
   go_enter Tryz.func65, Tryz.ntmps65
   go_wp2_with (first | ((with_reducible refine q1c (N := 12) rfl ?_); refine Kd.R_make (Kd.int .u8) _ 5 rfl (N := 12) rfl 65 _ _ rfl ji4 rfl rfl Tryz.underlying65 (.int .u8 0) 1 info5 rfl (by decide) (by omega) 0 (ok := fun _ => True) (okp := fun _ => True) rfl (fun _ hk => hk) trivial (of_decide_eq_true z54_1) (Nat.le_trans (Nat.mul_le_mul_right _ (of_decide_eq_true z54_1 : ji4.toNat ≤ 281474976710656)) (by omega)) (Below.refl _ _) (Nat.le_refl _) ?_; intro v127 w7 ho8 hb hg_ hnew_; clear hg_ hnew_; (first | rw [← Ny126.out] at ho8 | (simp only [Int.reduceToNat] at ho8; rw [← Ny126.out] at ho8)); have n0_ := Aside0.mk (Kd.R_lower ho8 (qm z54_0)); have n1_ := Aside0.mk (qe z54_0 hb); clear HB; have HO128 := n0_; have HB := n1_; clear n0_ n1_; clear hb ho8))
   go_loopg [14] k (fun kq v14 w' => ∃ (x5_1 : List Int) (x14_1 : Int), v14 = .int .i64 x14_1 ∧ Aside0 (octet_Put.l0 kq a0 ji4 x5_1 ji4 x14_1 = some r) ∧ Aside0 (kq ≤ k) ∧ Aside0 (Kd.R (Kd.int .u8) 5 w' w.heap.size (fun _ => True) v127 x5_1) ∧ Aside0 (Below w.heap.size w w'))
   case atStart => exact ⟨(y126), (0), z54_2, H', ⟨Nat.le_refl _⟩, ⟨(by (with_reducible repeat (first | apply Kd.R_alloc | apply Kd.R_drewN | apply Kd.R_drew)); exact HO128.out)⟩, ⟨z54_0⟩⟩
   case round =>
    clear H'
    clear c3b0 c5b0 c5b1 c6b0 c6b1
    obtain ⟨x5_1, x14_1, rfl, HA, HK1, HO_5, HB⟩ := hrel
    cases gk with
    | zero => exact absurd HA.out (by simp [octet_Put.l0])
    | succ k1 =>
     have H := HA.out
     clear HA
     simp only [octet_Put.l0] at H
     by_cases c9 : x14_1 < ji4
     ·rw [if_pos c9] at H
      have c9b0 : decide (x14_1 < ji4) = true := decide_eq_true c9
      clear c9
      by_cases c10 : x14_1 < 8
      ·rw [if_pos c10] at H
       have c10b0 : decide (x14_1 < 8) = true := decide_eq_true c10
       clear c10
       obtain ⟨ji11, hji11⟩ : ∃ j_ : Int, (IntKind.u64.wrap (wrap64 (8 * x14_1))) = j_ := ⟨_, rfl⟩
       replace H : (if 0 ≤ (ji11) then (if 0 ≤ (wrap64 ((wrap64 (ji4 - 1)) - x14_1)) then (if (wrap64 ((wrap64 (ji4 - 1)) - x14_1)) < (x5_1.length : Int) then (octet_Put.l0 k1 a0 ji4 (x5_1.set ((wrap64 ((wrap64 (ji4 - 1)) - x14_1)) : Int).toNat ((shr .u64 a0 (ji11)) % 256)) ji4 (wrap64 (x14_1 + 1))) else (none)) else (none)) else (none)) = some r := by first | (rw [hji11] at H; exact H) | (simp only [hji11] at H ⊢; exact H)
       by_cases c12 : 0 ≤ (ji11)
       ·rw [if_pos c12] at H
        have c12b0 := eq_true c12
        have c12b1 : decide (0 ≤ (ji11)) = true := decide_eq_true c12
        clear c12
        obtain ⟨ji13, hji13⟩ : ∃ j_ : Int, (shr .u64 a0 (ji11)) = j_ := ⟨_, rfl⟩
        replace H : (if 0 ≤ (wrap64 ((wrap64 (ji4 - 1)) - x14_1)) then (if (wrap64 ((wrap64 (ji4 - 1)) - x14_1)) < (x5_1.length : Int) then (octet_Put.l0 k1 a0 ji4 (x5_1.set ((wrap64 ((wrap64 (ji4 - 1)) - x14_1)) : Int).toNat ((ji13) % 256)) ji4 (wrap64 (x14_1 + 1))) else (none)) else (none)) = some r := by first | (rw [hji13] at H; exact H) | (simp only [hji13] at H ⊢; exact H)
        have hji13_ : (a0 / 2 ^ min (ji11).toNat 64) = ji13 := hji13
        have hji13z : (ji11) ≤ 64 → (a0 / 2 ^ (ji11).toNat) = ji13 := shr_small hji13
        obtain ⟨ji14, hji14⟩ : ∃ j_ : Int, (wrap64 ((wrap64 (ji4 - 1)) - x14_1)) = j_ := ⟨_, rfl⟩
        replace H : (if 0 ≤ (ji14) then (if (ji14) < (x5_1.length : Int) then (octet_Put.l0 k1 a0 ji4 (x5_1.set ((ji14) : Int).toNat ((ji13) % 256)) ji4 (wrap64 (x14_1 + 1))) else (none)) else (none)) = some r := by first | (rw [hji14] at H; exact H) | (simp only [hji14] at H ⊢; exact H)
        have hji14w : (IntKind.i64.wrap ((wrap64 (ji4 - 1)) - x14_1)) = ji14 := (i64_w _).trans hji14
        by_cases c15 : 0 ≤ (ji14)
        ·rw [if_pos c15] at H
         have c15b0 : decide (0 ≤ (ji14)) = true := decide_eq_true c15
         clear c15
         by_cases c16 : (ji14) < (x5_1.length : Int)
         ·rw [if_pos c16] at H
          have c16b0 : decide ((ji14) < (x5_1.length : Int)) = true := decide_eq_true c16
          clear c16
          obtain ⟨y129, hy129⟩ : ∃ y_ : List Int, y_ = (x5_1.set ((ji14) : Int).toNat ((ji13) % 256)) := ⟨_, rfl⟩
          replace H : (octet_Put.l0 k1 a0 ji4 y129 ji4 (wrap64 (x14_1 + 1))) = some r := by first | (rw [hy129]; with_reducible exact H) | (have H2_ := (Option.bind_some _ _).symm.trans H; rw [hy129]; with_reducible exact H2_) | (have H2_ := (Option.bind_some _ _).symm.trans H; with_reducible exact H2_) | with_reducible exact H | (rw [hy129]; exact H) | exact H
          have Ny129 := Aside0.mk hy129
          clear hy129
          have H' := Aside0.mk H
          clear H
          have p17 : 0 ≤ ((ji14) : Int) := of_decide_eq_true z54_1
          have q17 : ((ji14) : Int) < ((x5_1.length : Int) : Int) := of_decide_eq_true z54_1
          obtain ⟨go17, co17, eo17, gb17, gl17, cl17, HG17⟩ := Kd.R_form HO_5.out (by omega)
          (first | cases eo17 | (injection eo17 with ea_ en_ ec_; (first | subst ea_ | (injection ea_ with ea_; subst ea_)); subst ec_; clear en_))
          have GB17 := Aside0.mk gb17
          have GG17 := Aside0.mk HG17
          clear gb17 gl17 HG17
          obtain ⟨hx17_0, hf17_0⟩ := Kd.R_celln 0 HO_5.out ((ji14) : Int) p17 q17
          replace p17 := eq_true p17
          replace q17 := eq_true q17
          have HP18 := Kd.R_putg HO_5.out ((ji14) : Int) ((ji13) % 256)
          go_wp2_with (first | ((with_reducible refine gate_store (t := 5) (p := 30) rfl ?_); refine store_event (t := 5) (p := 30) (v := ?vo_w19) (w1 := (wr.setCell ⟨go17, ((ji14) : Int).toNat, none⟩ (.int .u8 ((ji13) % 256)))) ?hg ?ho ?hn ?hr ?_; (case ho => rfl); (case hg => rfl); (case hn => rfl); (case hr => first | (go_simp; done) | (go_simp; rfl)); intro w19 hw; have hg : wr.grownBy w19 (some go17) := (by rw [hw]; exact HP18.2); have hp_ : Kd.R (Kd.int .u8) 5 w19 w.heap.size (fun _ => True) (.slice (some ⟨go17, 0, none⟩) x5_1.length co17) y129 := (by rw [hw, Ny129.out]; exact HP18.1); clear HP18; have n0_ := Aside0.mk (hp_); have n1_ := Aside0.mk ((by rw [hw]; exact qw (HB.out) GB17.out : Below w.heap.size w w19)); clear HO_5; clear HB; have HO_5 := n0_; have HB := n1_; clear n0_ n1_; clear hg hw hp_))
          go_roundg k1
          case measure => have := HK1.out; omega
          case rel => exact ⟨(y129), (wrap64 (x14_1 + 1)), z54_2, H', ⟨by have := HK1.out; omega⟩, ⟨by (with_reducible repeat (first | apply Kd.R_alloc | apply Kd.R_drewN | apply Kd.R_drew)); exact HO_5.out⟩, ⟨by repeat (first | (with_reducible first | exact HB.out | apply qg | apply qa | apply qi) | exact HB.out)⟩⟩
         rw [if_neg c16] at H
         exact absurd H (by simp)
        rw [if_neg c15] at H
        exact absurd H (by simp)
       rw [if_neg c12] at H
       exact absurd H (by simp)
      rw [if_neg c10] at H
      have c10b0 : decide (x14_1 < 8) = false := decide_eq_false c10
      clear c10
      have H' := Aside0.mk H
      clear H
      go_wp2
      go_roundg k1
      case measure => have := HK1.out; omega
      case rel => exact ⟨(x5_1), (wrap64 (x14_1 + 1)), z54_2, H', ⟨by have := HK1.out; omega⟩, ⟨by (with_reducible repeat (first | apply Kd.R_alloc | apply Kd.R_drewN | apply Kd.R_drew)); exact HO_5.out⟩, ⟨by repeat (first | (with_reducible first | exact HB.out | apply qg | apply qa | apply qi) | exact HB.out)⟩⟩
     rw [if_neg c9] at H
     have c9b0 : decide (x14_1 < ji4) = false := decide_eq_false c9
     clear c9
     obtain rfl := Option.some.inj H
     have hcv20 := own_string (P := Tryz.prog) Tryz.underlying65 Tryz.underlying5 Tryz.underlying9 (Kd.own_of_R HO_5.out)
     go_wp2
     go_ret
     exact ⟨(by first | rfl | (simp [qq, qp] <;> rfl) | (simp only [← hji4]; first | rfl | (simp [qq, qp] <;> rfl)) | (simp [*, qq, qp] <;> rfl)), z54_0⟩
  rw [if_neg c6] at H
  exact absurd H (by simp)
 rw [if_neg c5] at H
 exact absurd H (by simp)

end Go.Proofs.YtngmipfobcaojaaGreat.HA
end

-- YtngmipfobcaojaaGreatHA33
section
namespace Go.Proofs.YtngmipfobcaojaaGreat.HA
open Go.RowKit Go.Proofs.YtngmipfobcaojaaGreatW.PrintWords Go.Proofs.YtngmipfobcaojaaGreatW.PrintLast Go.Proofs.YtngmipfobcaojaaGreatW.PrintMore
attribute [local go_sem] q1k q1j q1s q1t q1a q19 q1h q1i

def ustring_framed.f (k : Nat) (a0 : ByteArray) : Option (ByteArray) := if a0.size ≤ 9223372036854775807 then ((octet_Put.f k (a0.size : Int) 2).bind fun t130 => (if t130.size + a0.size ≤ 9223372036854775807 then (some (t130 ++ a0)) else (none))) else (none)
theorem z55_0 {p : Prop} (h : p := by repeat (first | (with_reducible first | exact HB.out | apply qg | apply qa | apply qi) | exact HB.out)) : p := h
set_option maxHeartbeats 8000000 in
set_option maxRecDepth 100000 in
theorem ustring_framed.calls (k : Nat) (a0 : ByteArray) (r : ByteArray) (w : World) (h : ustring_framed.f k a0 = some r) :
  Calls Tryz.prog 121 #[.string a0] w fun e w' => e = .returned (.string r) ∧ Below w.heap.size w w' := by
 have HB := Aside0.mk (Below.refl w.heap.size w)
 have H : (if a0.size ≤ 9223372036854775807 then ((octet_Put.f k (a0.size : Int) 2).bind fun t130 => (if t130.size + a0.size ≤ 9223372036854775807 then (some (t130 ++ a0)) else (none))) else (none)) = some r := h
 clear h
 by_cases c2 : a0.size ≤ 9223372036854775807
 ·rw [if_pos c2] at H
  have c2b0 := eq_true c2
  have c2b1 : decide (a0.size ≤ 9223372036854775807) = true := decide_eq_true c2
  try have c2b2 : (9223372036854775807 < a0.size) = False := eq_false (Nat.not_lt.2 c2)
  clear c2
  replace H := Option.bind_eq_some_iff.mp H
  obtain ⟨t130, A30, H⟩ := H
  replace H : (if t130.size + a0.size ≤ 9223372036854775807 then (some (t130 ++ a0)) else (none)) = some r := H
  have A3 := Aside0.mk A30
  clear A30
  by_cases c4 : t130.size + a0.size ≤ 9223372036854775807
  ·rw [if_pos c4] at H
   have c4b0 := eq_true c4
   have c4b1 : decide (t130.size + a0.size ≤ 9223372036854775807) = true := decide_eq_true c4
   try have c4b2 : (9223372036854775807 < t130.size + a0.size) = False := eq_false (Nat.not_lt.2 c4)
   obtain rfl := Option.some.inj H
   go_enter Tryz.func121, Tryz.ntmps121
   go_wp2_with (first | ((with_reducible refine ql (f := 65) rfl ?_); refine q1b (some 6) rfl rfl Tryz.func65 (by kernel_rfl) rfl #[.int .u64 (a0.size : Int), .int .i64 2] rfl (by (try simp only [List.map_toArray, List.map_cons, List.map_nil]); first | done | rfl | (simp only [List.length_drop, List.length_take]; rfl)) ?_; (with_reducible refine (octet_Put.calls k (a0.size : Int) 2 t130 _ A3.out).mono ?_); rintro e w5 ⟨rfl, hb⟩; refine ⟨_, rfl, ?_⟩; have n0_ := Aside0.mk (qe z55_0 hb); clear HB; have HB := n0_; clear n0_; (try clear hb); (try clear hb2); (try clear hk); (try clear hi)))
   go_ret
   exact ⟨(by first | rfl | (simp [qq, qp] <;> rfl) | (simp [*, qq, qp] <;> rfl)), z55_0⟩
  rw [if_neg c4] at H
  exact absurd H (by simp)
 rw [if_neg c2] at H
 exact absurd H (by simp)

end Go.Proofs.YtngmipfobcaojaaGreat.HA
end

-- YtngmipfobcaojaaGreatHA34
section
namespace Go.Proofs.YtngmipfobcaojaaGreat.HA
open Go.RowKit Go.Proofs.YtngmipfobcaojaaGreatW.PrintWords Go.Proofs.YtngmipfobcaojaaGreatW.PrintLast Go.Proofs.YtngmipfobcaojaaGreatW.PrintMore
attribute [local go_sem] q1k q1j q1s q1t q1a q19 q1h q1i

def ustring_Binary.f (k : Nat) (a0 : ByteArray) : Option (ByteArray × Int) := if (a0.size : Int) > 65535 then (some ((⟨#[]⟩ : ByteArray), 2)) else ((ustring_framed.f k a0).bind fun t131 => (some (t131, 0)))
theorem z56_0 {p : Prop} (h : p := by repeat (first | (with_reducible first | exact HB.out | apply qg | apply qa | apply qi) | exact HB.out)) : p := h
set_option maxHeartbeats 8000000 in
set_option maxRecDepth 100000 in
theorem ustring_Binary.calls (k : Nat) (a0 : ByteArray) (r1 : ByteArray) (r2 : Int) (w : World) (h : ustring_Binary.f k a0 = some (r1, r2)) :
  Calls Tryz.prog 102 #[.string a0] w fun e w' => e = .returned (.tuple #[.string r1, .int .i64 r2]) ∧ Below w.heap.size w w' := by
 have HB := Aside0.mk (Below.refl w.heap.size w)
 have H : (if (a0.size : Int) > 65535 then (some ((⟨#[]⟩ : ByteArray), 2)) else ((ustring_framed.f k a0).bind fun t131 => (some (t131, 0)))) = some (r1, r2) := h
 clear h
 by_cases c2 : (a0.size : Int) > 65535
 ·rw [if_pos c2] at H
  have c2b0 : decide (65535 < (a0.size : Int)) = true := decide_eq_true c2
  have c2b1 : decide (65535 < a0.size) = true := decide_eq_true (by omega)
  clear c2
  simp only [Option.some.injEq, Prod.mk.injEq] at H
  obtain ⟨rfl, rfl⟩ := H
  go_enter Tryz.func102, Tryz.ntmps102
  go_wp2
  go_ret2
  exact ⟨(by first | rfl | (simp [qq, qp] <;> rfl) | (simp [*, qq, qp] <;> rfl)), z56_0⟩
 rw [if_neg c2] at H
 have c2b0 : decide (65535 < (a0.size : Int)) = false := decide_eq_false c2
 have c2b1 : decide (65535 < a0.size) = false := decide_eq_false (by omega)
 clear c2
 replace H := Option.bind_eq_some_iff.mp H
 obtain ⟨t131, A30, H⟩ := H
 replace H : (some (t131, 0)) = some (r1, r2) := H
 have A3 := Aside0.mk A30
 clear A30
 simp only [Option.some.injEq, Prod.mk.injEq] at H
 obtain ⟨rfl, rfl⟩ := H
 go_enter Tryz.func102, Tryz.ntmps102
 go_wp2_with (first | ((with_reducible refine ql (f := 121) rfl ?_); refine q1b (some 8) rfl rfl Tryz.func121 (by kernel_rfl) rfl #[.string a0] rfl (by (try simp only [List.map_toArray, List.map_cons, List.map_nil]); first | done | rfl | (simp only [List.length_drop, List.length_take]; rfl)) ?_; (with_reducible refine (ustring_framed.calls k a0 t131 _ A3.out).mono ?_); rintro e w4 ⟨rfl, hb⟩; refine ⟨_, rfl, ?_⟩; have n0_ := Aside0.mk (qe z56_0 hb); clear HB; have HB := n0_; clear n0_; (try clear hb); (try clear hb2); (try clear hk); (try clear hi)))
 go_ret2
 exact ⟨(by first | rfl | (simp [qq, qp] <;> rfl) | (simp [*, qq, qp] <;> rfl)), z56_0⟩

end Go.Proofs.YtngmipfobcaojaaGreat.HA
end

-- YtngmipfobcaojaaGreatHA35
section
namespace Go.Proofs.YtngmipfobcaojaaGreat.HA
open Go.RowKit Go.Proofs.YtngmipfobcaojaaGreatW.PrintWords Go.Proofs.YtngmipfobcaojaaGreatW.PrintLast Go.Proofs.YtngmipfobcaojaaGreatW.PrintMore
attribute [local go_sem] q1k q1j q1s q1t q1a q19 q1h q1i

def prop_value.j0 : Nat → Int → Int → Bool → Int → Int → ByteArray → ByteArray → Option (ByteArray)
 | 0, _, _, _, _, _, _, _ => none
 | k + 1, x0, x11, x12, x133000, x133001, x133002, x133003 => if x12 = true then ((octet_Put.f k (IntKind.u64.wrap (x133001)) x0).bind fun t133 => (some t133)) else (if x11 = 3 then ((octet_Put.f k (IntKind.u64.wrap (x133001)) 4).bind fun t134 => (some t134)) else (if x11 = 4 then ((varint_Bytes.f k (wrap64 (x133001))).bind fun bt135 => (some bt135.1)) else ((ustring_Binary.f k x133002).bind fun bt137 => (if x0 = 7 then ((ustring_Binary.f k x133003).bind fun bt139 => (if bt137.1.size + bt139.1.size ≤ 9223372036854775807 then (some (bt137.1 ++ bt139.1)) else (none))) else (some bt137.1)))))
def prop_value.f (k : Nat) (a0 : Int) (a1_0 : Int) (a1_1 : Int) (a1_2 : ByteArray) (a1_3 : ByteArray) : Option (ByteArray) := if a0 = 1 then (prop_value.j0 k a0 a0 (a0 == 1) a1_0 a1_1 a1_2 a1_3) else (prop_value.j0 k a0 a0 (a0 == 2) a1_0 a1_1 a1_2 a1_3)
theorem z57_0 {p : Prop} (h : p := by repeat (first | (with_reducible first | exact HB.out | apply qg | apply qa | apply qi | refine qw ?_ GE132.out) | exact HB.out)) : p := h
theorem z57_1 {p : Prop} (h : p := by (with_reducible repeat (first | refine qd ?_ _ | refine qf ?_ | refine qc ?_ _)); exact BK132.out) : p := h
theorem z57_2 {p : Prop} (h : p := by (try simp only [List.map_toArray, List.map_cons, List.map_nil]); first | done | rfl | (simp only [List.length_drop, List.length_take]; rfl)) : p := h
theorem z57_3 {p : Prop} (h : p := by first | rfl | (simp [qq, qp] <;> rfl) | (simp [*, qq, qp] <;> rfl)) : p := h
theorem z57_4 {p : Prop} (h : p := by repeat (first | (with_reducible first | exact HB.out | apply qg | apply qa | apply qi) | exact HB.out)) : p := h
theorem z57_5 {p : Prop} (h : p := by first | rfl | (simp; done) | (simp [*]; done) | (simp; exact qh _) | exact qh _ | (simp; exact (qh _).symm) | (simp; exact q15 _)) : p := h
set_option maxHeartbeats 8000000 in
set_option maxRecDepth 100000 in
theorem prop_value.calls (k : Nat) (a0 : Int) (a1_0 : Int) (a1_1 : Int) (a1_2 : ByteArray) (a1_3 : ByteArray) (r : ByteArray) (w : World) (h : prop_value.f k a0 a1_0 a1_1 a1_2 a1_3 = some r) :
  Calls Tryz.prog 48 #[.int .i64 a0, .agg #[.int .i64 a1_0, .int .u32 a1_1, .string a1_2, .string a1_3]] w fun e w' => e = .returned (.string r) ∧ Below w.heap.size w w' := by
 have hu24 := Tryz.underlying24
 have HB := Aside0.mk (Below.refl w.heap.size w)
 have H : (if a0 = 1 then (prop_value.j0 k a0 a0 (a0 == 1) a1_0 a1_1 a1_2 a1_3) else (prop_value.j0 k a0 a0 (a0 == 2) a1_0 a1_1 a1_2 a1_3)) = some r := h
 clear h
 have HC3 := Aside0.mk H
 clear H
 go_enter Tryz.func48, Tryz.ntmps48
 go_upto_if 12 with (first | ((with_reducible refine q1c (N := 3) rfl ?_); refine q1r ?hg (N := 3) ?hd (cs := #[.int .i64 a1_0, .int .u32 a1_1, .string a1_2, .string a1_3]) (t := 24) ?hr ?_; (case hd => rfl); (case hg => rfl); (case hr => first | (go_simp; done) | (go_simp; rfl)); intro gb132 hg w4 hbox hb; have n0_ := Aside0.mk (qe z57_4 hb); have n1_ := Aside0.mk (hbox); have n2_ := Aside0.mk ((by rw [hg]; exact (qm z57_4) : w.heap.size ≤ gb132)); have n3_ := Aside0.mk ((by rw [hg]; exact (qm z57_4) : w.heap.size ≤ gb132)); clear HB; have HB := n0_; have BK132 := n1_; have GW132 := n2_; have GE132 := n3_; clear n0_ n1_ n2_ n3_; clear hb hbox hg))
 (try simp only [Act.put, List.setIfInBounds_toArray, List.set_cons_zero, List.set_cons_succ])
 go_cut [12] (fun v12 wc => ∃ (kq : Nat) (x12_2 : Bool), v12 = .bool x12_2 ∧ Aside0 (prop_value.j0 kq a0 a0 x12_2 a1_0 a1_1 a1_2 a1_3 = some r) ∧ Aside0 (kq ≤ k) ∧ Aside0 (wc.heap[gb132]? = some (.cells #[.int .i64 a1_0, .int .u32 a1_1, .string a1_2, .string a1_3] 24 (0, 0))) ∧ Aside0 (Below w.heap.size w wc))
 case first =>
  have H := HC3.out
  clear HC3
  by_cases c5 : a0 = 1
  ·rw [if_pos c5] at H
   have c5b0 : (a0 == 1) = true := beq_iff_eq.mpr c5
   have c5b1 : (a0 != 1) = false := bne_eq_false_iff_eq.mpr c5
   clear c5
   (first | rw [c5b0] | (simp only [i64_w, i32_w]; rw [c5b0]) | skip)
   have H' := Aside0.mk H
   clear H
   go_wp2
   go_meet
   case rel => exact ⟨_, ((a0 == 1)), z57_5, H', ⟨(by first | omega | exact Nat.le_refl _)⟩, ⟨z57_1⟩, ⟨z57_0⟩⟩
  rw [if_neg c5] at H
  have c5b0 : (a0 == 1) = false := beq_eq_false_iff_ne.mpr c5
  have c5b1 : (a0 != 1) = true := bne_iff_ne.mpr c5
  (first | rw [c5b0] | (simp only [i64_w, i32_w]; rw [c5b0]) | skip)
  have H' := Aside0.mk H
  clear H
  go_wp2
  go_meet
  case rel => exact ⟨_, ((a0 == 2)), z57_5, H', ⟨(by first | omega | exact Nat.le_refl _)⟩, ⟨z57_1⟩, ⟨z57_0⟩⟩
 case rest =>
  clear HC3
  obtain ⟨kq, x12_2, rfl, HA, HJ2, BK132, HB⟩ := hcut
  cases kq with
  | zero => exact absurd HA.out (by simp [prop_value.j0])
  | succ kj2 =>
   have H := HA.out
   clear HA
   simp only [prop_value.j0] at H
   by_cases c6 : x12_2 = true
   ·subst c6
    rw [if_pos rfl] at H
    replace H := Option.bind_eq_some_iff.mp H
    obtain ⟨t133, A70, H⟩ := H
    replace H : (some t133) = some r := H
    have A7 := Aside0.mk A70
    clear A70
    obtain rfl := Option.some.inj H
    have hcz8_0 := zbc BK132 0 (.int .i64 a1_0)
    have hcz8_1 := zbc BK132 1 (.int .u32 a1_1)
    have hcz8_2 := zbc BK132 2 (.string a1_2)
    have hcz8_3 := zbc BK132 3 (.string a1_3)
    have hfz8_0 := q9 BK132.out 0
    have hfz8_1 := q9 BK132.out 1
    have hfz8_2 := q9 BK132.out 2
    have hfz8_3 := q9 BK132.out 3
    go_wp2_with (first | ((with_reducible refine ql (f := 65) rfl ?_); refine q1b (some 19) rfl rfl Tryz.func65 (by kernel_rfl) rfl #[.int .u64 (IntKind.u64.wrap (a1_1)), .int .i64 a0] rfl z57_2 ?_; (with_reducible refine (octet_Put.calls kj2 (IntKind.u64.wrap (a1_1)) a0 t133 _ A7.out).mono ?_); rintro e w9 ⟨rfl, hb⟩; refine ⟨_, rfl, ?_⟩; have n0_ := Aside0.mk (qo (g := gb132) (o := .cells #[.int .i64 a1_0, .int .u32 a1_1, .string a1_2, .string a1_3] 24 (0, 0)) z57_1 hb); have n1_ := Aside0.mk (qe z57_0 hb); clear BK132; clear HB; have BK132 := n0_; have HB := n1_; clear n0_ n1_; (try clear hb); (try clear hb2); (try clear hk); (try clear hi)))
    go_ret
    exact ⟨z57_3, z57_0⟩
   replace c6 := Bool.eq_false_iff.mpr c6
   subst c6
   rw [if_neg (show ¬ (false = true) by decide)] at H
   by_cases c10 : a0 = 3
   ·rw [if_pos c10] at H
    have c10b0 : (a0 == 3) = true := beq_iff_eq.mpr c10
    have c10b1 : (a0 != 3) = false := bne_eq_false_iff_eq.mpr c10
    clear c10
    replace H := Option.bind_eq_some_iff.mp H
    obtain ⟨t134, A110, H⟩ := H
    replace H : (some t134) = some r := H
    have A11 := Aside0.mk A110
    clear A110
    obtain rfl := Option.some.inj H
    have hcz12_0 := zbc BK132 0 (.int .i64 a1_0)
    have hcz12_1 := zbc BK132 1 (.int .u32 a1_1)
    have hcz12_2 := zbc BK132 2 (.string a1_2)
    have hcz12_3 := zbc BK132 3 (.string a1_3)
    have hfz12_0 := q9 BK132.out 0
    have hfz12_1 := q9 BK132.out 1
    have hfz12_2 := q9 BK132.out 2
    have hfz12_3 := q9 BK132.out 3
    go_wp2_with (first | ((with_reducible refine ql (f := 65) rfl ?_); refine q1b (some 25) rfl rfl Tryz.func65 (by kernel_rfl) rfl #[.int .u64 (IntKind.u64.wrap (a1_1)), .int .i64 4] rfl z57_2 ?_; (with_reducible refine (octet_Put.calls kj2 (IntKind.u64.wrap (a1_1)) 4 t134 _ A11.out).mono ?_); rintro e w13 ⟨rfl, hb⟩; refine ⟨_, rfl, ?_⟩; have n0_ := Aside0.mk (qo (g := gb132) (o := .cells #[.int .i64 a1_0, .int .u32 a1_1, .string a1_2, .string a1_3] 24 (0, 0)) z57_1 hb); have n1_ := Aside0.mk (qe z57_0 hb); clear BK132; clear HB; have BK132 := n0_; have HB := n1_; clear n0_ n1_; (try clear hb); (try clear hb2); (try clear hk); (try clear hi)))
    go_ret
    exact ⟨z57_3, z57_0⟩
   rw [if_neg c10] at H
   have c10b0 : (a0 == 3) = false := beq_eq_false_iff_ne.mpr c10
   have c10b1 : (a0 != 3) = true := bne_iff_ne.mpr c10
   by_cases c14 : a0 = 4
   ·rw [if_pos c14] at H
    have c14b0 : (a0 == 4) = true := beq_iff_eq.mpr c14
    have c14b1 : (a0 != 4) = false := bne_eq_false_iff_eq.mpr c14
    clear c14
    replace H := Option.bind_eq_some_iff.mp H
    obtain ⟨⟨t135, t136⟩, A150, H⟩ := H
    replace H : (some t135) = some r := H
    have A15 := Aside0.mk A150
    clear A150
    obtain rfl := Option.some.inj H
    have hcz16_0 := zbc BK132 0 (.int .i64 a1_0)
    have hcz16_1 := zbc BK132 1 (.int .u32 a1_1)
    have hcz16_2 := zbc BK132 2 (.string a1_2)
    have hcz16_3 := zbc BK132 3 (.string a1_3)
    have hfz16_0 := q9 BK132.out 0
    have hfz16_1 := q9 BK132.out 1
    have hfz16_2 := q9 BK132.out 2
    have hfz16_3 := q9 BK132.out 3
    go_wp2_with (first | ((with_reducible refine ql (f := 50) rfl ?_); refine q1b (some 32) rfl rfl Tryz.func50 (by kernel_rfl) rfl #[.int .i64 (wrap64 (a1_1))] rfl z57_2 ?_; (with_reducible refine (varint_Bytes.calls kj2 (wrap64 (a1_1)) t135 t136 _ A15.out).mono ?_); rintro e w17 ⟨rfl, hb⟩; refine ⟨_, rfl, ?_⟩; have n0_ := Aside0.mk (qo (g := gb132) (o := .cells #[.int .i64 a1_0, .int .u32 a1_1, .string a1_2, .string a1_3] 24 (0, 0)) z57_1 hb); have n1_ := Aside0.mk (qe z57_0 hb); clear BK132; clear HB; have BK132 := n0_; have HB := n1_; clear n0_ n1_; (try clear hb); (try clear hb2); (try clear hk); (try clear hi)))
    go_ret
    exact ⟨z57_3, z57_0⟩
   rw [if_neg c14] at H
   have c14b0 : (a0 == 4) = false := beq_eq_false_iff_ne.mpr c14
   have c14b1 : (a0 != 4) = true := bne_iff_ne.mpr c14
   replace H := Option.bind_eq_some_iff.mp H
   obtain ⟨⟨t137, t138⟩, A180, H⟩ := H
   replace H : (if a0 = 7 then ((ustring_Binary.f kj2 a1_3).bind fun bt139 => (if t137.size + bt139.1.size ≤ 9223372036854775807 then (some (t137 ++ bt139.1)) else (none))) else (some t137)) = some r := H
   have A18 := Aside0.mk A180
   clear A180
   by_cases c19 : a0 = 7
   ·rw [if_pos c19] at H
    have c19b0 : (a0 == 7) = true := beq_iff_eq.mpr c19
    have c19b1 : (a0 != 7) = false := bne_eq_false_iff_eq.mpr c19
    clear c19
    replace H := Option.bind_eq_some_iff.mp H
    obtain ⟨⟨t139, t140⟩, A200, H⟩ := H
    replace H : (if t137.size + t139.size ≤ 9223372036854775807 then (some (t137 ++ t139)) else (none)) = some r := H
    have A20 := Aside0.mk A200
    clear A200
    by_cases c21 : t137.size + t139.size ≤ 9223372036854775807
    ·rw [if_pos c21] at H
     have c21b0 := eq_true c21
     have c21b1 : decide (t137.size + t139.size ≤ 9223372036854775807) = true := decide_eq_true c21
     try have c21b2 : (9223372036854775807 < t137.size + t139.size) = False := eq_false (Nat.not_lt.2 c21)
     obtain rfl := Option.some.inj H
     have hcz22_0 := zbc BK132 0 (.int .i64 a1_0)
     have hcz22_1 := zbc BK132 1 (.int .u32 a1_1)
     have hcz22_2 := zbc BK132 2 (.string a1_2)
     have hcz22_3 := zbc BK132 3 (.string a1_3)
     have hfz22_0 := q9 BK132.out 0
     have hfz22_1 := q9 BK132.out 1
     have hfz22_2 := q9 BK132.out 2
     have hfz22_3 := q9 BK132.out 3
     go_wp2_with (first | ((with_reducible refine ql (f := 102) rfl ?_); refine q1b (some 39) rfl rfl Tryz.func102 (by kernel_rfl) rfl #[.string a1_2] rfl z57_2 ?_; (with_reducible refine (ustring_Binary.calls kj2 a1_2 t137 t138 _ A18.out).mono ?_); rintro e w23 ⟨rfl, hb⟩; refine ⟨_, rfl, ?_⟩; have n0_ := Aside0.mk (qo (g := gb132) (o := .cells #[.int .i64 a1_0, .int .u32 a1_1, .string a1_2, .string a1_3] 24 (0, 0)) z57_1 hb); have n1_ := Aside0.mk (qe z57_0 hb); clear BK132; clear HB; have BK132 := n0_; have HB := n1_; clear n0_ n1_; (try clear hb); (try clear hb2); (try clear hk); (try clear hi); have hcz24_0 := zbc BK132 0 (.int .i64 a1_0); have hcz24_1 := zbc BK132 1 (.int .u32 a1_1); have hcz24_2 := zbc BK132 2 (.string a1_2); have hcz24_3 := zbc BK132 3 (.string a1_3); have hfz24_0 := q9 BK132.out 0; have hfz24_1 := q9 BK132.out 1; have hfz24_2 := q9 BK132.out 2; have hfz24_3 := q9 BK132.out 3) | ((with_reducible refine ql (f := 102) rfl ?_); refine q1b (some 48) rfl rfl Tryz.func102 (by kernel_rfl) rfl #[.string a1_3] rfl z57_2 ?_; (with_reducible refine (ustring_Binary.calls kj2 a1_3 t139 t140 _ A20.out).mono ?_); rintro e w25 ⟨rfl, hb⟩; refine ⟨_, rfl, ?_⟩; have n0_ := Aside0.mk (qo (g := gb132) (o := .cells #[.int .i64 a1_0, .int .u32 a1_1, .string a1_2, .string a1_3] 24 (0, 0)) z57_1 hb); have n1_ := Aside0.mk (qe z57_0 hb); clear BK132; clear HB; have BK132 := n0_; have HB := n1_; clear n0_ n1_; (try clear hb); (try clear hb2); (try clear hk); (try clear hi)))
     go_ret
     exact ⟨z57_3, z57_0⟩
    rw [if_neg c21] at H
    exact absurd H (by simp)
   rw [if_neg c19] at H
   have c19b0 : (a0 == 7) = false := beq_eq_false_iff_ne.mpr c19
   have c19b1 : (a0 != 7) = true := bne_iff_ne.mpr c19
   obtain rfl := Option.some.inj H
   have hcz26_0 := zbc BK132 0 (.int .i64 a1_0)
   have hcz26_1 := zbc BK132 1 (.int .u32 a1_1)
   have hcz26_2 := zbc BK132 2 (.string a1_2)
   have hcz26_3 := zbc BK132 3 (.string a1_3)
   have hfz26_0 := q9 BK132.out 0
   have hfz26_1 := q9 BK132.out 1
   have hfz26_2 := q9 BK132.out 2
   have hfz26_3 := q9 BK132.out 3
   go_wp2_with (first | ((with_reducible refine ql (f := 102) rfl ?_); refine q1b (some 39) rfl rfl Tryz.func102 (by kernel_rfl) rfl #[.string a1_2] rfl z57_2 ?_; (with_reducible refine (ustring_Binary.calls kj2 a1_2 t137 t138 _ A18.out).mono ?_); rintro e w27 ⟨rfl, hb⟩; refine ⟨_, rfl, ?_⟩; have n0_ := Aside0.mk (qo (g := gb132) (o := .cells #[.int .i64 a1_0, .int .u32 a1_1, .string a1_2, .string a1_3] 24 (0, 0)) z57_1 hb); have n1_ := Aside0.mk (qe z57_0 hb); clear BK132; clear HB; have BK132 := n0_; have HB := n1_; clear n0_ n1_; (try clear hb); (try clear hb2); (try clear hk); (try clear hi)))
   go_ret
   exact ⟨z57_3, z57_0⟩

end Go.Proofs.YtngmipfobcaojaaGreat.HA
end

-- YtngmipfobcaojaaGreatHAhSpec2
section
namespace Go.Proofs.YtngmipfobcaojaaGreat.HA
open Go.RowKit Go.Proofs.YtngmipfobcaojaaGreatW.PrintWords Go.Proofs.YtngmipfobcaojaaGreatW.PrintLast Go.Proofs.YtngmipfobcaojaaGreatW.PrintMore

theorem w64 (n : Int) : -9223372036854775808 ≤ n → n ≤ 9223372036854775807 → wrap64 n = n := fun h1 h2 => by unfold wrap64; omega
theorem u64w (n : Int) (h0 : 0 ≤ n) (h1 : n ≤ 18446744073709551615) : IntKind.u64.wrap n = n := by rw [IntKind.wrap_u64]; omega

def putTo (n : Int) (size : Nat) : Nat → List Int → Nat → List Int
  | 0, l, _ => l
  | d + 1, l, i => putTo n size d (if i < 8 then l.set (size - 1 - i) ((n / 2 ^ (8 * i)) % 256) else l) (i + 1)
theorem put_l0 (n : Int) (size : Nat) (hs : size ≤ 16) : ∀ (d k : Nat) (l : List Int) (i : Nat), i + d = size → l.length = size → d < k →
    octet_Put.l0 k n size l size i = some (strOfNums (putTo n size d l i)) := by
  intro d
  induction d with
  | zero =>
    intro k l i hi hl hk
    obtain ⟨k, rfl⟩ : ∃ m, k = m + 1 := ⟨k - 1, by omega⟩
    simp only [octet_Put.l0, putTo]
    rw [if_neg (by omega)]
  | succ d ih =>
    intro k l i hi hl hk
    obtain ⟨k, rfl⟩ : ∃ m, k = m + 1 := ⟨k - 1, by omega⟩
    simp only [octet_Put.l0, putTo]
    rw [if_pos (by omega), w64 (i + 1) (by omega) (by omega)]
    by_cases h8 : i < 8
    · have e1 : wrap64 (8 * (i : Int)) = ((8 * i : Nat) : Int) := by rw [w64 _ (by omega) (by omega)]; push_cast; rfl
      have e2 : wrap64 (wrap64 ((size : Int) - 1) - i) = ((size - 1 - i : Nat) : Int) := by rw [w64 (size - 1) (by omega) (by omega), w64 _ (by omega) (by omega)]; omega
      rw [e1, e2, u64w _ (by omega) (by omega), if_pos (by omega), if_pos (by omega), if_pos (by omega), if_pos (by rw [hl]; omega), if_pos h8]
      have e3 : shr .u64 n ((8 * i : Nat) : Int) = n / 2 ^ (8 * i) := by
        unfold shr
        rw [Int.toNat_natCast, Nat.min_eq_left (by show 8 * i ≤ 64; omega)]
      rw [e3, Int.toNat_natCast]
      exact ih k _ (i + 1) (by omega) (by simpa using hl) (by omega)
    · rw [if_neg (by omega), if_neg h8]
      exact ih k l (i + 1) (by omega) hl (by omega)
def putS (n : Int) (size : Nat) : ByteArray := strOfNums (putTo n size size (List.replicate size 0) 0)
theorem put_f (k : Nat) (n : Int) (size : Nat) (h0 : 0 < size) (hs : size ≤ 16) (hk : size < k) : octet_Put.f k n size = some (putS n size) := by
  have hm : mn (size : Int) 16 = (size : Int) := by unfold mn; omega
  unfold octet_Put.f
  rw [if_neg (by omega), hm, if_pos (by omega), Int.toNat_natCast, if_pos (by omega)]
  have := put_l0 n size hs size k (List.replicate size 0) 0 (by omega) (by simp) hk
  simpa [putS] using this

def varTo : Nat → Nat → List Int
  | 0, x => [(x : Int) % 256]
  | d + 1, x => if x ≥ 128 then Go.bits .or .u8 (((x : Int) % 128) % 256) 128 :: varTo d (x / 128) else [(x : Int) % 256]
theorem var_l0 : ∀ (d k : Nat) (x : Nat) (l : List Int), x < 128 ^ (d + 1) → d < k → x ≤ 9223372036854775807 → l.length + d ≤ 1000 →
    varint_Bytes.l0 k x l = some (strOfNums (l ++ varTo d x), 0) := by
  intro d
  induction d with
  | zero =>
    intro k x l hx hk hb hl
    obtain ⟨k, rfl⟩ : ∃ m, k = m + 1 := ⟨k - 1, by omega⟩
    simp only [varint_Bytes.l0, varTo]
    rw [if_neg (by omega), if_pos (by omega)]
  | succ d ih =>
    intro k x l hx hk hb hl
    obtain ⟨k, rfl⟩ : ∃ m, k = m + 1 := ⟨k - 1, by omega⟩
    simp only [varint_Bytes.l0, varTo]
    by_cases h : x ≥ 128
    · rw [if_pos (by omega), if_pos (by omega), if_pos h]
      have e1 : wrap64 (Int.tdiv (x : Int) 128) = ((x / 128 : Nat) : Int) := by
        rw [Int.tdiv_eq_ediv_of_nonneg (by omega), w64 _ (by omega) (by omega)]; omega
      have e2 : Int.tmod (x : Int) 128 = (x : Int) % 128 := Int.tmod_eq_emod_of_nonneg (by omega)
      rw [e1, e2, ih k (x / 128) _ (by rw [Nat.pow_succ] at hx; omega) (by omega) (by omega) (by simp; omega)]
      simp
    · rw [if_neg (by omega), if_pos (by omega), if_neg h]
def varS (n : Int) : ByteArray × Int := if 0 ≤ n ∧ n ≤ 268435455 then (strOfNums (varTo 3 n.toNat), 0) else (⟨#[]⟩, 2)
theorem var_f (k : Nat) (n : Int) (hk : 3 < k) : varint_Bytes.f k n = some (varS n) := by
  unfold varint_Bytes.f varint_may.f varS
  by_cases h0 : n ≥ 0
  · by_cases h1 : n ≤ 268435455
    · rw [if_pos h0, decide_eq_true h1, if_pos ⟨h0, h1⟩]
      obtain ⟨m, rfl⟩ := Int.eq_ofNat_of_zero_le h0
      have := var_l0 3 k m [] (by omega) hk (by omega) (by simp)
      simpa using this
    · rw [if_pos h0, decide_eq_false h1, if_neg (by omega)]; simp
  · rw [if_neg h0, if_neg (by omega)]; simp
theorem strOfNums_size (l : List Int) : (strOfNums l).size = l.length := by
  simp [strOfNums, ByteArray.size]
theorem putTo_length (n : Int) (size : Nat) : ∀ (d : Nat) (l : List Int) (i : Nat), (putTo n size d l i).length = l.length
  | 0, _, _ => rfl
  | d + 1, l, i => by
    rw [putTo, putTo_length]
    split <;> simp
theorem putS_size (n : Int) (size : Nat) : (putS n size).size = size := by
  unfold putS
  rw [strOfNums_size, putTo_length]; simp
def binS (s : ByteArray) : ByteArray × Int := if (s.size : Int) > 65535 then (⟨#[]⟩, 2) else (putS s.size 2 ++ s, 0)
theorem bin_f (k : Nat) (s : ByteArray) (hk : 2 < k) : ustring_Binary.f k s = some (binS s) := by
  unfold ustring_Binary.f binS ustring_framed.f
  by_cases h : (s.size : Int) > 65535
  · rw [if_pos h, if_pos h]
  · rw [if_neg h, if_neg h, if_pos (by omega)]
    have := put_f k s.size 2 (by omega) (by omega) hk
    rw [show ((2 : Nat) : Int) = 2 from rfl] at this
    rw [this]
    simp only [Option.bind_some, putS_size]
    rw [if_pos (by omega)]; rfl
theorem binS_size (s : ByteArray) : (binS s).1.size ≤ 65537 := by
  unfold binS
  split
  · simp [ByteArray.size]
  · simp only [ByteArray.size_append, putS_size]; omega
def valS (shape : Int) (p : S24) : ByteArray :=
  if shape = 1 ∨ shape = 2 then putS (IntKind.u64.wrap p.f1) shape.toNat
  else if shape = 3 then putS (IntKind.u64.wrap p.f1) 4
  else if shape = 4 then (varS (wrap64 p.f1)).1
  else if shape = 7 then (binS p.f2).1 ++ (binS p.f3).1
  else (binS p.f2).1
theorem val_f (k : Nat) (shape : Int) (p : S24) (hk : 10 < k) : prop_value.f k shape p.f0 p.f1 p.f2 p.f3 = some (valS shape p) := by
  obtain ⟨k, rfl⟩ : ∃ m, k = m + 1 := ⟨k - 1, by omega⟩
  have hs1 := binS_size p.f2
  have hs2 := binS_size p.f3
  unfold prop_value.f valS
  simp only [prop_value.j0, bin_f k _ (show 2 < k by omega), var_f k _ (show 3 < k by omega), Option.bind_some]
  have h1 := put_f k (IntKind.u64.wrap p.f1) 1 (by omega) (by omega) (by omega)
  have h2 := put_f k (IntKind.u64.wrap p.f1) 2 (by omega) (by omega) (by omega)
  have h4 := put_f k (IntKind.u64.wrap p.f1) 4 (by omega) (by omega) (by omega)
  by_cases e1 : shape = 1
  · subst e1; simpa using h1
  · by_cases e2 : shape = 2
    · subst e2; simpa using h2
    · by_cases e3 : shape = 3
      · subst e3; simpa using h4
      · by_cases e4 : shape = 4
        · subst e4; simp
        · by_cases e7 : shape = 7
          · subst e7; simp; omega
          · simp [e1, e2, e3, e4, e7]
end Go.Proofs.YtngmipfobcaojaaGreat.HA
end

-- YtngmipfobcaojaaGreatHA28
section
namespace Go.Proofs.YtngmipfobcaojaaGreat.HA
open Go.RowKit Go.Proofs.YtngmipfobcaojaaGreatW.PrintWords Go.Proofs.YtngmipfobcaojaaGreatW.PrintLast Go.Proofs.YtngmipfobcaojaaGreatW.PrintMore
attribute [local go_sem] q1k q1j q1s q1t q1a q19 q1h q1i

def prop_often.f (a0 : Int) (a1 : Int) : Option (Bool) := if a1 = 38 then (some true) else (if a1 = 11 then (some (a0 == 3)) else (some false))
theorem z59_0 {p : Prop} (h : p := by first | rfl | (simp; done) | (simp [*]; done) | (simp; exact qh _) | exact qh _ | (simp; exact (qh _).symm) | (simp; exact q15 _)) : p := h
theorem z59_1 {p : Prop} (h : p := by repeat (first | exact Drawn0.refl _ | apply Drawn0.step)) : p := h
set_option maxHeartbeats 8000000 in
set_option maxRecDepth 100000 in
theorem prop_often.calls (a0 : Int) (a1 : Int) (r : Bool) (w : World) (h : prop_often.f a0 a1 = some r) :
  Calls Tryz.prog 61 #[.int .i64 a0, .int .i64 a1] w fun e w' => e = .returned (.bool r) ∧ Drawn0 w w' := by
 have H : (if a1 = 38 then (some true) else (if a1 = 11 then (some (a0 == 3)) else (some false))) = some r := h
 clear h
 by_cases c3 : a1 = 38
 ·rw [if_pos c3] at H
  have c3b0 : (a1 == 38) = true := beq_iff_eq.mpr c3
  have c3b1 : (a1 != 38) = false := bne_eq_false_iff_eq.mpr c3
  clear c3
  obtain rfl := Option.some.inj H
  go_enter Tryz.func61, Tryz.ntmps61
  go_wp2
  go_ret
  exact ⟨z59_0, z59_1⟩
 rw [if_neg c3] at H
 have c3b0 : (a1 == 38) = false := beq_eq_false_iff_ne.mpr c3
 have c3b1 : (a1 != 38) = true := bne_iff_ne.mpr c3
 by_cases c4 : a1 = 11
 ·rw [if_pos c4] at H
  have c4b0 : (a1 == 11) = true := beq_iff_eq.mpr c4
  have c4b1 : (a1 != 11) = false := bne_eq_false_iff_eq.mpr c4
  clear c4
  obtain rfl := Option.some.inj H
  go_enter Tryz.func61, Tryz.ntmps61
  go_wp2
  go_ret
  exact ⟨z59_0, z59_1⟩
 rw [if_neg c4] at H
 have c4b0 : (a1 == 11) = false := beq_eq_false_iff_ne.mpr c4
 have c4b1 : (a1 != 11) = true := bne_iff_ne.mpr c4
 obtain rfl := Option.some.inj H
 go_enter Tryz.func61, Tryz.ntmps61
 go_wp2
 go_ret
 exact ⟨z59_0, z59_1⟩

end Go.Proofs.YtngmipfobcaojaaGreat.HA
end

-- YtngmipfobcaojaaGreatHAhSeen
section
namespace Go.Proofs.YtngmipfobcaojaaGreat.HA
open Go.RowKit Go.Proofs.YtngmipfobcaojaaGreatW.PrintWords Go.Proofs.YtngmipfobcaojaaGreatW.PrintLast Go.Proofs.YtngmipfobcaojaaGreatW.PrintMore

def seenArr (c : Nat → Int) : Array Value := ((List.range 64).map fun j => Value.int .i64 (c j)).toArray
def seenObj (c : Nat → Int) : Obj := .cells (seenArr c) 64 (0, 0)
def upd (c : Nat → Int) (i : Nat) (x : Int) : Nat → Int := fun j => if j = i then x else c j
theorem seenArr_get (c : Nat → Int) (i : Nat) (h : i < 64) : (seenArr c)[i]? = some (.int .i64 (c i)) := by
  simp [seenArr, h]
theorem seenArr_set (c : Nat → Int) (i : Nat) (x : Int) : (seenArr c).setIfInBounds i (.int .i64 x) = seenArr (upd c i x) := by
  apply Array.ext'
  apply List.ext_getElem?
  intro j
  simp only [seenArr, upd, Array.toList_setIfInBounds, List.getElem?_set, List.getElem?_map, List.length_map, List.length_range]
  by_cases hj : j < 64
  · rw [List.getElem?_range hj]
    by_cases e : i = j
    · subst e; simp [hj]
    · simp [e, Ne.symm e]
  · rw [List.getElem?_eq_none (by simp; omega)]
    by_cases e : i = j
    · subst e; simp [hj]
    · simp [e]
def oftenB (kind id : Int) : Bool := id == 38 || (id == 11 && kind == 3)
theorem often_f (kind id : Int) : prop_often.f kind id = some (oftenB kind id) := by
  unfold prop_often.f oftenB
  by_cases h : id = 38
  · simp [h]
  · by_cases h2 : id = 11 <;> simp [h, h2]

theorem again_yes (g : Nat) (c : Nat → Int) (kind id : Int) (w : World) (hs : w.heap[g]? = some (seenObj c)) (h0 : 0 ≤ id) (h1 : id < 64) (hc0 : 0 ≤ c id.toNat) (hc1 : c id.toNat ≤ 2000) :
    Calls Tryz.prog 47 #[.pointer (some ⟨g, 0, none⟩), .int .i64 kind, .int .i64 id] w fun e w' =>
      e = .returned (.bool (decide (1 < c id.toNat + 1) && !oftenB kind id)) ∧ w'.heap[g]? = some (seenObj (upd c id.toNat (c id.toNat + 1))) ∧ w.grownBy w' (some g) := by
  have hcell : w.cell? ⟨g, id.toNat, none⟩ = some (.int .i64 (c id.toNat)) := (qk hs id.toNat).trans (seenArr_get c _ (by omega))
  have hfz : w.frozen? ⟨g, id.toNat, none⟩ = false := q9 hs _
  have ho : ∀ W, Calls Tryz.prog 61 #[.int .i64 kind, .int .i64 id] W fun e w' => e = .returned (.bool (oftenB kind id)) ∧ Drawn0 W w' := fun W => prop_often.calls kind id _ W (often_f kind id)
  have HO := Aside0.mk ho
  have HS := Aside0.mk hs
  clear ho hs
  generalize hx : c id.toNat = x at *
  have HX := Aside0.mk hx
  clear hx
  by_cases hlt : 1 < x + 1
  · have hd : decide (1 < x + 1) = true := decide_eq_true hlt
    generalize hob : oftenB kind id = ob at *
    clear hob
    go_enter Tryz.func47, Tryz.ntmps47
    go_wp2
    go_region
    go_wp2_with (go_at_call 61; refine (HO.out _).mono ?_; rintro e w' ⟨rfl, ⟨⟨nq, rfl⟩⟩⟩)
    go_ret
    refine ⟨by simp; first | (intros; omega; done) | (intros; exfalso; omega), ?_, ?_⟩
    · exact (blk_set (w := w) HS.out id.toNat (.int .i64 (x + 1))).trans (by rw [seenArr_set]; rfl)
    · exact ⟨rfl, rfl, rfl, by simp [World.setCell], fun i _ hi => Below.heap_setCell w _ _ i (fun e => hi (by rw [e]))⟩
  · have hd : decide (1 < x + 1) = false := decide_eq_false hlt
    go_enter Tryz.func47, Tryz.ntmps47
    go_wp2
    go_region
    go_wp2
    go_ret
    refine ⟨by simp; first | (intros; omega; done) | (intros; exfalso; omega), ?_, ?_⟩
    · exact (blk_set (w := w) HS.out id.toNat (.int .i64 (x + 1))).trans (by rw [seenArr_set]; rfl)
    · exact ⟨rfl, rfl, rfl, by simp [World.setCell], fun i _ hi => Below.heap_setCell w _ _ i (fun e => hi (by rw [e]))⟩

theorem lone_any (g : Nat) (c : Nat → Int) (w : World) (hs : w.heap[g]? = some (seenObj c)) :
    Calls Tryz.prog 49 #[.pointer (some ⟨g, 0, none⟩)] w fun e w' => e = .returned (.bool (decide (0 < c 22) && c 21 == 0)) ∧ w = w' := by
  have h22 : w.cell? ⟨g, 22, none⟩ = some (.int .i64 (c 22)) := (qk hs 22).trans (seenArr_get c 22 (by omega))
  have h21 : w.cell? ⟨g, 21, none⟩ = some (.int .i64 (c 21)) := (qk hs 21).trans (seenArr_get c 21 (by omega))
  clear hs
  generalize c 22 = x at *
  generalize c 21 = y at *
  by_cases hx : 0 < x
  · have hd : decide (0 < x) = true := decide_eq_true hx
    go_enter Tryz.func49, Tryz.ntmps49
    go_wp2
    go_ret
    exact ⟨by simp; intros; omega, rfl⟩
  · have hd : decide (0 < x) = false := decide_eq_false hx
    go_enter Tryz.func49, Tryz.ntmps49
    go_wp2
    go_ret
    exact ⟨by first | (simp; done) | (simp; intros; omega), rfl⟩
end Go.Proofs.YtngmipfobcaojaaGreat.HA
end

-- YtngmipfobcaojaaGreatHAhBytes
section
namespace Go.Proofs.YtngmipfobcaojaaGreat.HA
open Go.RowKit Go.Proofs.YtngmipfobcaojaaGreatW.PrintWords Go.Proofs.YtngmipfobcaojaaGreatW.PrintLast Go.Proofs.YtngmipfobcaojaaGreatW.PrintMore

def bytesTo (kind : Int) : List S24 → (Nat → Int) → List Int → ByteArray × Int
  | [], c, acc => if decide (0 < c 22) && c 21 == 0 then (⟨#[]⟩, 9) else if (varS acc.length).2 = 0 then ((varS acc.length).1 ++ strOfNums acc, 0) else (⟨#[]⟩, 4)
  | p :: l, c, acc =>
    if checkS (ruleOf p.f0) kind p ≠ 0 then (⟨#[]⟩, checkS (ruleOf p.f0) kind p)
    else if decide (1 < c p.f0.toNat + 1) && !oftenB kind p.f0 then (⟨#[]⟩, 9)
    else bytesTo kind l (upd c p.f0.toNat (c p.f0.toNat + 1)) (acc ++ [p.f0 % 256] ++ bytesOf (valS (ruleOf p.f0).1 p))
def bytesS (kind : Int) (l : List S24) : ByteArray × Int := if l.length > 1000 then (⟨#[]⟩, 4) else bytesTo kind l (fun _ => 0) []
def prop_Bytes.f (a0 : Int) (l1 : List S24) : Option (ByteArray × Int) := some (bytesS a0 l1)

theorem check_id (kind : Int) (p : S24) (h : checkS (ruleOf p.f0) kind p = 0) : 1 ≤ p.f0 ∧ p.f0 ≤ 42 := by
  have hf : ∀ l : List (Int × Int × Int × Int × Int), (∀ x ∈ l, 1 ≤ x.1 ∧ x.1 ≤ 42) → ∀ id r, ruleFind l id = some r → 1 ≤ id ∧ id ≤ 42 := by
    intro l
    induction l with
    | nil => intro _ id r h; simp [ruleFind] at h
    | cons x l ih =>
      intro hx id r h
      simp only [ruleFind] at h
      by_cases e : (id == x.1) = true
      · have := hx x List.mem_cons_self
        rw [beq_iff_eq.1 e]; exact this
      · rw [if_neg e] at h
        exact ih (fun y hy => hx y (List.mem_cons_of_mem _ hy)) id r h
  cases hr : ruleFind ruleTab p.f0 with
  | some r => exact hf ruleTab (by decide) p.f0 r hr
  | none =>
    exfalso
    have e : ruleOf p.f0 = (0, 0, 0, 0) := by unfold ruleOf; rw [hr]; rfl
    have hs : hasS (0, 0, 0, 0) kind = false := by
      unfold hasS
      have : shr .i64 0 (IntKind.u64.wrap kind) = 0 := by unfold shr; simp
      rw [this]
      have : (Go.bits .and .i64 0 1 == 1) = false := by decide
      rw [this]; simp
    rw [e] at h
    unfold checkS at h
    rw [if_pos hs] at h
    omega
theorem varS_size (n : Int) : (varS n).1.size ≤ 10 := by
  unfold varS
  split
  · rw [strOfNums_size]
    have : ∀ d x, (varTo d x).length ≤ d + 1 := by
      intro d
      induction d with
      | zero => intro x; simp [varTo]
      | succ d ih => intro x; rw [varTo]; split <;> simp; exact ih _
    have := this 3 n.toNat
    omega
  · simp [ByteArray.size]
theorem valS_size (shape : Int) (p : S24) : (valS shape p).size ≤ 131074 := by
  have h1 := binS_size p.f2
  have h2 := binS_size p.f3
  unfold valS
  split
  · rename_i h
    rw [putS_size]
    rcases h with h | h <;> rw [h] <;> decide
  · split
    · rw [putS_size]; omega
    · split
      · unfold varS
        split
        · rw [strOfNums_size]
          have : ∀ d x, (varTo d x).length ≤ d + 1 := by
            intro d
            induction d with
            | zero => intro x; simp [varTo]
            | succ d ih => intro x; rw [varTo]; split <;> simp; exact ih _
          have := this 3 (wrap64 p.f1).toNat
          omega
        · simp [ByteArray.size]
      · split
        · simp only [ByteArray.size_append]; omega
        · omega

theorem drop_rd (l : List S24) (n : Nat) (h : n < l.length) : l.drop n = qu l (n : Int) :: l.drop (n + 1) := by
  rw [List.drop_eq_getElem_cons h]
  congr 1
  simp [qu, h]
theorem bytes_long (kind : Int) (A1 : Option Addr) (c1 : Nat) (l : List S24) (w : World) (h : 1000 < l.length) :
    Calls Tryz.prog 9 #[.int .i64 kind, .slice A1 l.length c1] w fun e w' => e = .returned (.tuple #[.string ⟨#[]⟩, .int .i64 4]) ∧ w = w' := by
  have hd : decide ((1000 : Int) < (l.length : Int)) = true := decide_eq_true (by omega)
  go_enter Tryz.func9, Tryz.ntmps9
  go_wp2
  go_ret2
  exact ⟨rfl, rfl⟩

theorem grow_drew {w W : World} {row : Option Nat} (h : w.grownBy W row) : w.grownBy W.drew row := ⟨h.os, h.tape, h.output, h.size, h.block⟩
theorem grow_alloc {w W : World} {row : Option Nat} (h : w.grownBy W row) (o : Obj) : w.grownBy (W.alloc o) row :=
  ⟨h.os, h.tape, h.output, by simp; have := h.size; omega, fun i hi hr => (Below.heap_alloc W o i (Nat.lt_of_lt_of_le hi h.size)).trans (h.block i hi hr)⟩
theorem grow_row {w W W' : World} {row row' : Option Nat} (h : w.grownBy W row) (hg : W.grownBy W' row') (hr : row' = row ∨ ∀ i, i < w.heap.size → some i ≠ row') : w.grownBy W' row :=
  ⟨hg.os.trans h.os, hg.tape.trans h.tape, hg.output.trans h.output, Nat.le_trans h.size hg.size, fun i hi hn => by
    refine (hg.block i (Nat.lt_of_lt_of_le hi h.size) ?_).trans (h.block i hi hn)
    rcases hr with rfl | hr
    · exact hn
    · exact hr i hi⟩
theorem grow_below {w W W' : World} {row : Option Nat} (h : w.grownBy W row) (hb : Below W.heap.size W W') : w.grownBy W' row := grow_row h (grown_of_below hb row) (.inl rfl)
theorem row_either {w W : World} {u : Option Nat} {g : Nat} (h : w.grownBy W u) (hat : u = some g ∨ g = W.heap.size) : some g = u ∨ ∀ i, i < w.heap.size → some i ≠ some g := by
  rcases hat with q | q
  · exact .inl q.symm
  · right
    intro i hi e
    have := h.size
    cases e
    omega
theorem grow_cell {w W : World} {row : Option Nat} (h : w.grownBy W row) {a : Addr} {v : Value} (hc : w.cell? a = some v) (hne : some a.block ≠ row) : W.cell? a = some v :=
  (h.cell_far a (World.block_lt_of_cell? w a hc) hne).trans hc
section
variable {P : Program} {w : World}
theorem step_append_str {ops : Array Oper} {o : Oper} {a : Act} {K : Act → World → Prop} {Q : Exit → Act → World → Prop} {E : Prop} (hgd : o.guard = none) (s x : Operand) (t u : TypeId)
    (ho : o.op = .call { callee := .builtin .append, args := #[s, x], argTypes := #[t, u] })
    (base : Nat) (e : TypeId) (i : TypeInfo) (ht : P.underlying t = some (.slice e)) (hu : P.underlying u = some .string) (hi : P.info? e = some i) (hz : i.zero = some (.int .u8 0))
    (hsize : i.size = 1) (hby : i.bytes = 1)
    (v : Value) (n : Nat) (xs : List Value) (hs : a.eval s = v) (hown : w.ownsRow base e 1 v n xs) (y : ByteArray) (hx : a.eval x = .string y)
    (h63 : n + y.size ≤ maxLen) (hbytes : n + y.size ≤ 140737488355328) (hbase : base ≤ w.heap.size)
    (h : ∀ v' w', w'.ownsRow base e 1 v' (n + y.size) (xs ++ Lib.strCells y) → w.grownBy w' v.ownBlock → K (a.put o.dst v') w') :
    if Region.wanted o (yielded ops a.tmps) = true then Oper.wp P o a w K Q else E := by
  have hw : Region.wanted o (yielded ops a.tmps) = true := by simp [Region.wanted, hgd]
  rw [if_pos hw]
  obtain ⟨v', w', hr, h2, h3, _⟩ := Lib.run_append_own_string (P := P) w base t u o.type e i ht hu hi hz hsize hby v n xs hown y h63 hbytes hbase
  unfold Oper.wp
  simp [execOp, ho, resolve, invoke, builtin, hs, hx, hr, Result.andThen]
  exact h v' w' h2 h3
end

structure BHead (kind : Int) (l : List S24) (res : ByteArray × Int) (w wr : World) (n : Nat) (c : Nat → Int) (acc : List Int) (v : Value) : Prop where
  map : wr.heap[w.heap.size]? = some ruleObj
  seen : wr.heap[w.heap.size + 1]? = some (seenObj c)
  own : wr.ownsRow (w.heap.size + 2) 5 1 v acc.length (nums .u8 acc)
  below : Below w.heap.size w wr
  left : bytesTo kind (l.drop n) c acc = res
  cnt : ∀ j, 0 ≤ c j ∧ c j ≤ n
  len : acc.length ≤ n * 131100

set_option maxHeartbeats 4000000 in
set_option maxRecDepth 100000 in
theorem bytes_short (kind : Int) (A1 : Option Addr) (c1 : Nat) (l : List S24) (w : World) (hr1 : Kd.C k24 w A1 l.length l) (h : l.length ≤ 1000) (res : ByteArray × Int) (hres : bytesTo kind l (fun _ => 0) [] = res) :
    Calls Tryz.prog 9 #[.int .i64 kind, .slice A1 l.length c1] w fun e w' => e = .returned (.tuple #[.string res.1, .int .i64 res.2]) ∧ Below w.heap.size w w' := by
  have hd : decide ((1000 : Int) < (l.length : Int)) = false := decide_eq_false (by omega)
  have HR := Aside0.mk hr1
  have HS := Aside0.mk hres
  clear hr1 hres
  go_enter Tryz.func9, Tryz.ntmps9
  go_wp2_with (first | (go_at_call 45; refine (prop_rules.calls0 _).mono ?_; rintro e w' ⟨rfl, rfl⟩) | ((with_reducible refine q1c (N := 7) rfl ?_); refine q1r ?hg (N := 7) ?hd (cs := seenArr (fun _ => 0)) (t := 64) ?hr ?_; (case hd => rfl); (case hg => rfl); (case hr => kernel_rfl); intro gs hg w1 hbox hb))
  have hw1 : w1.heap[w.heap.size]? = some ruleObj := (hb.block w.heap.size (by simp)).trans (heap_alloc_new w _)
  have hB1 : Below w.heap.size w w1 := below_then ((Below.refl _ _).alloc (Nat.le_refl _) _) (by simp) hb
  have hs1 : w1.heap[w.heap.size + 1]? = some (seenObj (fun _ => 0)) := by rw [hg] at hbox; simpa [seenObj] using hbox
  have H0 : BHead kind l res w w1 0 (fun _ => 0) [] (.slice none 0 0) := ⟨hw1, hs1, own_nil _ _ _ _, hB1, HS.out, fun _ => ⟨by omega, by omega⟩, by simp⟩
  clear hw1 hB1 hs1 hbox hb hg HS
  go_loopg [8, 21] l.length (fun gk v8 i21 wx => ∃ (n : Nat) (c : Nat → Int) (acc : List Int), i21 = .int .i64 n ∧ n + gk = l.length ∧ Aside0 (BHead kind l res w wx n c acc v8))
  case atStart => exact ⟨0, fun _ => 0, [], rfl, by omega, ⟨H0⟩⟩
  case round =>
    clear H0
    obtain ⟨n, c, acc, rfl, hn, HH⟩ := hrel
    cases gk with
    | zero =>
      obtain rfl : n = l.length := by omega
      have hlt : decide ((l.length : Int) < (l.length : Int)) = false := decide_eq_false (by omega)
      obtain ⟨A8, c8, rfl⟩ := own_slice HH.out.own
      have hlo := lone_any (w.heap.size + 1) c wr HH.out.seen
      have hleft := HH.out.left
      have hlen := HH.out.len
      rw [List.drop_length, bytesTo] at hleft
      have HLO := Aside0.mk hlo
      have HL := Aside0.mk hleft
      clear hlo hleft
      generalize hb : (decide (0 < c 22) && c 21 == 0) = b at *
      cases b with
      | true =>
        have hr := HL.out
        rw [if_pos rfl] at hr
        have HR1 := Aside0.mk hr
        clear hr HL hb
        go_wp2_with (go_at_call 49; refine HLO.out.mono ?_; rintro e w' ⟨rfl, rfl⟩)
        go_ret2
        exact ⟨by rw [← HR1.out]; rfl, HH.out.below⟩
      | false =>
        have hr := HL.out
        rw [if_neg (by simp)] at hr
        have hv := fun W => varint_Bytes.calls 10 (acc.length : Int) (varS acc.length).1 (varS acc.length).2 W (var_f 10 _ (by omega))
        have hvz : (varS acc.length).1.size ≤ 10 := varS_size _
        obtain ⟨vb, hvb⟩ : ∃ vb, varS acc.length = vb := ⟨_, rfl⟩
        rw [hvb] at hr hv hvz
        have HV := Aside0.mk hv
        clear HL hb hv hvb
        by_cases he : vb.2 = 0
        · rw [if_pos he] at hr
          have HR1 := Aside0.mk hr
          have ht : (vb.2 != 0) = false := by rw [bne_eq_false_iff_eq]; exact he
          have hsz := strOfNums_size acc
          have hc1 : vb.1.size + (strOfNums acc).size ≤ 9223372036854775807 := by omega
          have hc2 : decide (vb.1.size + (strOfNums acc).size ≤ 9223372036854775807) = true := decide_eq_true hc1
          have hc3 : (9223372036854775807 < vb.1.size + (strOfNums acc).size) = False := eq_false (Nat.not_lt.2 hc1)
          replace hc1 := eq_true hc1
          clear hr he hsz
          go_wp2_with (first | (go_at_call 49; refine HLO.out.mono ?_; rintro e w' ⟨rfl, rfl⟩) | (go_at_call 50; refine (HV.out _).mono ?_; rintro e w5 ⟨rfl, hb5⟩; have hcv := own_string (P := Tryz.prog) Tryz.underlying65 Tryz.underlying5 Tryz.underlying9 (pw_own_below HH.out.own hb5)))
          go_ret2
          exact ⟨by rw [← HR1.out]; rfl, qe HH.out.below hb5⟩
        · rw [if_neg he] at hr
          have HR1 := Aside0.mk hr
          have ht : (vb.2 != 0) = true := by rw [bne_iff_ne]; exact he
          clear hr he
          go_wp2_with (first | (go_at_call 49; refine HLO.out.mono ?_; rintro e w' ⟨rfl, rfl⟩) | (go_at_call 50; refine (HV.out _).mono ?_; rintro e w5 ⟨rfl, hb5⟩))
          go_ret2
          exact ⟨by rw [← HR1.out]; rfl, qe HH.out.below hb5⟩
    | succ g =>
      have hlt : decide ((n : Int) < (l.length : Int)) = true := decide_eq_true (by omega)
      have p0 : 0 ≤ (n : Int) := by omega
      have q0 : (n : Int) < (l.length : Int) := by omega
      obtain ⟨ad, e0, x0, x1, x2, x3⟩ := at_T24 HR.out (n : Int) p0 q0
      cases e0
      replace x0 := (HH.out.below.cell (World.block_lt_of_cell? w _ x0)).trans x0
      replace x1 := (HH.out.below.cell (World.block_lt_of_cell? w _ x1)).trans x1
      replace x2 := (HH.out.below.cell (World.block_lt_of_cell? w _ x2)).trans x2
      replace x3 := (HH.out.below.cell (World.block_lt_of_cell? w _ x3)).trans x3
      simp only [Int.toNat_natCast] at x0 x1 x2 x3
      generalize hp : qu l (n : Int) = p at *
      have HP := Aside0.mk hp
      clear hp
      have hl := run_rule_lookup (wr.alloc (.cells #[.int .i64 p.f0, .int .u32 p.f1, .string p.f2, .string p.f3] 24)) w.heap.size p.f0 (qc HH.out.map _)
      unfold ruleVal at hl
      obtain ⟨ru, hru⟩ : ∃ ru, ruleOf p.f0 = ru := ⟨_, rfl⟩
      have hck := fun W => prop_check.calls 2 ru.1 ru.2.1 ru.2.2.1 ru.2.2.2 kind p.f0 p.f1 p.f2 p.f3 _ W (check_f 0 ru kind p)
      have HCK := Aside0.mk hck
      rw [hru] at hl
      have HRU := Aside0.mk hru
      clear hck hru
      have hdrop : l.drop n = p :: l.drop (n + 1) := by rw [← HP.out]; exact drop_rd l n (by omega)
      have hleft := HH.out.left
      rw [hdrop, bytesTo, HRU.out] at hleft
      have HL := Aside0.mk hleft
      clear hdrop hleft
      go_wp2_with fail
      refine (HCK.out _).mono ?_
      rintro e w3 ⟨rfl, hb3⟩
      have HM3 := Aside0.mk (qo (qc (qc HH.out.map _) _) hb3)
      have HS3 := Aside0.mk (qo (qc (qc HH.out.seen _) _) hb3)
      have HO3 := Aside0.mk (pw_own_below (own_alloc (own_alloc HH.out.own _) _) hb3)
      have HB3 := Aside0.mk (qe (qg (qg HH.out.below _) _) hb3)
      have HP3 := Aside0.mk (qo (qc (heap_alloc_new wr (.cells #[.int .i64 p.f0, .int .u32 p.f1, .string p.f2, .string p.f3] 24)) _) hb3)
      have HU3 := Aside0.mk (qo (heap_alloc_new (wr.alloc (.cells #[.int .i64 p.f0, .int .u32 p.f1, .string p.f2, .string p.f3] 24)) (.cells #[.int .i64 ru.1, .int .i64 ru.2.1, .int .u32 ru.2.2.1, .int .u32 ru.2.2.2] 67)) hb3)
      rw [World.size_alloc] at HU3
      clear hb3 x0 x1 x2 x3 hl HCK
      by_cases he : checkS ru kind p = 0
      · have ht : (checkS ru kind p != 0) = false := by rw [bne_eq_false_iff_eq]; exact he
        have hid := check_id kind p (by rw [HRU.out]; exact he)
        have hcn := HH.out.cnt p.f0.toNat
        have hsz := blk_lt HH.out.seen
        have hag := again_yes (w.heap.size + 1) c kind p.f0 w3 HS3.out (by omega) (by omega) hcn.1 (by omega)
        have HAG := Aside0.mk hag
        have hr := HL.out
        rw [if_neg (fun q => q he)] at hr
        have HR1 := Aside0.mk hr
        have hcP : w3.cell? ⟨wr.heap.size, 0, none⟩ = some (.int .i64 p.f0) := (qk HP3.out 0).trans rfl
        have HE := Aside0.mk he
        have HCN := Aside0.mk hcn
        have HID := Aside0.mk hid
        clear hr HL hag he hcn hid
        generalize checkS ru kind p = ck at *
        go_wp2_with fail
        refine HAG.out.mono ?_
        rintro e w4 ⟨rfl, hs4, hg4⟩
        have HS4 := Aside0.mk hs4
        have HM4 := Aside0.mk (blk_grown HM3.out hg4 (by simp))
        have HP4 := Aside0.mk (blk_grown HP3.out hg4 (by simp; omega))
        have HU4 := Aside0.mk (blk_grown HU3.out hg4 (by simp; omega))
        have HO4 := Aside0.mk (own_other HO3.out hg4 (.inr (fun q => by have := own_base HO3.out _ q; omega)))
        have HB4 := Aside0.mk (pw_below_grown HB3.out (some (w.heap.size + 1)) HB3.out.size hg4 (fun k hk => by cases hk; omega))
        clear HS3 HM3 HP3 HU3 HO3 hs4 hg4 hcP HAG
        generalize hb : (decide (1 < c p.f0.toNat + 1) && !oftenB kind p.f0) = b at *
        cases b with
        | true =>
          have hr := HR1.out
          rw [if_pos rfl] at hr
          have HR2 := Aside0.mk hr
          clear hr HR1
          go_wp2
          go_ret2
          exact ⟨by rw [← HR2.out]; rfl, HB4.out⟩
        | false =>
          have hr := HR1.out
          rw [if_neg (by simp)] at hr
          have HR2 := Aside0.mk hr
          clear hr HR1
          obtain ⟨vs, hvs⟩ : ∃ vs, valS ru.1 p = vs := ⟨_, rfl⟩
          have hval := fun W => prop_value.calls 20 ru.1 p.f0 p.f1 p.f2 p.f3 _ W (val_f 20 ru.1 p (by omega))
          have hvz := valS_size ru.1 p
          rw [hvs] at hval hvz
          have HV := Aside0.mk hval
          have HVS := Aside0.mk hvs
          have hc0 : w4.cell? ⟨wr.heap.size, 0, none⟩ = some (.int .i64 p.f0) := (qk HP4.out 0).trans rfl
          have hc1 : w4.cell? ⟨wr.heap.size, 1, none⟩ = some (.int .u32 p.f1) := (qk HP4.out 1).trans rfl
          have hc2 : w4.cell? ⟨wr.heap.size, 2, none⟩ = some (.string p.f2) := (qk HP4.out 2).trans rfl
          have hc3 : w4.cell? ⟨wr.heap.size, 3, none⟩ = some (.string p.f3) := (qk HP4.out 3).trans rfl
          have hcu : w4.cell? ⟨wr.heap.size + 1, 0, none⟩ = some (.int .i64 ru.1) := (qk HU4.out 0).trans rfl
          have hnp : some wr.heap.size ≠ u8.ownBlock := fun q => by have := own_lt HH.out.own _ q.symm; omega
          have hnu : some (wr.heap.size + 1) ≠ u8.ownBlock := fun q => by have := own_lt HH.out.own _ q.symm; omega
          obtain ⟨i0, hi0, hz0, hz1, hz2⟩ := info_parts info5
          have hlen := HH.out.len
          have hbig : w.heap.size + 2 ≤ w4.heap.size := by have := HS4.out; have := blk_lt HU4.out; omega
          have HOc := HO4
          have hwr : IntKind.u8.wrap p.f0 = p.f0 % 256 := IntKind.wrap_u8 _
          clear hval hvs HP4 HU4
          go_wp2_with fail
          go_region_held3 (fun w' => w'.cell? ⟨wr.heap.size, 0, none⟩ = some (.int .i64 p.f0) ∧ w'.cell? ⟨wr.heap.size, 1, none⟩ = some (.int .u32 p.f1) ∧ w'.cell? ⟨wr.heap.size, 2, none⟩ = some (.string p.f2) ∧ w'.cell? ⟨wr.heap.size, 3, none⟩ = some (.string p.f3) ∧ w'.cell? ⟨wr.heap.size + 1, 0, none⟩ = some (.int .i64 ru.1) ∧ w4.grownBy w' u8.ownBlock)
            ((refine (fun (hG : w4.grownBy _ u8.ownBlock) => ⟨grow_cell hG hc0 hnp, grow_cell hG hc1 hnp, grow_cell hG hc2 hnp, grow_cell hG hc3 hnp, grow_cell hG hcu hnu, hG⟩) ?_; (first | exact HG.out | exact grow_drew (World.grownBy.refl _ _) | exact grow_drew (grow_alloc (World.grownBy.refl _ _) _))))
            (first
              | (go_at_call 48; refine (HV.out _).mono ?_; rintro e w5 ⟨rfl, hbc⟩; have HOd := Aside0.mk (pw_own_below HOc.out hbc); have HGd := Aside0.mk (grow_below HG.out hbc); clear HOc HG; have HOc := HOd; have HG := HGd; clear HOd HGd)
              | (refine step_append_lies _ (by rfl) _ _ _ (by rfl) (w.heap.size + 2) 5 i0 _ 1 1 Tryz.underlying65 hi0 hz0 hz1 hz2 rfl (by omega) u8 acc.length (nums .u8 acc) (by rfl) ((HOc.out.alloc _).drew) ⟨w4.heap.size, 0, none⟩ 1 1 [.int .u8 (p.f0 % 256)] (by rfl) (by rfl) (World.news_of_block (cs := #[.int .u8 (p.f0 % 256)]) (t := 5) (fr := (0, 0)) (heap_alloc_new w4 _)) (by simp [Value.oneCell']) (by omega) (by unfold maxLen; omega) (by omega) (by simp; omega) _ rfl ?_; intro gq cap w6 ho6 hgrow hat hlt6; have HROW := Aside0.mk (row_either (grow_drew (grow_alloc (World.grownBy.refl w4 u8.ownBlock) (.cells #[.int .u8 (p.f0 % 256)] 5))) hat); have HG := Aside0.mk (grow_row (grow_drew (grow_alloc (World.grownBy.refl w4 u8.ownBlock) (.cells #[.int .u8 (p.f0 % 256)] 5))) hgrow (.inl rfl)); clear HOc hat; have HOc := Aside0.mk ho6; clear ho6)
              | (refine step_append_str (by rfl) _ _ _ _ (by rfl) (w.heap.size + 2) 5 i0 Tryz.underlying65 Tryz.underlying9 hi0 hz0 hz1 hz2 _ (acc.length + 1) (nums .u8 acc ++ [.int .u8 (p.f0 % 256)]) (by rfl) HOc.out vs (by rfl) (by unfold maxLen; omega) (by omega) (Nat.le_trans hbig HG.out.size) ?_; intro v7 w7 ho7 hgrow2; have HGd := Aside0.mk (grow_row HG.out hgrow2 HROW.out); clear HOc HG; have HG := HGd; have HOc := Aside0.mk ho7; clear ho7 HGd))
          have hnb : ∀ k, u8.ownBlock = some k → w.heap.size + 2 ≤ k := fun k q => own_base HH.out.own k q
          have hHH : BHead kind l res w w7 (n + 1) (upd c p.f0.toNat (c p.f0.toNat + 1)) (acc ++ [p.f0 % 256] ++ bytesOf vs) v7 := by
            refine ⟨?_, ?_, ?_, ?_, ?_, ?_, ?_⟩
            · exact (HG.out.block _ (blk_lt HM4.out) (fun q => by have := hnb _ q.symm; omega)).trans HM4.out
            · exact (HG.out.block _ (blk_lt HS4.out) (fun q => by have := hnb _ q.symm; omega)).trans HS4.out
            · have hx := HOc.out
              have e1 : nums .u8 (acc ++ [p.f0 % 256] ++ bytesOf vs) = nums .u8 acc ++ [.int .u8 (p.f0 % 256)] ++ Lib.strCells vs := by simp [nums, bytesOf, Lib.strCells]
              have e2 : (acc ++ [p.f0 % 256] ++ bytesOf vs).length = acc.length + 1 + vs.size := by simp [bytesOf_length]; omega
              rw [e1, e2]; exact hx
            · exact pw_below_grown HB4.out u8.ownBlock HB4.out.size HG.out (fun k q => by have := hnb _ q; omega)
            · rw [← HVS.out]; exact HR2.out
            · intro j
              have := HH.out.cnt j
              have := HH.out.cnt p.f0.toNat
              unfold upd
              split <;> omega
            · have e2 : (acc ++ [p.f0 % 256] ++ bytesOf vs).length = acc.length + 1 + vs.size := by simp [bytesOf_length]; omega
              rw [e2]; omega
          have HF := Aside0.mk hHH
          clear hHH HR2 HM4 HS4 HO4 HB4 HG HOc HROW HV hlen hbc hgrow hgrow2 hc0 hc1 hc2 hc3 hcu hvz HCN HID HE
          go_wp2
          go_roundg g
          case measure => omega
          case rel => exact ⟨n + 1, _, _, by first | rfl | simp, by omega, HF⟩
      · have ht : (checkS ru kind p != 0) = true := by rw [bne_iff_ne]; exact he
        have hr := HL.out
        rw [if_pos he] at hr
        have HR1 := Aside0.mk hr
        clear hr
        generalize checkS ru kind p = ck at *
        go_wp2
        go_ret2
        exact ⟨by rw [← HR1.out]; rfl, HB3.out⟩

theorem prop_Bytes.calls (a0 : Int) (A1 : Option Addr) (c1 : Nat) (l1 : List S24) (r1 : ByteArray) (r2 : Int) (w : World) (hr1 : Kd.C k24 w A1 l1.length l1) (hc1 : l1.length ≤ c1) (h : prop_Bytes.f a0 l1 = some (r1, r2)) :
    Calls Tryz.prog 9 #[.int .i64 a0, .slice A1 l1.length c1] w fun e w' => e = .returned (.tuple #[.string r1, .int .i64 r2]) ∧ Below w.heap.size w w' := by
  have hb : bytesS a0 l1 = (r1, r2) := Option.some.inj h
  unfold bytesS at hb
  by_cases hl : 1000 < l1.length
  · rw [if_pos hl] at hb
    cases hb
    exact (bytes_long a0 A1 c1 l1 w hl).mono fun e w' ⟨he, hw⟩ => ⟨he, hw ▸ Below.refl _ _⟩
  · rw [if_neg hl] at hb
    exact bytes_short a0 A1 c1 l1 w hr1 (by omega) (r1, r2) hb
end Go.Proofs.YtngmipfobcaojaaGreat.HA
end

-- YtngmipfobcaojaaGreatHAhList
section
namespace Go.Proofs.YtngmipfobcaojaaGreat.HA
open Go.RowKit Go.Proofs.YtngmipfobcaojaaGreatW.PrintWords Go.Proofs.YtngmipfobcaojaaGreatW.PrintLast Go.Proofs.YtngmipfobcaojaaGreatW.PrintMore
theorem rule_shape (id kind : Int) (h : hasS (ruleOf id) kind = true) : (∃ f, ((ruleOf id).1, f) ∈ readTab) ∧ 1 ≤ id ∧ id ≤ 42 := by
  have hf : ∀ l : List (Int × Int × Int × Int × Int), (∀ x ∈ l, (∃ f, (x.2.1, f) ∈ readTab) ∧ 1 ≤ x.1 ∧ x.1 ≤ 42) → ∀ r, ruleFind l id = some r → (∃ f, (r.1, f) ∈ readTab) ∧ 1 ≤ id ∧ id ≤ 42 := by
    intro l
    induction l with
    | nil => intro _ r h; simp [ruleFind] at h
    | cons x l ih =>
      intro hx r h
      simp only [ruleFind] at h
      by_cases e : (id == x.1) = true
      · have := hx x List.mem_cons_self
        rw [if_pos e] at h
        rw [← Option.some.inj h, beq_iff_eq.1 e]; exact this
      · rw [if_neg e] at h
        exact ih (fun y hy => hx y (List.mem_cons_of_mem _ hy)) r h
  cases hr : ruleFind ruleTab id with
  | some r =>
    have := hf ruleTab (by
      have hall : ∀ x ∈ ruleTab, (1 ≤ x.2.1 ∧ x.2.1 ≤ 7) ∧ 1 ≤ x.1 ∧ x.1 ≤ 42 := by decide
      intro x hx
      obtain ⟨⟨h1, h2⟩, h3⟩ := hall x hx
      refine ⟨?_, h3⟩
      have : x.2.1 = 1 ∨ x.2.1 = 2 ∨ x.2.1 = 3 ∨ x.2.1 = 4 ∨ x.2.1 = 5 ∨ x.2.1 = 6 ∨ x.2.1 = 7 := by omega
      rcases this with e | e | e | e | e | e | e <;> rw [e] <;> exact ⟨_, by simp [readTab]; rfl⟩) r hr
    have e : ruleOf id = r := by unfold ruleOf; rw [hr]; rfl
    rw [e]; exact this
  | none =>
    exfalso
    have e : ruleOf id = (0, 0, 0, 0) := by unfold ruleOf; rw [hr]; rfl
    have hs : hasS (0, 0, 0, 0) kind = false := by
      unfold hasS
      have : shr .i64 0 (IntKind.u64.wrap kind) = 0 := by unfold shr; simp
      rw [this]
      have : (Go.bits .and .i64 0 1 == 1) = false := by decide
      rw [this]; simp
    rw [e, hs] at h
    exact absurd h (by decide)
def valueS (shape : Int) (text : ByteArray) (at_ : Int) : Int × ByteArray × ByteArray × Int × Int :=
  if shape = 1 then ((oneS text at_ 0).1, ⟨#[]⟩, ⟨#[]⟩, (oneS text at_ 0).2.1, (oneS text at_ 0).2.2)
  else if shape = 2 then ((twoS text at_ 0).1, ⟨#[]⟩, ⟨#[]⟩, (twoS text at_ 0).2.1, (twoS text at_ 0).2.2)
  else if shape = 3 then ((fourS text at_ 0).1, ⟨#[]⟩, ⟨#[]⟩, (fourS text at_ 0).2.1, (fourS text at_ 0).2.2)
  else if shape = 4 then ((varyS text at_ 0).1, ⟨#[]⟩, ⟨#[]⟩, (varyS text at_ 0).2.1, (varyS text at_ 0).2.2)
  else if shape = 5 then (0, (writtenS text at_ 0).1, ⟨#[]⟩, (writtenS text at_ 0).2.1, (writtenS text at_ 0).2.2)
  else if shape = 6 then (0, (dataS text at_ 0).1, ⟨#[]⟩, (dataS text at_ 0).2.1, (dataS text at_ 0).2.2)
  else (0, (pairS text at_ 0).1, (pairS text at_ 0).2.1, (pairS text at_ 0).2.2.1, (pairS text at_ 0).2.2.2)
def idAt (text : ByteArray) (at_ : Int) : Int := wrap64 (getS (takeS text at_ 0 1).1)
def listTo (kind : Int) (text : ByteArray) : Nat → Int → (Nat → Int) → List S24 → List S24 × Int
  | 0, _, c, out => if decide (0 < c 22) && c 21 == 0 then ([], 9) else (out, 0)
  | d + 1, at_, c, out =>
    if ¬ 0 < (text.size : Int) - at_ then (if decide (0 < c 22) && c 21 == 0 then ([], 9) else (out, 0))
    else if hasS (ruleOf (idAt text at_)) kind = false then ([], 9)
    else if (valueS (ruleOf (idAt text at_)).1 text (at_ + 1)).2.2.2.2 ≠ 0 then ([], (valueS (ruleOf (idAt text at_)).1 text (at_ + 1)).2.2.2.2)
    else if checkS (ruleOf (idAt text at_)) kind ⟨idAt text at_, (valueS (ruleOf (idAt text at_)).1 text (at_ + 1)).1, (valueS (ruleOf (idAt text at_)).1 text (at_ + 1)).2.1, (valueS (ruleOf (idAt text at_)).1 text (at_ + 1)).2.2.1⟩ ≠ 0 then
      ([], checkS (ruleOf (idAt text at_)) kind ⟨idAt text at_, (valueS (ruleOf (idAt text at_)).1 text (at_ + 1)).1, (valueS (ruleOf (idAt text at_)).1 text (at_ + 1)).2.1, (valueS (ruleOf (idAt text at_)).1 text (at_ + 1)).2.2.1⟩)
    else if decide (1 < c (idAt text at_).toNat + 1) && !oftenB kind (idAt text at_) then ([], 9)
    else if out.length = 1000 then ([], 4)
    else listTo kind text d (valueS (ruleOf (idAt text at_)).1 text (at_ + 1)).2.2.2.1 (upd c (idAt text at_).toNat (c (idAt text at_).toNat + 1))
      (out ++ [⟨idAt text at_, (valueS (ruleOf (idAt text at_)).1 text (at_ + 1)).1, (valueS (ruleOf (idAt text at_)).1 text (at_ + 1)).2.1, (valueS (ruleOf (idAt text at_)).1 text (at_ + 1)).2.2.1⟩])
def listS (kind : Int) (text : ByteArray) : List S24 × Int := listTo kind text text.size 0 (fun _ => 0) []
def prop_list.f (a0 : Int) (a1 : ByteArray) : Option (List S24 × Int) := if a1.size ≤ 4000000000000000000 then some (listS a0 a1) else none
theorem value_calls (w0 W : World) (gs gc : Nat) (text : ByteArray) (at_ id shape : Int) (f : Nat) (hm : (shape, f) ∈ readTab) (hS : SrcAt w0 W gs gc text at_ 0 id 0 ⟨#[]⟩ ⟨#[]⟩) (h0 : 0 ≤ at_) (h1 : at_ ≤ text.size) (hs : text.size ≤ 4000000000000000000) :
    Calls Tryz.prog f #[.pointer (some ⟨gs, 0, none⟩)] W fun e w' => e = .returned (.tuple #[]) ∧ SrcAt w0 w' gs gc text (valueS shape text at_).2.2.2.1 (valueS shape text at_).2.2.2.2 id (valueS shape text at_).1 (valueS shape text at_).2.1 (valueS shape text at_).2.2.1 ∧ Keep2 W w' gs gc := by
  simp only [readTab, List.mem_cons, List.not_mem_nil, or_false, Prod.mk.injEq] at hm
  rcases hm with ⟨rfl, rfl⟩ | ⟨rfl, rfl⟩ | ⟨rfl, rfl⟩ | ⟨rfl, rfl⟩ | ⟨rfl, rfl⟩ | ⟨rfl, rfl⟩ | ⟨rfl, rfl⟩
  · exact one_calls w0 W gs gc text at_ 0 id 0 _ _ hS h0 h1 hs
  · exact two_calls w0 W gs gc text at_ 0 id 0 _ _ hS h0 h1 hs
  · exact four_calls w0 W gs gc text at_ 0 id 0 _ _ hS h0 h1 hs
  · exact vary_calls w0 W gs gc text at_ 0 id 0 _ _ hS h0 h1 hs
  · exact text_calls w0 W gs gc text at_ 0 id 0 _ _ hS h0 h1 hs
  · exact binary_calls w0 W gs gc text at_ 0 id 0 _ _ hS h0 h1 hs
  · exact pair_calls w0 W gs gc text at_ 0 id 0 _ _ hS h0 h1 hs
theorem reader_enters (shape : Int) (f : Nat) (hm : (shape, f) ∈ readTab) (args : Array Value) (W : World) : (callFunc f args).run Tryz.prog W = .ok (.enter f args) W := by
  simp only [readTab, List.mem_cons, List.not_mem_nil, or_false, Prod.mk.injEq] at hm
  rcases hm with ⟨_, rfl⟩ | ⟨_, rfl⟩ | ⟨_, rfl⟩ | ⟨_, rfl⟩ | ⟨_, rfl⟩ | ⟨_, rfl⟩ | ⟨_, rfl⟩
  · exact enters_ Tryz.func140 (by kernel_rfl) rfl args W
  · exact enters_ Tryz.func141 (by kernel_rfl) rfl args W
  · exact enters_ Tryz.func142 (by kernel_rfl) rfl args W
  · exact enters_ Tryz.func143 (by kernel_rfl) rfl args W
  · exact enters_ Tryz.func144 (by kernel_rfl) rfl args W
  · exact enters_ Tryz.func145 (by kernel_rfl) rfl args W
  · exact enters_ Tryz.func146 (by kernel_rfl) rfl args W
theorem take_ge (text : ByteArray) (at_ err m : Int) : at_ ≤ (takeS text at_ err m).2.1 := by
  unfold takeS
  split
  · split
    · dsimp only; omega
    · exact Int.le_refl _
  · exact Int.le_refl _
theorem need_ge (text : ByteArray) (at_ err m : Int) : at_ ≤ (needS text at_ err m).2.1 := take_ge text at_ _ m
theorem data_ge (text : ByteArray) (at_ err : Int) : at_ ≤ (dataS text at_ err).2.1 := Int.le_trans (need_ge text at_ err 2) (need_ge text _ _ _)
theorem value_at (shape : Int) (text : ByteArray) (at_ : Int) (h0 : 0 ≤ at_) (h1 : at_ ≤ text.size) : at_ ≤ (valueS shape text at_).2.2.2.1 ∧ (valueS shape text at_).2.2.2.1 ≤ text.size := by
  have hd : ∀ a e, 0 ≤ a → a ≤ (text.size : Int) → a ≤ (writtenS text a e).2.1 ∧ (writtenS text a e).2.1 ≤ text.size := fun a e x y => ⟨data_ge text a e, (data_at text a e x y).2⟩
  unfold valueS
  repeat' split
  · exact ⟨need_ge text at_ 0 1, (need_at text at_ 0 1 h0 h1).2⟩
  · exact ⟨need_ge text at_ 0 2, (need_at text at_ 0 2 h0 h1).2⟩
  · exact ⟨need_ge text at_ 0 4, (need_at text at_ 0 4 h0 h1).2⟩
  · exact ⟨take_ge text at_ _ _, (take_at text at_ _ _ h0 h1).2⟩
  · exact hd at_ 0 h0 h1
  · exact ⟨data_ge text at_ 0, (data_at text at_ 0 h0 h1).2⟩
  · have q := hd at_ 0 h0 h1
    have q2 := hd (writtenS text at_ 0).2.1 (writtenS text at_ 0).2.2 (Int.le_trans h0 q.1) q.2
    exact ⟨Int.le_trans q.1 q2.1, q2.2⟩
structure LParts (w wx : World) (c : Nat → Int) (out : List S24) (v8 : Value) : Prop where
  map : wx.heap[w.heap.size]? = some ruleObj
  rd : wx.heap[w.heap.size + 1]? = some readObj
  seen : wx.heap[w.heap.size + 1 + 1]? = some (seenObj c)
  own : Kd.R k24 24 wx w.heap.size (fun _ => True) v8 out
theorem own_kept {w wx w1 : World} {out : List S24} {v8 : Value} {S : Nat → Prop} (h : Kd.R k24 24 wx w.heap.size (fun _ => True) v8 out) (hk : Kept wx w1 S)
    (hS : ∀ k, S k → ∃ (cs : Array Value) (t : TypeId), t ≠ 24 ∧ wx.heap[k]? = some (.cells cs t (0, 0))) : Kd.R k24 24 w1 w.heap.size (fun _ => True) v8 out := by
  refine Kd.R_mono (Kd.R_kept (Kd.R_bound h) hk (fun k hk2 hs => ?_)) (fun _ _ => trivial)
  obtain ⟨cs, t, ht, hc⟩ := hS k hs
  obtain ⟨_, _, _, q, hq, cells, hc'⟩ := hk2
  rw [hc] at hc'
  have e : k24.E = [] := rfl
  rw [e] at hq
  simp at hq hc'
  exact ht (hc'.2.trans hq)
theorem LParts.keep2 {w wx w1 : World} {c : Nat → Int} {out : List S24} {v8 : Value} (P : LParts w wx c out v8) {gs gc : Nat} {text : ByteArray} {at_ err id n : Int} {t v : ByteArray}
    (hS : SrcAt w wx gs gc text at_ err id n t v) (hk : Keep2 wx w1 gs gc) : LParts w w1 c out v8 := by
  have hs := hS.src
  have hc := hS.cur.1
  have ne : ∀ (i : Nat) (o : Obj), wx.heap[i]? = some o → (∀ cs, o ≠ .cells cs 132 (0, 0)) → (∀ cs, o ≠ .cells cs 145 (0, 0)) → w1.heap[i]? = some o := by
    intro i o h h1 h2
    refine (hk.2 i (blk_lt h) ?_ ?_).trans h
    · rintro rfl
      rw [hs] at h
      exact h1 _ (Option.some.inj h).symm
    · rintro rfl
      rw [hc] at h
      exact h2 _ (Option.some.inj h).symm
  refine ⟨ne _ _ P.map ?_ ?_, ne _ _ P.rd ?_ ?_, ne _ _ P.seen ?_ ?_, own_kept P.own (S := fun k => k = gs ∨ k = gc) ⟨hk.1, fun i hi hn => hk.2 i hi (fun e => hn (Or.inl e)) (fun e => hn (Or.inr e))⟩ ?_⟩
  · intro cs e; simp [ruleObj] at e
  · intro cs e; simp [ruleObj] at e
  · intro cs e; simp [readObj] at e
  · intro cs e; simp [readObj] at e
  · intro cs e; simp [seenObj] at e
  · intro cs e; simp [seenObj] at e
  · rintro k (rfl | rfl)
    · exact ⟨_, _, by decide, hs⟩
    · exact ⟨_, _, by decide, hc⟩
theorem LParts.below {w wx w1 : World} {c : Nat → Int} {out : List S24} {v8 : Value} (P : LParts w wx c out v8) (hb : Below wx.heap.size wx w1) : LParts w w1 c out v8 :=
  ⟨qo P.map hb, qo P.rd hb, qo P.seen hb, Kd.R_below P.own hb⟩
theorem LParts.drewN {w wx : World} {c : Nat → Int} {out : List S24} {v8 : Value} (P : LParts w wx c out v8) (m : Nat) : LParts w (wx.drewN m) c out v8 :=
  ⟨P.map, P.rd, P.seen, Kd.R_drewN P.own m⟩
theorem LParts.counted {w wx w1 : World} {c c' : Nat → Int} {out : List S24} {v8 : Value} (P : LParts w wx c out v8) (hg : wx.grownBy w1 (some (w.heap.size + 1 + 1))) (hs : w1.heap[w.heap.size + 1 + 1]? = some (seenObj c')) : LParts w w1 c' out v8 :=
  ⟨blk_grown P.map hg (by simp; omega), blk_grown P.rd hg (by simp), hs, own_kept P.own (S := fun k => k = w.heap.size + 1 + 1) ⟨hg.size, fun i hi hn => hg.block i hi (fun e => hn (Option.some.inj e))⟩ (fun k e => ⟨seenArr c, 64, by decide, by rw [e]; exact P.seen⟩)⟩
theorem SrcAt.counted {w0 W W1 : World} {gs gc : Nat} {text : ByteArray} {at_ err id n : Int} {t v : ByteArray} (h : SrcAt w0 W gs gc text at_ err id n t v) {g : Nat} {c : Nat → Int} (hg : W.grownBy W1 (some g)) (hs : W.heap[g]? = some (seenObj c)) (hlo : w0.heap.size ≤ g) : SrcAt w0 W1 gs gc text at_ err id n t v := by
  have n1 : gs ≠ g := blk_ne h.src hs (by decide)
  have n2 : gc ≠ g := blk_ne h.cur.1 hs (by decide)
  exact ⟨h.cur.grown hg (by simpa using n2), blk_grown h.src hg (by simpa using n1), h.lo, pw_below_grown h.bel (some g) h.bel.size hg (fun k hk => by cases hk; exact hlo)⟩
theorem SrcAt.fresh4 {w0 W : World} {gs gc : Nat} {text : ByteArray} {at_ err id n : Int} {t v : ByteArray} (h : SrcAt w0 W gs gc text at_ err id n t v) (id' n' : Int) (t' v' : ByteArray) :
    SrcAt w0 ((((W.setCell ⟨gs, 1, none⟩ (.int .i64 id')).setCell ⟨gs, 2, none⟩ (.int .u32 n')).setCell ⟨gs, 3, none⟩ (.string t')).setCell ⟨gs, 4, none⟩ (.string v')) gs gc text at_ err id' n' t' v' := by
  have h1 : SrcAt w0 (W.setCell ⟨gs, 1, none⟩ (.int .i64 id')) gs gc text at_ err id' n t v :=
    ⟨h.cur.far (p := ⟨gs, 1, none⟩) (fun e => h.ne e.symm) _, qx h.src 1 _ rfl, h.lo, qw h.bel h.lo⟩
  exact ((h1.set2 n').set3 t').set4 v'
structure LHead (kind : Int) (text : ByteArray) (res : List S24 × Int) (w wx : World) (gs gc : Nat) (d : Nat) (at_ : Int) (c : Nat → Int) (out : List S24) (v8 : Value) : Prop where
  parts : LParts w wx c out v8
  src : ∃ id n t v, SrcAt w wx gs gc text at_ 0 id n t v
  left : listTo kind text d at_ c out = res
  at0 : 0 ≤ at_
  at1 : at_ ≤ text.size
  fuel : (text.size : Int) - at_ ≤ d
  cnt : ∀ j, 0 ≤ c j ∧ c j ≤ out.length
  len : out.length ≤ 1000
theorem take_one (text : ByteArray) (at_ : Int) (h : 0 < (text.size : Int) - at_) : (takeS text at_ 0 1).2 = (at_ + 1, 0) := by
  unfold takeS
  rw [if_pos rfl, if_pos ⟨by omega, by omega⟩]
set_option maxHeartbeats 4000000 in
set_option maxRecDepth 100000 in
theorem prop_list.calls (a0 : Int) (a1 : ByteArray) (r1 : List S24) (r2 : Int) (w : World) (h : prop_list.f a0 a1 = some (r1, r2)) :
    Calls Tryz.prog 54 #[.int .i64 a0, .string a1] w fun e w' => ∃ v0_ : Value, e = .returned (.tuple #[v0_, .int .i64 r2]) ∧ Kd.R k24 24 w' w.heap.size (fun _ => True) v0_ r1 ∧ Below w.heap.size w w' := by
  have hs : a1.size ≤ 4000000000000000000 := by
    unfold prop_list.f at h
    by_cases q : a1.size ≤ 4000000000000000000
    · exact q
    · rw [if_neg q] at h; exact absurd h (by simp)
  have hres : listS a0 a1 = (r1, r2) := by
    unfold prop_list.f at h
    rw [if_pos hs] at h
    exact Option.some.inj h
  clear h
  have HRES := Aside0.mk hres
  clear hres
  have hu := Tryz.underlying132
  go_enter Tryz.func54, Tryz.ntmps54
  go_wp2_with (first
    | (go_at_call 45; refine (prop_rules.calls0 _).mono ?_; rintro e w' ⟨rfl, rfl⟩)
    | (go_at_call 108; refine (prop_readers.calls0 _).mono ?_; rintro e w' ⟨rfl, rfl⟩)
    | ((with_reducible refine q1c (N := 9) rfl ?_); refine q1r ?hg (N := 9) ?hd (cs := seenArr (fun _ => 0)) (t := 64) ?hr ?_; (case hd => rfl); (case hg => rfl); (case hr => kernel_rfl); intro gs hg w1 hbox hb)
    | (go_at_call 109; refine (octet_New.calls a1 a1 0 0 w _ ?s1 rfl).mono ?_; (case s1 => exact qe (qg (qg (Below.refl _ _) _) _) hb); rintro e w2 ⟨gc, rfl, hi, hb1, hb2⟩))
  have hm2 : w2.heap[w.heap.size]? = some ruleObj := (hb2.block _ (by have := hb.size; simp at this; omega)).trans ((hb.block _ (by simp; omega)).trans (qc (heap_alloc_new w _) _))
  have hr2 : w2.heap[w.heap.size + 1]? = some readObj := (hb2.block _ (by have := hb.size; simp at this; omega)).trans ((hb.block _ (by simp)).trans (by have := heap_alloc_new (w.alloc ruleObj) readObj; simpa using this))
  have hs2 : w2.heap[w.heap.size + 1 + 1]? = some (seenObj (fun _ => 0)) := by
    have e : gs = w.heap.size + 1 + 1 := by rw [hg]; simp
    rw [e] at hbox
    exact qo hbox hb2
  have hS : SrcAt w (w2.alloc (.cells #[.pointer (some ⟨gc, 0, none⟩), .int .i64 0, .int .u32 0, .string ⟨#[]⟩, .string ⟨#[]⟩] 132)) w2.heap.size gc a1 0 0 0 0 ⟨#[]⟩ ⟨#[]⟩ :=
    ⟨hi.alloc _, heap_alloc_new w2 _, hb1.size, qg hb1 _⟩
  have H0 : LHead a0 a1 (r1, r2) w _ w2.heap.size gc a1.size 0 (fun _ => 0) [] (.slice none 0 0) :=
    ⟨⟨qc hm2 _, qc hr2 _, qc hs2 _, Kd.R_nil _ _ _ _ _⟩, ⟨0, 0, _, _, hS⟩, HRES.out, by omega, by omega, by omega, fun _ => ⟨by omega, by simp⟩, by simp⟩
  generalize hgq : w2.heap.size = gq at *
  generalize hw3 : w2.alloc (.cells #[.pointer (some ⟨gc, 0, none⟩), .int .i64 0, .int .u32 0, .string ⟨#[]⟩, .string ⟨#[]⟩] 132) = w3 at *
  clear hm2 hr2 hs2 hS hbox hb hi hb1 hb2 hgq hw3 hg HRES
  go_loopg [8] a1.size (fun gk v8 wx => ∃ (at_ : Int) (c : Nat → Int) (out : List S24) (d : Nat), (a1.size : Int) - at_ = gk ∧ Aside0 (LHead a0 a1 (r1, r2) w wx gq gc d at_ c out v8))
  case atStart => exact ⟨0, fun _ => 0, [], a1.size, by omega, ⟨H0⟩⟩
  case round =>
    clear H0
    obtain ⟨at_, c, out, d, hk, HH⟩ := hrel
    obtain ⟨id0, n0, t0, v0, hS0⟩ := HH.out.src
    have hp := hS0.ptr
    have HS0 := Aside0.mk hS0
    clear hS0
    have hat0 := HH.out.at0
    have hat1 := HH.out.at1
    have HP := Aside0.mk HH.out.parts
    go_wp2_with fail
    refine (octet_Cursor_Left.calls gc a1 at_ 0 ((a1.size : Int) - at_) a1 at_ 0 w _ ?s1 ?s2 (left_f a1 at_ 0 hat0 hat1)).mono ?_
    case s1 => exact HS0.out.cur
    case s2 => exact HS0.out.bel
    rintro e w1 ⟨rfl, hi, hb, hk⟩
    have HS1 := Aside0.mk (HS0.out.moved hi hb hk)
    have HP1 := Aside0.mk (HP.out.keep2 HS0.out ((Keep2.refl _ _ _).but hk))
    clear hi hb hk hp HS0 HP
    have hp := HS1.out.ptr
    by_cases hgo : 0 < (a1.size : Int) - at_
    · have tgo : decide (0 < (a1.size : Int) - at_) = true := decide_eq_true hgo
      have htk := take_one a1 at_ hgo
      have hnum := number_f 20 a1 at_ 0 1 (by omega) hat0 hat1 hs
      rw [htk] at hnum
      go_wp2_with fail
      refine (octet_Cursor_Number.calls 20 gc a1 at_ 0 1 _ a1 (at_ + 1) 0 w _ ?s1 ?s2 hnum).mono ?_
      case s1 => exact HS1.out.cur
      case s2 => exact HS1.out.bel
      rintro e w2 ⟨rfl, hi, hb, hk⟩
      have HS2 := Aside0.mk (HS1.out.moved hi hb hk)
      have HP2 := Aside0.mk (HP1.out.keep2 HS1.out ((Keep2.refl _ _ _).but hk))
      clear hi hb hk hp HS1 HP1 hnum htk
      have hl := run_rule_lookup w2 w.heap.size (wrap64 (getS (takeS a1 at_ 0 1).1)) HP2.out.map
      unfold ruleVal at hl
      obtain ⟨d, rfl⟩ : ∃ m, d = m + 1 := ⟨d - 1, by have := HH.out.fuel; omega⟩
      have hleft := HH.out.left
      rw [listTo, if_neg (fun q => q hgo)] at hleft
      have HL := Aside0.mk hleft
      clear hleft
      go_wp2_with fail
      clear hl
      have hidA : wrap64 (getS (takeS a1 at_ 0 1).1) = idAt a1 at_ := rfl
      rw [hidA]
      generalize idAt a1 at_ = id at *
      clear hidA
      have hrs := rule_shape id a0
      generalize ruleOf id = ru at *
      refine (prop_rule_has.calls ru.1 ru.2.1 ru.2.2.1 ru.2.2.2 a0 (hasS ru a0) _ (has_f _ _ _ _ _)).mono ?_
      rintro e w3 ⟨rfl, hb⟩
      have HS3 := Aside0.mk ((HS2.out.grown (qg (Below.refl _ _) _)).grown hb)
      have HP3 := Aside0.mk ((HP2.out.below (qg (Below.refl _ _) _)).below hb)
      have HR3 := Aside0.mk (qo (heap_alloc_new w2 (.cells #[.int .i64 ru.1, .int .i64 ru.2.1, .int .u32 ru.2.2.1, .int .u32 ru.2.2.2] 67)) hb)
      have hgr : w2.heap.size < w3.heap.size := by have := hb.size; simp at this; omega
      clear hb HS2 HP2
      cases hh : hasS ru a0 with
      | false =>
        have hr := HL.out
        rw [hh, if_pos rfl] at hr
        obtain ⟨rfl, rfl⟩ := Prod.mk.inj hr
        clear hr HL
        go_wp2
        go_ret2
        exact ⟨_, rfl, Kd.R_nil _ _ _ _ _, HS3.out.bel⟩
      | true =>
        have hr := HL.out
        rw [hh, if_neg (by decide)] at hr
        have HL3 := Aside0.mk hr
        obtain ⟨⟨f, hf⟩, hid0, hid1⟩ := hrs hh
        clear hr HL hh hrs
        have hx1 := HS3.out.f1
        have hx2 := HS3.out.f2
        have hx3 := HS3.out.f3
        have hx4 := HS3.out.f4
        have hz1 := HS3.out.fz 1
        have hz2 := HS3.out.fz 2
        have hz3 := HS3.out.fz 3
        have hz4 := HS3.out.fz 4
        have hcu : w3.cell? ⟨w2.heap.size, 0, none⟩ = some (.int .i64 ru.1) := (qk HR3.out 0).trans rfl
        have HS4 := Aside0.mk (HS3.out.fresh4 id 0 ⟨#[]⟩ ⟨#[]⟩)
        have HP4 := Aside0.mk (HP3.out.keep2 HS3.out (((((Keep2.refl _ _ _).set 1 (.int .i64 id)).set 2 (.int .u32 0)).set 3 (.string ⟨#[]⟩)).set 4 (.string ⟨#[]⟩)))
        have hne : w2.heap.size ≠ gq := blk_ne HR3.out HS3.out.src (by decide)
        have HR4 := Aside0.mk (blk_far (blk_far (blk_far (blk_far HR3.out (p := ⟨gq, 1, none⟩) hne (.int .i64 id)) (p := ⟨gq, 2, none⟩) hne (.int .u32 0)) (p := ⟨gq, 3, none⟩) hne (.string ⟨#[]⟩)) (p := ⟨gq, 4, none⟩) hne (.string ⟨#[]⟩))
        have hlr := run_read_lookup _ (w.heap.size + 1) ru.1 f HP4.out.rd hf
        have hent := fun args W => reader_enters ru.1 f hf args W
        go_wp2_with fail
        clear hlr hent hx1 hx2 hx3 hx4 hz1 hz2 hz3 hz4 hcu
        refine (value_calls w _ gq gc a1 (at_ + 1) id ru.1 f hf HS4.out (by omega) (by omega) hs).mono ?_
        rintro e w5 ⟨rfl, hS5, hk5⟩
        have HP5 := Aside0.mk (HP4.out.keep2 HS4.out hk5)
        have hne2 : w2.heap.size ≠ gc := blk_ne HR4.out HS4.out.cur.1 (by decide)
        have HR5 := Aside0.mk ((hk5.2 w2.heap.size (blk_lt HR4.out) hne hne2).trans HR4.out)
        have HS5 := Aside0.mk hS5
        have HVA := Aside0.mk (value_at ru.1 a1 (at_ + 1) (by omega) (by omega))
        generalize valueS ru.1 a1 (at_ + 1) = va at *
        clear hS5 hk5 HP4 HS4 HR4 HS3 HP3 HR3
        have hp := HS5.out.ptr
        go_wp2_with fail
        refine (octet_Cursor_Err.calls gc a1 va.2.2.2.1 va.2.2.2.2 va.2.2.2.2 a1 va.2.2.2.1 va.2.2.2.2 w _ ?s1 ?s2 rfl).mono ?_
        case s1 => exact HS5.out.cur
        case s2 => exact HS5.out.bel
        rintro e w6 ⟨rfl, hi, hb, hk⟩
        have HS6 := Aside0.mk (HS5.out.moved hi hb hk)
        have HP6 := Aside0.mk (HP5.out.keep2 HS5.out ((Keep2.refl _ _ _).but hk))
        have HR6 := Aside0.mk ((hk.2 w2.heap.size (blk_lt HR5.out) hne2 (by simp)).trans HR5.out)
        clear hi hb hk hp HS5 HP5 HR5
        by_cases hve : va.2.2.2.2 = 0
        · have t1 : (va.2.2.2.2 != 0) = false := by rw [hve]; rfl
          have hr := HL3.out
          rw [if_neg (fun q => q hve)] at hr
          have HL4 := Aside0.mk hr
          have hx1 := HS6.out.f1
          have hx2 := HS6.out.f2
          have hx3 := HS6.out.f3
          have hx4 := HS6.out.f4
          have hc0 : w6.cell? ⟨w2.heap.size, 0, none⟩ = some (.int .i64 ru.1) := (qk HR6.out 0).trans rfl
          have hc1 : w6.cell? ⟨w2.heap.size, 1, none⟩ = some (.int .i64 ru.2.1) := (qk HR6.out 1).trans rfl
          have hc2 : w6.cell? ⟨w2.heap.size, 2, none⟩ = some (.int .u32 ru.2.2.1) := (qk HR6.out 2).trans rfl
          have hc3 : w6.cell? ⟨w2.heap.size, 3, none⟩ = some (.int .u32 ru.2.2.2) := (qk HR6.out 3).trans rfl
          rw [hve] at HS6
          clear hr HL3
          have HVE := Aside0.mk hve
          clear hve
          go_wp2_with fail
          clear hx1 hx2 hx3 hx4 hc0 hc1 hc2 hc3
          refine (prop_check.calls 2 ru.1 ru.2.1 ru.2.2.1 ru.2.2.2 a0 id va.1 va.2.1 va.2.2.1 (checkS ru a0 ⟨id, va.1, va.2.1, va.2.2.1⟩) _ (check_f 0 ru a0 ⟨id, va.1, va.2.1, va.2.2.1⟩)).mono ?_
          rintro e w7 ⟨rfl, hb⟩
          have HS7 := Aside0.mk (HS6.out.grown hb)
          have HP7 := Aside0.mk (HP6.out.below hb)
          clear hb HS6 HP6 HR6
          obtain ⟨P, hP⟩ : ∃ P : S24, P = ⟨id, va.1, va.2.1, va.2.2.1⟩ := ⟨_, rfl⟩
          rw [← hP] at HL4 ⊢
          by_cases hck : checkS ru a0 P = 0
          · have t2 : (checkS ru a0 P != 0) = false := by rw [hck]; rfl
            have hr := HL4.out
            rw [if_neg (fun q => q hck)] at hr
            have HL5 := Aside0.mk hr
            clear hr HL4 hck
            generalize checkS ru a0 P = ck at *
            have hcn := HH.out.cnt id.toNat
            have hln := HH.out.len
            have hag := again_yes (w.heap.size + 1 + 1) c a0 id w7 HP7.out.seen (by omega) (by omega) hcn.1 (by omega)
            have HCN := Aside0.mk hcn
            clear hcn
            go_wp2_with fail
            refine hag.mono ?_
            clear hag
            rintro e w8 ⟨rfl, hs8, hg8⟩
            have HS8 := Aside0.mk (HS7.out.counted hg8 HP7.out.seen (by omega))
            have HP8 := Aside0.mk (HP7.out.counted hg8 hs8)
            clear hs8 hg8 HS7 HP7
            generalize hbb : (decide (1 < c id.toNat + 1) && !oftenB a0 id) = bb at *
            cases bb with
            | true =>
              have hr := HL5.out
              rw [if_pos rfl] at hr
              obtain ⟨rfl, rfl⟩ := Prod.mk.inj hr
              clear hr HL5
              go_wp2
              go_ret2
              exact ⟨_, rfl, Kd.R_nil _ _ _ _ _, HS8.out.bel⟩
            | false =>
              have hr := HL5.out
              rw [if_neg (by simp)] at hr
              have HL6 := Aside0.mk hr
              clear hr HL5
              obtain ⟨A8, c8, rfl⟩ := Kd.R_slice HP8.out.own
              by_cases hl1 : out.length = 1000
              · have t3 : ((out.length : Int) == 1000) = true := beq_iff_eq.2 (by omega)
                have hr := HL6.out
                rw [if_pos hl1] at hr
                obtain ⟨rfl, rfl⟩ := Prod.mk.inj hr
                clear hr HL6 hl1
                go_wp2
                go_ret2
                exact ⟨_, rfl, Kd.R_nil _ _ _ _ _, HS8.out.bel⟩
              · have t3 : ((out.length : Int) == 1000) = false := beq_eq_false_iff_ne.2 (by omega)
                have hr := HL6.out
                rw [if_neg hl1] at hr
                have HL7 := Aside0.mk hr
                have hx1 := HS8.out.f1
                have hx2 := HS8.out.f2
                have hx3 := HS8.out.f3
                have hx4 := HS8.out.f4
                have HLN := Aside0.mk hl1
                clear hr HL6 hl1
                go_wp2_with (((with_reducible refine q1c (N := 67) rfl ?_); refine Kd.R_append k24 (w0 := w) w.heap.size (by rfl) (.tmp 63) (.tmp 66) 25 24 (.agg #[(.int .i64 0), (.int .u32 0), (.string ⟨#[]⟩), (.string ⟨#[]⟩)]) 48 rfl Tryz.underlying25 info24 rfl (by decide) (by omega) (.slice A8 out.length c8) out ⟨id, va.1, va.2.1, va.2.2.1⟩ [.int .i64 id, .int .u32 va.1, .string va.2.1, .string va.2.2.1] (fun _ => True) (fun _ => False) rfl rfl (k24_mkM _ _ _ ⟨id, va.1, va.2.1, va.2.2.1⟩) (fun _ h => h.elim) (fun _ _ => trivial) HP8.out.own HS8.out.bel HS8.out.bel.size (by omega) ?_; intro v9 w9 ho9 hb9 hg9 hat9))
                have hown : ∀ k, (.slice A8 out.length c8 : Value).ownBlock = some k → ∃ cells, w8.heap[k]? = some (.cells cells 24 (0, 0)) := by
                  obtain ⟨inner, ho⟩ := Kd.R_own HP8.out.own
                  exact fun k hk => own_typed ho k hk
                have hnot : ∀ (g : Nat) (o : Obj), w8.heap[g]? = some o → (∀ cells, o ≠ .cells cells 24 (0, 0)) → some g ≠ (.slice A8 out.length c8 : Value).ownBlock := by
                  intro g o ho hn e
                  obtain ⟨cells, hc⟩ := hown g e.symm
                  rw [hc] at ho
                  exact hn cells (Option.some.inj ho).symm
                have hS9 : SrcAt w w9 gq gc a1 va.2.2.2.1 0 id va.1 va.2.1 va.2.2.1 :=
                  ⟨HS8.out.cur.grown hg9 (hnot _ _ HS8.out.cur.1 (fun cells e => by simp at e)), blk_grown HS8.out.src hg9 (hnot _ _ HS8.out.src (fun cells e => by simp [srcObj] at e)), HS8.out.lo, hb9⟩
                have hP9 : LParts w w9 (upd c id.toNat (c id.toNat + 1)) (out ++ [⟨id, va.1, va.2.1, va.2.2.1⟩]) v9 :=
                  ⟨blk_grown HP8.out.map hg9 (hnot _ _ HP8.out.map (fun cells e => by simp [ruleObj] at e)), blk_grown HP8.out.rd hg9 (hnot _ _ HP8.out.rd (fun cells e => by simp [readObj] at e)), blk_grown HP8.out.seen hg9 (hnot _ _ HP8.out.seen (fun cells e => by simp [seenObj] at e)), ho9⟩
                have hva := HVA.out
                have hlen8 := HLN.out
                have hfu := HH.out.fuel
                have hH9 : LHead a0 a1 (r1, r2) w w9 gq gc d va.2.2.2.1 (upd c id.toNat (c id.toNat + 1)) (out ++ [⟨id, va.1, va.2.1, va.2.2.1⟩]) v9 := by
                  refine ⟨hP9, ⟨_, _, _, _, hS9⟩, ?_, by omega, hva.2, by omega, ?_, by simp; omega⟩
                  · rw [← hP]; exact HL7.out
                  · intro j
                    have q1 := HH.out.cnt j
                    have q2 := HH.out.cnt id.toNat
                    unfold upd
                    simp only [List.length_append, List.length_cons, List.length_nil]
                    split <;> omega
                have HF := Aside0.mk hH9
                clear hH9 hP9 hS9 hnot hown ho9 hb9 hg9 hat9 HL7 HP8 HS8 hP HCN HVE
                go_wp2
                go_roundg (((a1.size : Int) - va.2.2.2.1).toNat)
                case measure => omega
                case rel => exact ⟨va.2.2.2.1, _, _, d, by omega, HF⟩
          · have t2 : (checkS ru a0 P != 0) = true := bne_iff_ne.2 hck
            have hr := HL4.out
            rw [if_pos hck] at hr
            obtain ⟨rfl, rfl⟩ := Prod.mk.inj hr
            clear hr HL4 hck
            subst hP
            go_wp2
            go_ret2
            exact ⟨_, rfl, Kd.R_nil _ _ _ _ _, HS7.out.bel⟩
        · have t1 : (va.2.2.2.2 != 0) = true := bne_iff_ne.2 hve
          have hr := HL3.out
          rw [if_pos hve] at hr
          obtain ⟨rfl, rfl⟩ := Prod.mk.inj hr
          clear hr HL3 hve
          go_wp2
          go_ret2
          exact ⟨_, rfl, Kd.R_nil _ _ _ _ _, HS6.out.bel⟩
    · have tgo : decide (0 < (a1.size : Int) - at_) = false := decide_eq_false hgo
      have hleft : (if decide (0 < c 22) && c 21 == 0 then ([], 9) else (out, 0)) = (r1, r2) := by
        have := HH.out.left
        cases d with
        | zero => exact this
        | succ d => rw [listTo, if_pos hgo] at this; exact this
      have hlo := lone_any (w.heap.size + 1 + 1) c w1 HP1.out.seen
      generalize (decide (0 < c 22) && c 21 == 0) = b at *
      obtain ⟨A8, c8, rfl⟩ := Kd.R_slice HP1.out.own
      have HLO := Aside0.mk hlo
      clear hlo
      cases b with
      | true =>
        obtain ⟨rfl, rfl⟩ := Prod.mk.inj (show (([], 9) : List S24 × Int) = (r1, r2) from hleft)
        clear hleft
        go_wp2_with (go_at_call 49; refine HLO.out.mono ?_; rintro e w' ⟨rfl, rfl⟩)
        go_ret2
        exact ⟨_, rfl, Kd.R_nil _ _ _ _ _, HS1.out.bel⟩
      | false =>
        obtain ⟨rfl, rfl⟩ := Prod.mk.inj (show ((out, 0) : List S24 × Int) = (r1, r2) from hleft)
        clear hleft
        go_wp2_with (go_at_call 49; refine HLO.out.mono ?_; rintro e w' ⟨rfl, rfl⟩)
        go_ret2
        exact ⟨_, rfl, HP1.out.own, HS1.out.bel⟩
end Go.Proofs.YtngmipfobcaojaaGreat.HA
end

-- YtngmipfobcaojaaGreatHA101
section
namespace Go.Proofs.YtngmipfobcaojaaGreat.HA
open Go.RowKit Go.Proofs.YtngmipfobcaojaaGreatW.PrintWords Go.Proofs.YtngmipfobcaojaaGreatW.PrintLast Go.Proofs.YtngmipfobcaojaaGreatW.PrintMore
attribute [local go_sem] q1k q1j q1s q1t q1a q19 q1h q1i

def prop_Read.f (k : Nat) (a0 : Int) (a1 : ByteArray) : Option ((List (S24)) × Int × Int) := (varint_Read.f k a1).bind fun bt551 => (if bt551.2.2 = 0 then (if bt551.1 > (wrap64 ((a1.size : Int) - bt551.2.1)) then (some (([] : List (S24)), 0, 3)) else (if 0 ≤ bt551.2.1 then (if bt551.2.1 ≤ (wrap64 (bt551.2.1 + bt551.1)) then (if (wrap64 (bt551.2.1 + bt551.1)) ≤ (a1.size : Int) then ((prop_list.f a0 (a1.extract (bt551.2.1 : Int).toNat ((wrap64 (bt551.2.1 + bt551.1)) : Int).toNat)).bind fun bt554 => (if bt554.2 = 0 then (some (bt554.1, wrap64 (bt551.2.1 + bt551.1), 0)) else (some (([] : List (S24)), 0, bt554.2)))) else (none)) else (none)) else (none))) else (some (([] : List (S24)), 0, bt551.2.2)))
theorem z63_0 {p : Prop} (h : p := by repeat (first | (with_reducible first | exact HB.out | apply qg | apply qa | apply qi) | exact HB.out)) : p := h
theorem z63_1 {p : Prop} (h : p := by (try simp only [List.map_toArray, List.map_cons, List.map_nil]); first | done | rfl | (simp only [List.length_drop, List.length_take]; rfl)) : p := h
theorem z63_2 {p : Prop} (h : p := by first | rfl | (simp [qq, qp] <;> rfl) | (simp [*, qq, qp] <;> rfl)) : p := h
theorem z63_3 {p : Prop} (h : p := by first | exact Kd.R_nil _ _ _ _ _ | exact Kd.N_nil _ _ _ _ _ | exact Kd.V_nil _ _ _ _ _ | exact Kd.Q_nil _ _ _ _ _ | exact Kd.S_nil _ _ _ _ _) : p := h
set_option maxHeartbeats 8000000 in
set_option maxRecDepth 100000 in
theorem prop_Read.calls (k : Nat) (a0 : Int) (a1 : ByteArray) (r1 : List (S24)) (r2 : Int) (r3 : Int) (w : World) (h : prop_Read.f k a0 a1 = some (r1, r2, r3)) :
  Calls Tryz.prog 12 #[.int .i64 a0, .string a1] w fun e w' => ∃ v0_ : Value, e = .returned (.tuple #[v0_, .int .i64 r2, .int .i64 r3]) ∧ Kd.R k24 24 w' w.heap.size (fun _ => True) v0_ r1 ∧ Below w.heap.size w w' := by
 have HB := Aside0.mk (Below.refl w.heap.size w)
 have H : ((varint_Read.f k a1).bind fun bt551 => (if bt551.2.2 = 0 then (if bt551.1 > (wrap64 ((a1.size : Int) - bt551.2.1)) then (some (([] : List (S24)), 0, 3)) else (if 0 ≤ bt551.2.1 then (if bt551.2.1 ≤ (wrap64 (bt551.2.1 + bt551.1)) then (if (wrap64 (bt551.2.1 + bt551.1)) ≤ (a1.size : Int) then ((prop_list.f a0 (a1.extract (bt551.2.1 : Int).toNat ((wrap64 (bt551.2.1 + bt551.1)) : Int).toNat)).bind fun bt554 => (if bt554.2 = 0 then (some (bt554.1, wrap64 (bt551.2.1 + bt551.1), 0)) else (some (([] : List (S24)), 0, bt554.2)))) else (none)) else (none)) else (none))) else (some (([] : List (S24)), 0, bt551.2.2)))) = some (r1, r2, r3) := h
 clear h
 replace H := Option.bind_eq_some_iff.mp H
 obtain ⟨⟨t551, t552, t553⟩, A30, H⟩ := H
 replace H : (if t553 = 0 then (if t551 > (wrap64 ((a1.size : Int) - t552)) then (some (([] : List (S24)), 0, 3)) else (if 0 ≤ t552 then (if t552 ≤ (wrap64 (t552 + t551)) then (if (wrap64 (t552 + t551)) ≤ (a1.size : Int) then ((prop_list.f a0 (a1.extract (t552 : Int).toNat ((wrap64 (t552 + t551)) : Int).toNat)).bind fun bt554 => (if bt554.2 = 0 then (some (bt554.1, wrap64 (t552 + t551), 0)) else (some (([] : List (S24)), 0, bt554.2)))) else (none)) else (none)) else (none))) else (some (([] : List (S24)), 0, t553))) = some (r1, r2, r3) := H
 have A3 := Aside0.mk A30
 clear A30
 by_cases c4 : t553 = 0
 ·rw [if_pos c4] at H
  have c4b0 : (t553 == 0) = true := beq_iff_eq.mpr c4
  have c4b1 : (t553 != 0) = false := bne_eq_false_iff_eq.mpr c4
  clear c4
  by_cases c5 : t551 > (wrap64 ((a1.size : Int) - t552))
  ·rw [if_pos c5] at H
   have c5b0 : decide ((wrap64 ((a1.size : Int) - t552)) < t551) = true := decide_eq_true c5
   clear c5
   simp only [Option.some.injEq, Prod.mk.injEq] at H
   obtain ⟨rfl, rfl, rfl⟩ := H
   go_enter Tryz.func12, Tryz.ntmps12
   go_wp2_with (first | ((with_reducible refine ql (f := 53) rfl ?_); refine q1b (some 10) rfl rfl Tryz.func53 (by kernel_rfl) rfl #[.string a1] rfl z63_1 ?_; (with_reducible refine (varint_Read.calls k a1 t551 t552 t553 _ A3.out).mono ?_); rintro e w6 ⟨rfl, hb⟩; refine ⟨_, rfl, ?_⟩; have n0_ := Aside0.mk (qe z63_0 hb); clear HB; have HB := n0_; clear n0_; (try clear hb); (try clear hb2); (try clear hk); (try clear hi)))
   go_ret3
   exact ⟨_, z63_2, z63_3, z63_0⟩
  rw [if_neg c5] at H
  have c5b0 : decide ((wrap64 ((a1.size : Int) - t552)) < t551) = false := decide_eq_false c5
  clear c5
  by_cases c7 : 0 ≤ t552
  ·rw [if_pos c7] at H
   have c7b0 := eq_true c7
   have c7b1 : decide (0 ≤ t552) = true := decide_eq_true c7
   clear c7
   by_cases c8 : t552 ≤ (wrap64 (t552 + t551))
   ·rw [if_pos c8] at H
    have c8b0 := eq_true c8
    have c8b1 : decide (t552 ≤ (wrap64 (t552 + t551))) = true := decide_eq_true c8
    by_cases c9 : (wrap64 (t552 + t551)) ≤ (a1.size : Int)
    ·rw [if_pos c9] at H
     have c9b0 := eq_true c9
     have c9b1 : decide ((wrap64 (t552 + t551)) ≤ (a1.size : Int)) = true := decide_eq_true c9
     replace H := Option.bind_eq_some_iff.mp H
     obtain ⟨⟨t554, t555⟩, A100, H⟩ := H
     replace H : (if t555 = 0 then (some (t554, wrap64 (t552 + t551), 0)) else (some (([] : List (S24)), 0, t555))) = some (r1, r2, r3) := H
     have A10 := Aside0.mk A100
     clear A100
     by_cases c11 : t555 = 0
     ·rw [if_pos c11] at H
      have c11b0 : (t555 == 0) = true := beq_iff_eq.mpr c11
      have c11b1 : (t555 != 0) = false := bne_eq_false_iff_eq.mpr c11
      clear c11
      simp only [Option.some.injEq, Prod.mk.injEq] at H
      obtain ⟨rfl, rfl, rfl⟩ := H
      go_enter Tryz.func12, Tryz.ntmps12
      go_wp2_with (first | ((with_reducible refine ql (f := 53) rfl ?_); refine q1b (some 10) rfl rfl Tryz.func53 (by kernel_rfl) rfl #[.string a1] rfl z63_1 ?_; (with_reducible refine (varint_Read.calls k a1 t551 t552 t553 _ A3.out).mono ?_); rintro e w12 ⟨rfl, hb⟩; refine ⟨_, rfl, ?_⟩; have n0_ := Aside0.mk (qe z63_0 hb); clear HB; have HB := n0_; clear n0_; (try clear hb); (try clear hb2); (try clear hk); (try clear hi)) | ((with_reducible refine ql (f := 54) rfl ?_); refine q1b (some 31) rfl rfl Tryz.func54 (by kernel_rfl) rfl #[.int .i64 a0, .string (a1.extract (t552 : Int).toNat ((wrap64 (t552 + t551)) : Int).toNat)] rfl z63_1 ?_; (with_reducible refine (prop_list.calls a0 (a1.extract (t552 : Int).toNat ((wrap64 (t552 + t551)) : Int).toNat) t554 t555 _ A10.out).mono ?_); rintro e w13 ⟨v556, rfl, ho0, hb⟩; refine ⟨_, rfl, ?_⟩; have n0_ := Aside0.mk (Kd.R_lower ho0 (qm z63_0)); have n1_ := Aside0.mk (qe z63_0 hb); clear HB; have HO557 := n0_; have HB := n1_; clear n0_ n1_; (try clear hb); (try clear hb2); (try clear hk); (try clear hi); (try clear ho0)))
      go_ret3
      exact ⟨_, z63_2, (by (with_reducible repeat (first | apply Kd.R_alloc | apply Kd.R_drewN | apply Kd.R_drew)); exact HO557.out), z63_0⟩
     rw [if_neg c11] at H
     have c11b0 : (t555 == 0) = false := beq_eq_false_iff_ne.mpr c11
     have c11b1 : (t555 != 0) = true := bne_iff_ne.mpr c11
     simp only [Option.some.injEq, Prod.mk.injEq] at H
     obtain ⟨rfl, rfl, rfl⟩ := H
     go_enter Tryz.func12, Tryz.ntmps12
     go_wp2_with (first | ((with_reducible refine ql (f := 53) rfl ?_); refine q1b (some 10) rfl rfl Tryz.func53 (by kernel_rfl) rfl #[.string a1] rfl z63_1 ?_; (with_reducible refine (varint_Read.calls k a1 t551 t552 t553 _ A3.out).mono ?_); rintro e w14 ⟨rfl, hb⟩; refine ⟨_, rfl, ?_⟩; have n0_ := Aside0.mk (qe z63_0 hb); clear HB; have HB := n0_; clear n0_; (try clear hb); (try clear hb2); (try clear hk); (try clear hi)) | ((with_reducible refine ql (f := 54) rfl ?_); refine q1b (some 31) rfl rfl Tryz.func54 (by kernel_rfl) rfl #[.int .i64 a0, .string (a1.extract (t552 : Int).toNat ((wrap64 (t552 + t551)) : Int).toNat)] rfl z63_1 ?_; (with_reducible refine (prop_list.calls a0 (a1.extract (t552 : Int).toNat ((wrap64 (t552 + t551)) : Int).toNat) t554 t555 _ A10.out).mono ?_); rintro e w15 ⟨v556, rfl, ho0, hb⟩; refine ⟨_, rfl, ?_⟩; have n0_ := Aside0.mk (Kd.R_lower ho0 (qm z63_0)); have n1_ := Aside0.mk (qe z63_0 hb); clear HB; have HO557 := n0_; have HB := n1_; clear n0_ n1_; (try clear hb); (try clear hb2); (try clear hk); (try clear hi); (try clear ho0)))
     go_ret3
     exact ⟨_, z63_2, z63_3, z63_0⟩
    rw [if_neg c9] at H
    exact absurd H (by simp)
   rw [if_neg c8] at H
   exact absurd H (by simp)
  rw [if_neg c7] at H
  exact absurd H (by simp)
 rw [if_neg c4] at H
 have c4b0 : (t553 == 0) = false := beq_eq_false_iff_ne.mpr c4
 have c4b1 : (t553 != 0) = true := bne_iff_ne.mpr c4
 simp only [Option.some.injEq, Prod.mk.injEq] at H
 obtain ⟨rfl, rfl, rfl⟩ := H
 go_enter Tryz.func12, Tryz.ntmps12
 go_wp2_with (first | ((with_reducible refine ql (f := 53) rfl ?_); refine q1b (some 10) rfl rfl Tryz.func53 (by kernel_rfl) rfl #[.string a1] rfl z63_1 ?_; (with_reducible refine (varint_Read.calls k a1 t551 t552 t553 _ A3.out).mono ?_); rintro e w16 ⟨rfl, hb⟩; refine ⟨_, rfl, ?_⟩; have n0_ := Aside0.mk (qe z63_0 hb); clear HB; have HB := n0_; clear n0_; (try clear hb); (try clear hb2); (try clear hk); (try clear hi)))
 go_ret3
 exact ⟨_, z63_2, z63_3, z63_0⟩

end Go.Proofs.YtngmipfobcaojaaGreat.HA
end

-- YtngmipfobcaojaaGreatHA102
section
namespace Go.Proofs.YtngmipfobcaojaaGreat.HA
open Go.RowKit Go.Proofs.YtngmipfobcaojaaGreatW.PrintWords Go.Proofs.YtngmipfobcaojaaGreatW.PrintLast Go.Proofs.YtngmipfobcaojaaGreatW.PrintMore
attribute [local go_sem] q1k q1j q1s q1t q1a q19 q1h q1i

def q1g.l0 : Nat → ByteArray → Int → Int → Int → Option (Int × Int × Int)
 | 0, _, _, _, _ => none
 | k + 1, x0, x5, x6, x7 => if x7 < 4 then (if x7 ≥ (x0.size : Int) then (some (0, 0, 3)) else (if 0 ≤ x7 then (if x7 < (x0.size : Int) then (if (bt x0 x7) < 128 then (if x7 > 0 then (if (bt x0 x7) = 0 then (some (0, 0, 5)) else (some (wrap64 (x5 + (wrap64 ((wrap64 (Int.tmod (bt x0 x7) 128)) * x6))), wrap64 (x7 + 1), 0))) else (some (wrap64 (x5 + (wrap64 ((wrap64 (Int.tmod (bt x0 x7) 128)) * x6))), wrap64 (x7 + 1), 0))) else (q1g.l0 k x0 (wrap64 (x5 + (wrap64 ((wrap64 (Int.tmod (bt x0 x7) 128)) * x6)))) (wrap64 (x6 * 128)) (wrap64 (x7 + 1)))) else (none)) else (none))) else (some (0, 0, 5))
def q1g.f (k : Nat) (a0 : ByteArray) : Option (Int × Int × Int) := q1g.l0 k a0 0 1 0
theorem z64_0 {p : Prop} (h : p := by first | (with_reducible assumption) | assumption) : p := h
theorem z64_1 {p : Prop} (h : p := by first | rfl | (simp; done) | (simp [*]; done) | (simp; exact qh _) | exact qh _ | (simp; exact (qh _).symm) | (simp; exact q15 _)) : p := h
theorem z64_2 {p : Prop} (h : p := by repeat (first | exact Drawn0.refl _ | apply Drawn0.step)) : p := h
set_option maxHeartbeats 8000000 in
set_option maxRecDepth 100000 in
theorem q1g.calls (k : Nat) (a0 : ByteArray) (r1 : Int) (r2 : Int) (r3 : Int) (w : World) (h : q1g.f k a0 = some (r1, r2, r3)) :
  Calls Tryz.prog 55 #[.string a0] w fun e w' => e = .returned (.tuple #[.int .i64 r1, .int .i64 r2, .int .i64 r3]) ∧ Drawn0 w w' := by
 have H : (q1g.l0 k a0 0 1 0) = some (r1, r2, r3) := h
 clear h
 have H' := Aside0.mk H
 clear H
 go_enter Tryz.func55, Tryz.ntmps55
 go_wp2
 go_loopg [5, 6, 7] k (fun kq v5 v6 v7 w' => ∃ (x5_1 : Int) (x6_1 : Int) (x7_1 : Int), v5 = .int .i64 x5_1 ∧ v6 = .int .i64 x6_1 ∧ v7 = .int .i64 x7_1 ∧ Aside0 (q1g.l0 kq a0 x5_1 x6_1 x7_1 = some (r1, r2, r3)) ∧ Aside0 (kq ≤ k) ∧ Drawn0 w w')
 case atStart => exact ⟨(0), (1), (0), z64_1, z64_1, z64_1, H', ⟨Nat.le_refl _⟩, by repeat (first | exact Drawn0.refl _ | apply Drawn0.step)⟩
 case round =>
  clear H'
  obtain ⟨x5_1, x6_1, x7_1, rfl, rfl, rfl, HA, HK1, ⟨m1, rfl⟩⟩ := hrel
  cases gk with
  | zero => exact absurd HA.out (by simp [q1g.l0])
  | succ k1 =>
   have H := HA.out
   clear HA
   simp only [q1g.l0] at H
   by_cases c2 : x7_1 < 4
   ·rw [if_pos c2] at H
    have c2b0 : decide (x7_1 < 4) = true := decide_eq_true c2
    clear c2
    by_cases c3 : x7_1 ≥ (a0.size : Int)
    ·rw [if_pos c3] at H
     have c3b0 : decide ((a0.size : Int) ≤ x7_1) = true := decide_eq_true c3
     clear c3
     simp only [Option.some.injEq, Prod.mk.injEq] at H
     obtain ⟨rfl, rfl, rfl⟩ := H
     go_wp2
     go_ret3
     exact ⟨z64_1, z64_2⟩
    rw [if_neg c3] at H
    have c3b0 : decide ((a0.size : Int) ≤ x7_1) = false := decide_eq_false c3
    clear c3
    by_cases c4 : 0 ≤ x7_1
    ·rw [if_pos c4] at H
     have c4b0 : decide (0 ≤ x7_1) = true := decide_eq_true c4
     clear c4
     by_cases c5 : x7_1 < (a0.size : Int)
     ·rw [if_pos c5] at H
      have c5b0 : decide (x7_1 < (a0.size : Int)) = true := decide_eq_true c5
      clear c5
      by_cases c8 : (bt a0 x7_1) < 128
      ·rw [if_pos c8] at H
       have c8b0 : decide ((bt a0 x7_1) < 128) = true := decide_eq_true c8
       clear c8
       by_cases c9 : x7_1 > 0
       ·rw [if_pos c9] at H
        have c9b0 : decide (0 < x7_1) = true := decide_eq_true c9
        clear c9
        by_cases c11 : (bt a0 x7_1) = 0
        ·rw [if_pos c11] at H
         have c11b0 : ((bt a0 x7_1) == 0) = true := beq_iff_eq.mpr c11
         have c11b1 : ((bt a0 x7_1) != 0) = false := bne_eq_false_iff_eq.mpr c11
         clear c11
         simp only [Option.some.injEq, Prod.mk.injEq] at H
         obtain ⟨rfl, rfl, rfl⟩ := H
         have p6 : 0 ≤ (x7_1 : Int) := of_decide_eq_true z64_0
         have q6 : x7_1 < (a0.size : Int) := of_decide_eq_true z64_0
         have hx6 := bt_at a0 x7_1
         replace p6 := eq_true p6
         replace q6 := eq_true q6
         have p7 : 0 ≤ (x7_1 : Int) := of_decide_eq_true z64_0
         have q7 : x7_1 < (a0.size : Int) := of_decide_eq_true z64_0
         have hx7 := bt_at a0 x7_1
         replace p7 := eq_true p7
         replace q7 := eq_true q7
         have p10 : 0 ≤ (x7_1 : Int) := of_decide_eq_true z64_0
         have q10 : x7_1 < (a0.size : Int) := of_decide_eq_true z64_0
         have hx10 := bt_at a0 x7_1
         replace p10 := eq_true p10
         replace q10 := eq_true q10
         go_wp2
         go_ret3
         exact ⟨z64_1, z64_2⟩
        rw [if_neg c11] at H
        have c11b0 : ((bt a0 x7_1) == 0) = false := beq_eq_false_iff_ne.mpr c11
        have c11b1 : ((bt a0 x7_1) != 0) = true := bne_iff_ne.mpr c11
        simp only [Option.some.injEq, Prod.mk.injEq] at H
        obtain ⟨rfl, rfl, rfl⟩ := H
        have p6 : 0 ≤ (x7_1 : Int) := of_decide_eq_true z64_0
        have q6 : x7_1 < (a0.size : Int) := of_decide_eq_true z64_0
        have hx6 := bt_at a0 x7_1
        replace p6 := eq_true p6
        replace q6 := eq_true q6
        have p7 : 0 ≤ (x7_1 : Int) := of_decide_eq_true z64_0
        have q7 : x7_1 < (a0.size : Int) := of_decide_eq_true z64_0
        have hx7 := bt_at a0 x7_1
        replace p7 := eq_true p7
        replace q7 := eq_true q7
        have p10 : 0 ≤ (x7_1 : Int) := of_decide_eq_true z64_0
        have q10 : x7_1 < (a0.size : Int) := of_decide_eq_true z64_0
        have hx10 := bt_at a0 x7_1
        replace p10 := eq_true p10
        replace q10 := eq_true q10
        go_wp2
        go_ret3
        exact ⟨z64_1, z64_2⟩
       rw [if_neg c9] at H
       have c9b0 : decide (0 < x7_1) = false := decide_eq_false c9
       clear c9
       simp only [Option.some.injEq, Prod.mk.injEq] at H
       obtain ⟨rfl, rfl, rfl⟩ := H
       have p6 : 0 ≤ (x7_1 : Int) := of_decide_eq_true z64_0
       have q6 : x7_1 < (a0.size : Int) := of_decide_eq_true z64_0
       have hx6 := bt_at a0 x7_1
       replace p6 := eq_true p6
       replace q6 := eq_true q6
       have p7 : 0 ≤ (x7_1 : Int) := of_decide_eq_true z64_0
       have q7 : x7_1 < (a0.size : Int) := of_decide_eq_true z64_0
       have hx7 := bt_at a0 x7_1
       replace p7 := eq_true p7
       replace q7 := eq_true q7
       go_wp2
       go_ret3
       exact ⟨z64_1, z64_2⟩
      rw [if_neg c8] at H
      have c8b0 : decide ((bt a0 x7_1) < 128) = false := decide_eq_false c8
      clear c8
      have H' := Aside0.mk H
      clear H
      have p6 : 0 ≤ (x7_1 : Int) := of_decide_eq_true z64_0
      have q6 : x7_1 < (a0.size : Int) := of_decide_eq_true z64_0
      have hx6 := bt_at a0 x7_1
      replace p6 := eq_true p6
      replace q6 := eq_true q6
      have p7 : 0 ≤ (x7_1 : Int) := of_decide_eq_true z64_0
      have q7 : x7_1 < (a0.size : Int) := of_decide_eq_true z64_0
      have hx7 := bt_at a0 x7_1
      replace p7 := eq_true p7
      replace q7 := eq_true q7
      go_wp2
      go_roundg k1
      case measure => have := HK1.out; omega
      case rel => exact ⟨(wrap64 (x5_1 + (wrap64 ((wrap64 (Int.tmod (bt a0 x7_1) 128)) * x6_1)))), (wrap64 (x6_1 * 128)), (wrap64 (x7_1 + 1)), z64_1, z64_1, z64_1, H', ⟨by have := HK1.out; omega⟩, by repeat (first | exact Drawn0.refl _ | apply Drawn0.step)⟩
     rw [if_neg c5] at H
     exact absurd H (by simp)
    rw [if_neg c4] at H
    exact absurd H (by simp)
   rw [if_neg c2] at H
   have c2b0 : decide (x7_1 < 4) = false := decide_eq_false c2
   clear c2
   simp only [Option.some.injEq, Prod.mk.injEq] at H
   obtain ⟨rfl, rfl, rfl⟩ := H
   go_wp2
   go_ret3
   exact ⟨z64_1, z64_2⟩

end Go.Proofs.YtngmipfobcaojaaGreat.HA
end

-- YtngmipfobcaojaaGreatHA103
section
namespace Go.Proofs.YtngmipfobcaojaaGreat.HA
open Go.RowKit Go.Proofs.YtngmipfobcaojaaGreatW.PrintWords Go.Proofs.YtngmipfobcaojaaGreatW.PrintLast Go.Proofs.YtngmipfobcaojaaGreatW.PrintMore
attribute [local go_sem] q1k q1j q1s q1t q1a q19 q1h q1i

def q1p.l0 : Nat → ByteArray → Int → Int → Option (Int)
 | 0, _, _, _ => none
 | k + 1, x0, x3, x4 => if x4 < (x0.size : Int) then (if 0 ≤ x4 then (q1p.l0 k x0 (Go.bits .or .u64 (IntKind.u64.wrap (x3 * 256)) (IntKind.u64.wrap (bt x0 x4))) (wrap64 (x4 + 1))) else (none)) else (some x3)
def q1p.f (k : Nat) (a0 : ByteArray) : Option (Int) := q1p.l0 k a0 0 (mx 0 (wrap64 ((a0.size : Int) - 8)))
theorem z65_0 {p : Prop} (h : p := by first | rfl | (simp; done) | (simp [*]; done) | (simp; exact qh _) | exact qh _ | (simp; exact (qh _).symm) | (simp; exact q15 _)) : p := h
theorem z65_1 {p : Prop} (h : p := by repeat (first | (with_reducible first | exact HB.out | apply qg | apply qa | apply qi) | exact HB.out)) : p := h
set_option maxHeartbeats 8000000 in
set_option maxRecDepth 100000 in
theorem q1p.calls (k : Nat) (a0 : ByteArray) (r : Int) (w : World) (h : q1p.f k a0 = some r) :
  Calls Tryz.prog 113 #[.string a0] w fun e w' => e = .returned (.int .u64 r) ∧ Below w.heap.size w w' := by
 have HB := Aside0.mk (Below.refl w.heap.size w)
 have H : (q1p.l0 k a0 0 (mx 0 (wrap64 ((a0.size : Int) - 8)))) = some r := h
 clear h
 obtain ⟨ji2, hji2⟩ : ∃ j_ : Int, (mx 0 (wrap64 ((a0.size : Int) - 8))) = j_ := ⟨_, rfl⟩
 replace H : (q1p.l0 k a0 0 ji2) = some r := by first | (rw [hji2] at H; exact H) | (simp only [hji2] at H ⊢; exact H)
 (try (have hji2l : 0 ≤ ji2 := by (rw [← hji2]; unfold mx; (repeat' split) <;> omega)))
 (try (have hji2m : 0 ≤ ji2 := by omega))
 have hji2_ : (if 0 < (wrap64 ((a0.size : Int) - 8)) then (wrap64 ((a0.size : Int) - 8)) else 0) = ji2 := hji2
 have H' := Aside0.mk H
 clear H
 go_enter Tryz.func113, Tryz.ntmps113
 go_wp2
 go_loopg [3, 4] k (fun kq v3 v4 w' => ∃ (x3_1 : Int) (x4_1 : Int), v3 = .int .u64 x3_1 ∧ v4 = .int .i64 x4_1 ∧ Aside0 (q1p.l0 kq a0 x3_1 x4_1 = some r) ∧ Aside0 (kq ≤ k) ∧ Aside0 (Below w.heap.size w w'))
 case atStart => exact ⟨(0), (ji2), z65_0, (by first | rfl | (simp; done) | (simp only [← hji2] <;> (first | rfl | simp)) | (simp [*]; done) | (simp; exact qh _)), H', ⟨Nat.le_refl _⟩, ⟨z65_1⟩⟩
 case round =>
  clear H'
  obtain ⟨x3_1, x4_1, rfl, rfl, HA, HK1, HB⟩ := hrel
  cases gk with
  | zero => exact absurd HA.out (by simp [q1p.l0])
  | succ k1 =>
   have H := HA.out
   clear HA
   simp only [q1p.l0] at H
   by_cases c3 : x4_1 < (a0.size : Int)
   ·rw [if_pos c3] at H
    have c3b0 : decide (x4_1 < (a0.size : Int)) = true := decide_eq_true c3
    clear c3
    by_cases c4 : 0 ≤ x4_1
    ·rw [if_pos c4] at H
     have c4b0 : decide (0 ≤ x4_1) = true := decide_eq_true c4
     clear c4
     have H' := Aside0.mk H
     clear H
     have p5 : 0 ≤ (x4_1 : Int) := of_decide_eq_true (by first | (with_reducible assumption) | assumption)
     have q5 : x4_1 < (a0.size : Int) := of_decide_eq_true (by first | (with_reducible assumption) | assumption)
     have hx5 := bt_at a0 x4_1
     replace p5 := eq_true p5
     replace q5 := eq_true q5
     go_wp2
     go_roundg k1
     case measure => have := HK1.out; omega
     case rel => exact ⟨(Go.bits .or .u64 (IntKind.u64.wrap (x3_1 * 256)) (IntKind.u64.wrap (bt a0 x4_1))), (wrap64 (x4_1 + 1)), z65_0, z65_0, H', ⟨by have := HK1.out; omega⟩, ⟨by repeat (first | (with_reducible first | exact HB.out | apply qg | apply qa | apply qi) | exact HB.out)⟩⟩
    rw [if_neg c4] at H
    exact absurd H (by simp)
   rw [if_neg c3] at H
   have c3b0 : decide (x4_1 < (a0.size : Int)) = false := decide_eq_false c3
   clear c3
   obtain rfl := Option.some.inj H
   go_wp2
   go_ret
   exact ⟨(by first | rfl | (simp [qq, qp] <;> rfl) | (simp only [← hji2]; first | rfl | (simp [qq, qp] <;> rfl)) | (simp [*, qq, qp] <;> rfl)), z65_1⟩

end Go.Proofs.YtngmipfobcaojaaGreat.HA
end

-- YtngmipfobcaojaaGreatHA104
section
namespace Go.Proofs.YtngmipfobcaojaaGreat.HA
open Go.RowKit Go.Proofs.YtngmipfobcaojaaGreatW.PrintWords Go.Proofs.YtngmipfobcaojaaGreatW.PrintLast Go.Proofs.YtngmipfobcaojaaGreatW.PrintMore
attribute [local go_sem] q1k q1j q1s q1t q1a q19 q1h q1i

def polyglotref03_ReadBinary.f (k : Nat) (a0 : ByteArray) : Option (ByteArray × Int × Int) := if (a0.size : Int) < 2 then (some ((⟨#[]⟩ : ByteArray), 0, 3)) else (if 0 ≤ 2 then (if 2 ≤ (a0.size : Int) then ((q1p.f k (a0.extract 0 2)).bind fun t558 => (if (wrap64 (t558)) > (wrap64 ((a0.size : Int) - 2)) then (some ((⟨#[]⟩ : ByteArray), 0, 3)) else (if 2 ≤ (wrap64 (2 + (wrap64 (t558)))) then (if (wrap64 (2 + (wrap64 (t558)))) ≤ (a0.size : Int) then (some (a0.extract 2 ((wrap64 (2 + (wrap64 (t558)))) : Int).toNat, wrap64 (2 + (wrap64 (t558))), 0)) else (none)) else (none)))) else (none)) else (none))
theorem z66_0 {p : Prop} (h : p := by repeat (first | (with_reducible first | exact HB.out | apply qg | apply qa | apply qi) | exact HB.out)) : p := h
theorem z66_1 {p : Prop} (h : p := by first | rfl | (simp [qq, qp] <;> rfl) | (simp [*, qq, qp] <;> rfl)) : p := h
theorem z66_2 {p : Prop} (h : p := by (try simp only [List.map_toArray, List.map_cons, List.map_nil]); first | done | rfl | (simp only [List.length_drop, List.length_take]; rfl)) : p := h
set_option maxHeartbeats 8000000 in
set_option maxRecDepth 100000 in
theorem polyglotref03_ReadBinary.calls (k : Nat) (a0 : ByteArray) (r1 : ByteArray) (r2 : Int) (r3 : Int) (w : World) (h : polyglotref03_ReadBinary.f k a0 = some (r1, r2, r3)) :
  Calls Tryz.prog 131 #[.string a0] w fun e w' => e = .returned (.tuple #[.string r1, .int .i64 r2, .int .i64 r3]) ∧ Below w.heap.size w w' := by
 have HB := Aside0.mk (Below.refl w.heap.size w)
 have H : (if (a0.size : Int) < 2 then (some ((⟨#[]⟩ : ByteArray), 0, 3)) else (if 0 ≤ 2 then (if 2 ≤ (a0.size : Int) then ((q1p.f k (a0.extract 0 2)).bind fun t558 => (if (wrap64 (t558)) > (wrap64 ((a0.size : Int) - 2)) then (some ((⟨#[]⟩ : ByteArray), 0, 3)) else (if 2 ≤ (wrap64 (2 + (wrap64 (t558)))) then (if (wrap64 (2 + (wrap64 (t558)))) ≤ (a0.size : Int) then (some (a0.extract 2 ((wrap64 (2 + (wrap64 (t558)))) : Int).toNat, wrap64 (2 + (wrap64 (t558))), 0)) else (none)) else (none)))) else (none)) else (none))) = some (r1, r2, r3) := h
 clear h
 by_cases c2 : (a0.size : Int) < 2
 ·rw [if_pos c2] at H
  have c2b0 : decide ((a0.size : Int) < 2) = true := decide_eq_true c2
  have c2b1 : decide (a0.size < 2) = true := decide_eq_true (by omega)
  clear c2
  simp only [Option.some.injEq, Prod.mk.injEq] at H
  obtain ⟨rfl, rfl, rfl⟩ := H
  go_enter Tryz.func131, Tryz.ntmps131
  go_wp2
  go_ret3
  exact ⟨z66_1, z66_0⟩
 rw [if_neg c2] at H
 have c2b0 : decide ((a0.size : Int) < 2) = false := decide_eq_false c2
 have c2b1 : decide (a0.size < 2) = false := decide_eq_false (by omega)
 clear c2
 by_cases c3 : 0 ≤ 2
 ·rw [if_pos c3] at H
  have c3b0 := eq_true c3
  have c3b1 : decide (0 ≤ 2) = true := decide_eq_true c3
  clear c3
  by_cases c4 : 2 ≤ (a0.size : Int)
  ·rw [if_pos c4] at H
   have c4b0 := eq_true c4
   have c4b1 : decide (2 ≤ (a0.size : Int)) = true := decide_eq_true c4
   clear c4
   replace H := Option.bind_eq_some_iff.mp H
   obtain ⟨t558, A50, H⟩ := H
   replace H : (if (wrap64 (t558)) > (wrap64 ((a0.size : Int) - 2)) then (some ((⟨#[]⟩ : ByteArray), 0, 3)) else (if 2 ≤ (wrap64 (2 + (wrap64 (t558)))) then (if (wrap64 (2 + (wrap64 (t558)))) ≤ (a0.size : Int) then (some (a0.extract 2 ((wrap64 (2 + (wrap64 (t558)))) : Int).toNat, wrap64 (2 + (wrap64 (t558))), 0)) else (none)) else (none))) = some (r1, r2, r3) := H
   have A5 := Aside0.mk A50
   clear A50
   by_cases c6 : (wrap64 (t558)) > (wrap64 ((a0.size : Int) - 2))
   ·rw [if_pos c6] at H
    have c6b0 : decide ((wrap64 ((a0.size : Int) - 2)) < (wrap64 (t558))) = true := decide_eq_true c6
    clear c6
    simp only [Option.some.injEq, Prod.mk.injEq] at H
    obtain ⟨rfl, rfl, rfl⟩ := H
    go_enter Tryz.func131, Tryz.ntmps131
    go_wp2_with (first | ((with_reducible refine ql (f := 113) rfl ?_); refine q1b (some 11) rfl rfl Tryz.func113 (by kernel_rfl) rfl #[.string (a0.extract 0 2)] rfl z66_2 ?_; (with_reducible refine (q1p.calls k (a0.extract 0 2) t558 _ A5.out).mono ?_); rintro e w7 ⟨rfl, hb⟩; refine ⟨_, rfl, ?_⟩; have n0_ := Aside0.mk (qe z66_0 hb); clear HB; have HB := n0_; clear n0_; (try clear hb); (try clear hb2); (try clear hk); (try clear hi)))
    go_ret3
    exact ⟨z66_1, z66_0⟩
   rw [if_neg c6] at H
   have c6b0 : decide ((wrap64 ((a0.size : Int) - 2)) < (wrap64 (t558))) = false := decide_eq_false c6
   clear c6
   by_cases c8 : 2 ≤ (wrap64 (2 + (wrap64 (t558))))
   ·rw [if_pos c8] at H
    have c8b0 := eq_true c8
    have c8b1 : decide (2 ≤ (wrap64 (2 + (wrap64 (t558))))) = true := decide_eq_true c8
    by_cases c9 : (wrap64 (2 + (wrap64 (t558)))) ≤ (a0.size : Int)
    ·rw [if_pos c9] at H
     have c9b0 := eq_true c9
     have c9b1 : decide ((wrap64 (2 + (wrap64 (t558)))) ≤ (a0.size : Int)) = true := decide_eq_true c9
     simp only [Option.some.injEq, Prod.mk.injEq] at H
     obtain ⟨rfl, rfl, rfl⟩ := H
     go_enter Tryz.func131, Tryz.ntmps131
     go_wp2_with (first | ((with_reducible refine ql (f := 113) rfl ?_); refine q1b (some 11) rfl rfl Tryz.func113 (by kernel_rfl) rfl #[.string (a0.extract 0 2)] rfl z66_2 ?_; (with_reducible refine (q1p.calls k (a0.extract 0 2) t558 _ A5.out).mono ?_); rintro e w10 ⟨rfl, hb⟩; refine ⟨_, rfl, ?_⟩; have n0_ := Aside0.mk (qe z66_0 hb); clear HB; have HB := n0_; clear n0_; (try clear hb); (try clear hb2); (try clear hk); (try clear hi)))
     go_ret3
     exact ⟨z66_1, z66_0⟩
    rw [if_neg c9] at H
    exact absurd H (by simp)
   rw [if_neg c8] at H
   exact absurd H (by simp)
  rw [if_neg c4] at H
  exact absurd H (by simp)
 rw [if_neg c3] at H
 exact absurd H (by simp)

end Go.Proofs.YtngmipfobcaojaaGreat.HA
end

-- YtngmipfobcaojaaGreatHA68
section
namespace Go.Proofs.YtngmipfobcaojaaGreat.HA
open Go.RowKit Go.Proofs.YtngmipfobcaojaaGreatW.PrintWords Go.Proofs.YtngmipfobcaojaaGreatW.PrintLast Go.Proofs.YtngmipfobcaojaaGreatW.PrintMore
attribute [local go_sem] q1k q1j q1s q1t q1a q19 q1h q1i

def polyglotref03_more.f (a0 : ByteArray) (a1 : Int) : Option (Int × Bool) := if a1 ≥ (a0.size : Int) then (some (0, false)) else (if 0 ≤ a1 then (if a1 < (a0.size : Int) then (if (bt a0 a1) < 128 then (some (0, false)) else (if (bt a0 a1) > 191 then (some (0, false)) else (some (wrap64 ((wrap64 (bt a0 a1)) - 128), true)))) else (none)) else (none))
theorem z67_0 {p : Prop} (h : p := by first | (with_reducible assumption) | assumption) : p := h
theorem z67_1 {p : Prop} (h : p := by first | rfl | (simp; done) | (simp [*]; done) | (simp; exact qh _) | exact qh _ | (simp; exact (qh _).symm) | (simp; exact q15 _)) : p := h
theorem z67_2 {p : Prop} (h : p := by repeat (first | exact Drawn0.refl _ | apply Drawn0.step)) : p := h
set_option maxHeartbeats 8000000 in
set_option maxRecDepth 100000 in
theorem polyglotref03_more.calls (a0 : ByteArray) (a1 : Int) (r1 : Int) (r2 : Bool) (w : World) (h : polyglotref03_more.f a0 a1 = some (r1, r2)) :
  Calls Tryz.prog 164 #[.string a0, .int .i64 a1] w fun e w' => e = .returned (.tuple #[.int .i64 r1, .bool r2]) ∧ Drawn0 w w' := by
 have H : (if a1 ≥ (a0.size : Int) then (some (0, false)) else (if 0 ≤ a1 then (if a1 < (a0.size : Int) then (if (bt a0 a1) < 128 then (some (0, false)) else (if (bt a0 a1) > 191 then (some (0, false)) else (some (wrap64 ((wrap64 (bt a0 a1)) - 128), true)))) else (none)) else (none))) = some (r1, r2) := h
 clear h
 by_cases c3 : a1 ≥ (a0.size : Int)
 ·rw [if_pos c3] at H
  have c3b0 : decide ((a0.size : Int) ≤ a1) = true := decide_eq_true c3
  clear c3
  simp only [Option.some.injEq, Prod.mk.injEq] at H
  obtain ⟨rfl, rfl⟩ := H
  go_enter Tryz.func164, Tryz.ntmps164
  go_wp2
  go_ret2
  exact ⟨z67_1, z67_2⟩
 rw [if_neg c3] at H
 have c3b0 : decide ((a0.size : Int) ≤ a1) = false := decide_eq_false c3
 clear c3
 by_cases c4 : 0 ≤ a1
 ·rw [if_pos c4] at H
  have c4b0 : decide (0 ≤ a1) = true := decide_eq_true c4
  clear c4
  by_cases c5 : a1 < (a0.size : Int)
  ·rw [if_pos c5] at H
   have c5b0 : decide (a1 < (a0.size : Int)) = true := decide_eq_true c5
   clear c5
   by_cases c7 : (bt a0 a1) < 128
   ·rw [if_pos c7] at H
    have c7b0 : decide ((bt a0 a1) < 128) = true := decide_eq_true c7
    clear c7
    simp only [Option.some.injEq, Prod.mk.injEq] at H
    obtain ⟨rfl, rfl⟩ := H
    have p6 : 0 ≤ (a1 : Int) := of_decide_eq_true z67_0
    have q6 : a1 < (a0.size : Int) := of_decide_eq_true z67_0
    have hx6 := bt_at a0 a1
    replace p6 := eq_true p6
    replace q6 := eq_true q6
    go_enter Tryz.func164, Tryz.ntmps164
    go_wp2
    go_ret2
    exact ⟨z67_1, z67_2⟩
   rw [if_neg c7] at H
   have c7b0 : decide ((bt a0 a1) < 128) = false := decide_eq_false c7
   clear c7
   by_cases c9 : (bt a0 a1) > 191
   ·rw [if_pos c9] at H
    have c9b0 : decide (191 < (bt a0 a1)) = true := decide_eq_true c9
    clear c9
    simp only [Option.some.injEq, Prod.mk.injEq] at H
    obtain ⟨rfl, rfl⟩ := H
    have p6 : 0 ≤ (a1 : Int) := of_decide_eq_true z67_0
    have q6 : a1 < (a0.size : Int) := of_decide_eq_true z67_0
    have hx6 := bt_at a0 a1
    replace p6 := eq_true p6
    replace q6 := eq_true q6
    have p8 : 0 ≤ (a1 : Int) := of_decide_eq_true z67_0
    have q8 : a1 < (a0.size : Int) := of_decide_eq_true z67_0
    have hx8 := bt_at a0 a1
    replace p8 := eq_true p8
    replace q8 := eq_true q8
    go_enter Tryz.func164, Tryz.ntmps164
    go_wp2
    go_ret2
    exact ⟨z67_1, z67_2⟩
   rw [if_neg c9] at H
   have c9b0 : decide (191 < (bt a0 a1)) = false := decide_eq_false c9
   clear c9
   simp only [Option.some.injEq, Prod.mk.injEq] at H
   obtain ⟨rfl, rfl⟩ := H
   have p6 : 0 ≤ (a1 : Int) := of_decide_eq_true z67_0
   have q6 : a1 < (a0.size : Int) := of_decide_eq_true z67_0
   have hx6 := bt_at a0 a1
   replace p6 := eq_true p6
   replace q6 := eq_true q6
   have p8 : 0 ≤ (a1 : Int) := of_decide_eq_true z67_0
   have q8 : a1 < (a0.size : Int) := of_decide_eq_true z67_0
   have hx8 := bt_at a0 a1
   replace p8 := eq_true p8
   replace q8 := eq_true q8
   have p10 : 0 ≤ (a1 : Int) := of_decide_eq_true z67_0
   have q10 : a1 < (a0.size : Int) := of_decide_eq_true z67_0
   have hx10 := bt_at a0 a1
   replace p10 := eq_true p10
   replace q10 := eq_true q10
   go_enter Tryz.func164, Tryz.ntmps164
   go_wp2
   go_ret2
   exact ⟨z67_1, z67_2⟩
  rw [if_neg c5] at H
  exact absurd H (by simp)
 rw [if_neg c4] at H
 exact absurd H (by simp)

end Go.Proofs.YtngmipfobcaojaaGreat.HA
end

-- YtngmipfobcaojaaGreatHA69
section
namespace Go.Proofs.YtngmipfobcaojaaGreat.HA
open Go.RowKit Go.Proofs.YtngmipfobcaojaaGreatW.PrintWords Go.Proofs.YtngmipfobcaojaaGreatW.PrintLast Go.Proofs.YtngmipfobcaojaaGreatW.PrintMore
attribute [local go_sem] q1k q1j q1s q1t q1a q19 q1h q1i

mutual
def qr.j2 : Nat → ByteArray → Int → Int → Int → Int → Option (Int × Int)
 | 0, _, _, _, _, _ => none
 | k + 1, x0, x1, x6, x7, x8 => qr.l0 k x0 x1 x6 x7 x8 1
def qr.l0 : Nat → ByteArray → Int → Int → Int → Int → Int → Option (Int × Int)
 | 0, _, _, _, _, _, _ => none
 | k + 1, x0, x1, x6, x7, x8, x9 => if x9 < x7 then ((polyglotref03_more.f x0 (wrap64 (x1 + x9))).bind fun bt422 => (if bt422.2 = true then (qr.l0 k x0 x1 (wrap64 ((wrap64 (64 * x6)) + bt422.1)) x7 x8 (wrap64 (x9 + 1))) else (some (0, 0)))) else (if x6 < x8 then (some (0, 0)) else (if x6 > 1114111 then (some (0, 0)) else (if x6 ≥ 55296 then (if x6 ≤ 57343 then (some (0, 0)) else (some (x6, x7))) else (some (x6, x7)))))
def qr.j0 : Nat → ByteArray → Int → Int → Bool → Option (Int × Int)
 | 0, _, _, _, _ => none
 | k + 1, x0, x1, x6, x20 => if x20 = true then (qr.j2 k x0 x1 (wrap64 (x6 - 192)) 2 128) else (if x6 ≥ 224 then (qr.j1 k x0 x1 x6 (decide (x6 < 240))) else (qr.j1 k x0 x1 x6 false))
def qr.j1 : Nat → ByteArray → Int → Int → Bool → Option (Int × Int)
 | 0, _, _, _, _ => none
 | k + 1, x0, x1, x6, x29 => if x29 = true then (qr.j2 k x0 x1 (wrap64 (x6 - 224)) 3 2048) else (if x6 ≥ 240 then (if x6 < 248 then (qr.j2 k x0 x1 (wrap64 (x6 - 240)) 4 65536) else (some (0, 0))) else (some (0, 0)))
end
def qr.f (k : Nat) (a0 : ByteArray) (a1 : Int) : Option (Int × Int) := if 0 ≤ a1 then (if a1 < (a0.size : Int) then (if (wrap64 (bt a0 a1)) < 128 then (some (wrap64 (bt a0 a1), 1)) else (if (wrap64 (bt a0 a1)) ≥ 192 then (qr.j0 k a0 a1 (wrap64 (bt a0 a1)) (decide ((wrap64 (bt a0 a1)) < 224))) else (qr.j0 k a0 a1 (wrap64 (bt a0 a1)) false))) else (none)) else (none)
theorem z68_0 {p : Prop} (h : p := by first | rfl | (simp; done) | (simp [*]; done) | (simp; exact qh _) | exact qh _ | (simp; exact (qh _).symm) | (simp; exact q15 _)) : p := h
theorem z68_1 {p : Prop} (h : p := by repeat (first | exact Drawn0.refl _ | apply Drawn0.step)) : p := h
theorem z68_2 {p : Prop} (h : p := by have := HJ7.out; first | omega | exact Nat.le_refl _) : p := h
theorem z68_3 {p : Prop} (h : p := by (try simp only [List.map_toArray, List.map_cons, List.map_nil]); first | done | rfl | (simp only [List.length_drop, List.length_take]; rfl)) : p := h
set_option maxHeartbeats 8000000 in
set_option maxRecDepth 100000 in
theorem qr.calls (k : Nat) (a0 : ByteArray) (a1 : Int) (r1 : Int) (r2 : Int) (w : World) (h : qr.f k a0 a1 = some (r1, r2)) :
  Calls Tryz.prog 149 #[.string a0, .int .i64 a1] w fun e w' => e = .returned (.tuple #[.int .i64 r1, .int .i64 r2]) ∧ Drawn0 w w' := by
 have H : (if 0 ≤ a1 then (if a1 < (a0.size : Int) then (if (wrap64 (bt a0 a1)) < 128 then (some (wrap64 (bt a0 a1), 1)) else (if (wrap64 (bt a0 a1)) ≥ 192 then (qr.j0 k a0 a1 (wrap64 (bt a0 a1)) (decide ((wrap64 (bt a0 a1)) < 224))) else (qr.j0 k a0 a1 (wrap64 (bt a0 a1)) false))) else (none)) else (none)) = some (r1, r2) := h
 clear h
 by_cases c3 : 0 ≤ a1
 ·rw [if_pos c3] at H
  have c3b0 : decide (0 ≤ a1) = true := decide_eq_true c3
  clear c3
  by_cases c4 : a1 < (a0.size : Int)
  ·rw [if_pos c4] at H
   have c4b0 : decide (a1 < (a0.size : Int)) = true := decide_eq_true c4
   clear c4
   have HC6 := Aside0.mk H
   clear H
   have p5 : 0 ≤ (a1 : Int) := of_decide_eq_true (by first | (with_reducible assumption) | assumption)
   have q5 : a1 < (a0.size : Int) := of_decide_eq_true (by first | (with_reducible assumption) | assumption)
   have hx5 := bt_at a0 a1
   replace p5 := eq_true p5
   replace q5 := eq_true q5
   go_enter Tryz.func149, Tryz.ntmps149
   go_upto_block 0 with (fail)
   go_cut [6, 7, 8] (fun v6 v7 v8 wc => ∃ (kq : Nat) (x6_5 : Int) (x7_5 : Int) (x8_5 : Int), v6 = .int .i64 x6_5 ∧ v7 = .int .i64 x7_5 ∧ v8 = .int .i64 x8_5 ∧ Aside0 (qr.j2 kq a0 a1 x6_5 x7_5 x8_5 = some (r1, r2)) ∧ Aside0 (kq ≤ k) ∧ Drawn0 w wc)
   case first =>
    have H := HC6.out
    clear HC6
    by_cases c7 : (wrap64 (bt a0 a1)) < 128
    ·rw [if_pos c7] at H
     have c7b0 : decide ((wrap64 (bt a0 a1)) < 128) = true := decide_eq_true c7
     clear c7
     (first | rw [c7b0] | (simp only [i64_w, i32_w]; rw [c7b0]) | skip)
     simp only [Option.some.injEq, Prod.mk.injEq] at H
     obtain ⟨rfl, rfl⟩ := H
     go_wp2
     go_ret2
     exact ⟨z68_0, z68_1⟩
    rw [if_neg c7] at H
    have c7b0 : decide ((wrap64 (bt a0 a1)) < 128) = false := decide_eq_false c7
    clear c7
    (first | rw [c7b0] | (simp only [i64_w, i32_w]; rw [c7b0]) | skip)
    have HC8 := Aside0.mk H
    clear H
    go_upto_region 5 with (fail)
    go_cut [20] (fun v20 wc => ∃ (kq : Nat) (x20_7 : Bool), v20 = .bool x20_7 ∧ Aside0 (qr.j0 kq a0 a1 (wrap64 (bt a0 a1)) x20_7 = some (r1, r2)) ∧ Aside0 (kq ≤ k) ∧ Drawn0 w wc)
    case first =>
     have H := HC8.out
     clear HC8
     by_cases c9 : (wrap64 (bt a0 a1)) ≥ 192
     ·rw [if_pos c9] at H
      have c9b0 : decide (192 ≤ (wrap64 (bt a0 a1))) = true := decide_eq_true c9
      clear c9
      (first | rw [c9b0] | (simp only [i64_w, i32_w]; rw [c9b0]) | skip)
      have H' := Aside0.mk H
      clear H
      go_wp2
      go_meet
      case rel => exact ⟨_, (decide ((wrap64 (bt a0 a1)) < 224)), z68_0, H', ⟨(by first | omega | exact Nat.le_refl _)⟩, by repeat (first | exact Drawn0.refl _ | apply Drawn0.step)⟩
     rw [if_neg c9] at H
     have c9b0 : decide (192 ≤ (wrap64 (bt a0 a1))) = false := decide_eq_false c9
     clear c9
     (first | rw [c9b0] | (simp only [i64_w, i32_w]; rw [c9b0]) | skip)
     have H' := Aside0.mk H
     clear H
     go_wp2
     go_meet
     case rel => exact ⟨_, (false), z68_0, H', ⟨(by first | omega | exact Nat.le_refl _)⟩, by repeat (first | exact Drawn0.refl _ | apply Drawn0.step)⟩
    case rest =>
     clear HC8
     clear c3b0 c4b0 p5 q5 hx5 c7b0
     obtain ⟨kq, x20_7, rfl, HA, HJ7, ⟨mc7, rfl⟩⟩ := hcut
     cases kq with
     | zero => exact absurd HA.out (by simp [qr.j0])
     | succ kj7 =>
      have H := HA.out
      clear HA
      simp only [qr.j0] at H
      by_cases c10 : x20_7 = true
      ·subst c10
       rw [if_pos rfl] at H
       have H' := Aside0.mk H
       clear H
       go_wp2
       go_meet
       case rel => exact ⟨_, (wrap64 ((wrap64 (bt a0 a1)) - 192)), (2), (128), z68_0, z68_0, z68_0, H', ⟨z68_2⟩, by repeat (first | exact Drawn0.refl _ | apply Drawn0.step)⟩
      replace c10 := Bool.eq_false_iff.mpr c10
      subst c10
      rw [if_neg (show ¬ (false = true) by decide)] at H
      have HC11 := Aside0.mk H
      clear H
      go_upto_region 7 with (fail)
      go_cut [29] (fun v29 wc => ∃ (kq : Nat) (x29_10 : Bool), v29 = .bool x29_10 ∧ Aside0 (qr.j1 kq a0 a1 (wrap64 (bt a0 a1)) x29_10 = some (r1, r2)) ∧ Aside0 (kq ≤ kj7) ∧ Drawn0 w wc)
      case first =>
       have H := HC11.out
       clear HC11
       by_cases c12 : (wrap64 (bt a0 a1)) ≥ 224
       ·rw [if_pos c12] at H
        have c12b0 : decide (224 ≤ (wrap64 (bt a0 a1))) = true := decide_eq_true c12
        clear c12
        (first | rw [c12b0] | (simp only [i64_w, i32_w]; rw [c12b0]) | skip)
        have H' := Aside0.mk H
        clear H
        go_wp2
        go_meet
        case rel => exact ⟨_, (decide ((wrap64 (bt a0 a1)) < 240)), z68_0, H', ⟨z68_2⟩, by repeat (first | exact Drawn0.refl _ | apply Drawn0.step)⟩
       rw [if_neg c12] at H
       have c12b0 : decide (224 ≤ (wrap64 (bt a0 a1))) = false := decide_eq_false c12
       clear c12
       (first | rw [c12b0] | (simp only [i64_w, i32_w]; rw [c12b0]) | skip)
       have H' := Aside0.mk H
       clear H
       go_wp2
       go_meet
       case rel => exact ⟨_, (false), z68_0, H', ⟨z68_2⟩, by repeat (first | exact Drawn0.refl _ | apply Drawn0.step)⟩
      case rest =>
       clear HC11
       obtain ⟨kq, x29_10, rfl, HA, HJ10, ⟨mc10, rfl⟩⟩ := hcut
       cases kq with
       | zero => exact absurd HA.out (by simp [qr.j1])
       | succ kj10 =>
        have H := HA.out
        clear HA
        simp only [qr.j1] at H
        by_cases c13 : x29_10 = true
        ·subst c13
         rw [if_pos rfl] at H
         have H' := Aside0.mk H
         clear H
         go_wp2
         go_meet
         case rel => exact ⟨_, (wrap64 ((wrap64 (bt a0 a1)) - 224)), (3), (2048), z68_0, z68_0, z68_0, H', ⟨(by have := HJ7.out; have := HJ10.out; first | omega | exact Nat.le_refl _)⟩, by repeat (first | exact Drawn0.refl _ | apply Drawn0.step)⟩
        replace c13 := Bool.eq_false_iff.mpr c13
        subst c13
        rw [if_neg (show ¬ (false = true) by decide)] at H
        by_cases c14 : (wrap64 (bt a0 a1)) ≥ 240
        ·rw [if_pos c14] at H
         have c14b0 : decide (240 ≤ (wrap64 (bt a0 a1))) = true := decide_eq_true c14
         clear c14
         by_cases c15 : (wrap64 (bt a0 a1)) < 248
         ·rw [if_pos c15] at H
          have c15b0 : decide ((wrap64 (bt a0 a1)) < 248) = true := decide_eq_true c15
          clear c15
          have H' := Aside0.mk H
          clear H
          go_wp2
          go_meet
          case rel => exact ⟨_, (wrap64 ((wrap64 (bt a0 a1)) - 240)), (4), (65536), z68_0, z68_0, z68_0, H', ⟨(by have := HJ7.out; have := HJ10.out; first | omega | exact Nat.le_refl _)⟩, by repeat (first | exact Drawn0.refl _ | apply Drawn0.step)⟩
         rw [if_neg c15] at H
         have c15b0 : decide ((wrap64 (bt a0 a1)) < 248) = false := decide_eq_false c15
         clear c15
         simp only [Option.some.injEq, Prod.mk.injEq] at H
         obtain ⟨rfl, rfl⟩ := H
         go_wp2
         go_ret2
         exact ⟨z68_0, z68_1⟩
        rw [if_neg c14] at H
        have c14b0 : decide (240 ≤ (wrap64 (bt a0 a1))) = false := decide_eq_false c14
        clear c14
        simp only [Option.some.injEq, Prod.mk.injEq] at H
        obtain ⟨rfl, rfl⟩ := H
        go_wp2
        go_ret2
        exact ⟨z68_0, z68_1⟩
   case rest =>
    clear HC6
    clear c3b0 c4b0 p5 q5 hx5
    obtain ⟨kq, x6_5, x7_5, x8_5, rfl, rfl, rfl, HA, HJ5, ⟨mc5, rfl⟩⟩ := hcut
    cases kq with
    | zero => exact absurd HA.out (by simp [qr.j2])
    | succ kj5 =>
     have H := HA.out
     clear HA
     simp only [qr.j2] at H
     have H' := Aside0.mk H
     clear H
     go_wp2
     go_loopg [6, 9] kj5 (fun kq v6 v9 w' => ∃ (x6_2 : Int) (x9_2 : Int), v6 = .int .i64 x6_2 ∧ v9 = .int .i64 x9_2 ∧ Aside0 (qr.l0 kq a0 a1 x6_2 x7_5 x8_5 x9_2 = some (r1, r2)) ∧ Aside0 (kq ≤ kj5) ∧ Drawn0 w w')
     case atStart => exact ⟨(x6_5), (1), z68_0, z68_0, H', ⟨Nat.le_refl _⟩, by repeat (first | exact Drawn0.refl _ | apply Drawn0.step)⟩
     case round =>
      clear H'
      obtain ⟨x6_2, x9_2, rfl, rfl, HA, HK2, ⟨m2, rfl⟩⟩ := hrel
      cases gk with
      | zero => exact absurd HA.out (by simp [qr.l0])
      | succ k2 =>
       have H := HA.out
       clear HA
       simp only [qr.l0] at H
       by_cases c16 : x9_2 < x7_5
       ·rw [if_pos c16] at H
        have c16b0 : decide (x9_2 < x7_5) = true := decide_eq_true c16
        clear c16
        replace H := Option.bind_eq_some_iff.mp H
        obtain ⟨⟨t422, t423⟩, A170, H⟩ := H
        replace H : (if t423 = true then (qr.l0 k2 a0 a1 (wrap64 ((wrap64 (64 * x6_2)) + t422)) x7_5 x8_5 (wrap64 (x9_2 + 1))) else (some (0, 0))) = some (r1, r2) := H
        have A17 := Aside0.mk A170
        clear A170
        by_cases c18 : t423 = true
        ·subst c18
         rw [if_pos rfl] at H
         have H' := Aside0.mk H
         clear H
         go_wp2_with (first | ((with_reducible refine ql (f := 164) rfl ?_); refine q1b (some 57) rfl rfl Tryz.func164 (by kernel_rfl) rfl #[.string a0, .int .i64 (wrap64 (a1 + x9_2))] rfl z68_3 ?_; (with_reducible refine (polyglotref03_more.calls a0 (wrap64 (a1 + x9_2)) t422 true _ A17.out).mono ?_); rintro e w' ⟨rfl, ⟨nd, rfl⟩⟩; refine ⟨_, rfl, ?_⟩))
         go_roundg k2
         case measure => have := HJ5.out; have := HK2.out; omega
         case rel => exact ⟨(wrap64 ((wrap64 (64 * x6_2)) + t422)), (wrap64 (x9_2 + 1)), z68_0, z68_0, H', ⟨by have := HJ5.out; have := HK2.out; omega⟩, by repeat (first | exact Drawn0.refl _ | apply Drawn0.step)⟩
        replace c18 := Bool.eq_false_iff.mpr c18
        subst c18
        rw [if_neg (show ¬ (false = true) by decide)] at H
        simp only [Option.some.injEq, Prod.mk.injEq] at H
        obtain ⟨rfl, rfl⟩ := H
        go_wp2_with (first | ((with_reducible refine ql (f := 164) rfl ?_); refine q1b (some 57) rfl rfl Tryz.func164 (by kernel_rfl) rfl #[.string a0, .int .i64 (wrap64 (a1 + x9_2))] rfl z68_3 ?_; (with_reducible refine (polyglotref03_more.calls a0 (wrap64 (a1 + x9_2)) t422 false _ A17.out).mono ?_); rintro e w' ⟨rfl, ⟨nd, rfl⟩⟩; refine ⟨_, rfl, ?_⟩))
        go_ret2
        exact ⟨z68_0, z68_1⟩
       rw [if_neg c16] at H
       have c16b0 : decide (x9_2 < x7_5) = false := decide_eq_false c16
       clear c16
       by_cases c19 : x6_2 < x8_5
       ·rw [if_pos c19] at H
        have c19b0 : decide (x6_2 < x8_5) = true := decide_eq_true c19
        clear c19
        simp only [Option.some.injEq, Prod.mk.injEq] at H
        obtain ⟨rfl, rfl⟩ := H
        go_wp2
        go_ret2
        exact ⟨z68_0, z68_1⟩
       rw [if_neg c19] at H
       have c19b0 : decide (x6_2 < x8_5) = false := decide_eq_false c19
       clear c19
       by_cases c20 : x6_2 > 1114111
       ·rw [if_pos c20] at H
        have c20b0 : decide (1114111 < x6_2) = true := decide_eq_true c20
        clear c20
        simp only [Option.some.injEq, Prod.mk.injEq] at H
        obtain ⟨rfl, rfl⟩ := H
        go_wp2
        go_ret2
        exact ⟨z68_0, z68_1⟩
       rw [if_neg c20] at H
       have c20b0 : decide (1114111 < x6_2) = false := decide_eq_false c20
       clear c20
       by_cases c21 : x6_2 ≥ 55296
       ·rw [if_pos c21] at H
        have c21b0 : decide (55296 ≤ x6_2) = true := decide_eq_true c21
        clear c21
        by_cases c22 : x6_2 ≤ 57343
        ·rw [if_pos c22] at H
         have c22b0 : decide (x6_2 ≤ 57343) = true := decide_eq_true c22
         clear c22
         simp only [Option.some.injEq, Prod.mk.injEq] at H
         obtain ⟨rfl, rfl⟩ := H
         go_wp2
         go_ret2
         exact ⟨z68_0, z68_1⟩
        rw [if_neg c22] at H
        have c22b0 : decide (x6_2 ≤ 57343) = false := decide_eq_false c22
        clear c22
        simp only [Option.some.injEq, Prod.mk.injEq] at H
        obtain ⟨rfl, rfl⟩ := H
        go_wp2
        go_ret2
        exact ⟨z68_0, z68_1⟩
       rw [if_neg c21] at H
       have c21b0 : decide (55296 ≤ x6_2) = false := decide_eq_false c21
       clear c21
       simp only [Option.some.injEq, Prod.mk.injEq] at H
       obtain ⟨rfl, rfl⟩ := H
       go_wp2
       go_ret2
       exact ⟨z68_0, z68_1⟩
  rw [if_neg c4] at H
  exact absurd H (by simp)
 rw [if_neg c3] at H
 exact absurd H (by simp)

end Go.Proofs.YtngmipfobcaojaaGreat.HA
end

-- YtngmipfobcaojaaGreatHA70
section
namespace Go.Proofs.YtngmipfobcaojaaGreat.HA
open Go.RowKit Go.Proofs.YtngmipfobcaojaaGreatW.PrintWords Go.Proofs.YtngmipfobcaojaaGreatW.PrintLast Go.Proofs.YtngmipfobcaojaaGreatW.PrintMore
attribute [local go_sem] q1k q1j q1s q1t q1a q19 q1h q1i

def q1x.l0 : Nat → ByteArray → Int → Option (Int)
 | 0, _, _ => none
 | k + 1, x0, x3 => if x3 < (x0.size : Int) then ((qr.f k x0 x3).bind fun bt424 => (if bt424.2 = 0 then (some x3) else (if bt424.1 = 0 then (some x3) else (q1x.l0 k x0 (wrap64 (x3 + bt424.2)))))) else (some (-1))
def q1x.f (k : Nat) (a0 : ByteArray) : Option (Int) := q1x.l0 k a0 0
theorem z69_0 {p : Prop} (h : p := by first | rfl | (simp; done) | (simp [*]; done) | (simp; exact qh _) | exact qh _ | (simp; exact (qh _).symm) | (simp; exact q15 _)) : p := h
theorem z69_1 {p : Prop} (h : p := by (try simp only [List.map_toArray, List.map_cons, List.map_nil]); first | done | rfl | (simp only [List.length_drop, List.length_take]; rfl)) : p := h
theorem z69_2 {p : Prop} (h : p := by repeat (first | exact Drawn0.refl _ | apply Drawn0.step)) : p := h
set_option maxHeartbeats 8000000 in
set_option maxRecDepth 100000 in
theorem q1x.calls (k : Nat) (a0 : ByteArray) (r : Int) (w : World) (h : q1x.f k a0 = some r) :
  Calls Tryz.prog 119 #[.string a0] w fun e w' => e = .returned (.int .i64 r) ∧ Drawn0 w w' := by
 have H : (q1x.l0 k a0 0) = some r := h
 clear h
 have H' := Aside0.mk H
 clear H
 go_enter Tryz.func119, Tryz.ntmps119
 go_wp2
 go_loopg [3] k (fun kq v3 w' => ∃ (x3_1 : Int), v3 = .int .i64 x3_1 ∧ Aside0 (q1x.l0 kq a0 x3_1 = some r) ∧ Aside0 (kq ≤ k) ∧ Drawn0 w w')
 case atStart => exact ⟨(0), z69_0, H', ⟨Nat.le_refl _⟩, by repeat (first | exact Drawn0.refl _ | apply Drawn0.step)⟩
 case round =>
  clear H'
  try clear c1
  obtain ⟨x3_1, rfl, HA, HK1, ⟨m1, rfl⟩⟩ := hrel
  cases gk with
  | zero => exact absurd HA.out (by simp [q1x.l0])
  | succ k1 =>
   have H := HA.out
   clear HA
   simp only [q1x.l0] at H
   by_cases c2 : x3_1 < (a0.size : Int)
   ·rw [if_pos c2] at H
    have c2b0 : decide (x3_1 < (a0.size : Int)) = true := decide_eq_true c2
    clear c2
    replace H := Option.bind_eq_some_iff.mp H
    obtain ⟨⟨t424, t425⟩, A30, H⟩ := H
    replace H : (if t425 = 0 then (some x3_1) else (if t424 = 0 then (some x3_1) else (q1x.l0 k1 a0 (wrap64 (x3_1 + t425))))) = some r := H
    have A3 := Aside0.mk A30
    clear A30
    by_cases c4 : t425 = 0
    ·rw [if_pos c4] at H
     have c4b0 : (t425 == 0) = true := beq_iff_eq.mpr c4
     have c4b1 : (t425 != 0) = false := bne_eq_false_iff_eq.mpr c4
     clear c4
     obtain rfl := Option.some.inj H
     go_wp2_with (first | ((with_reducible refine ql (f := 149) rfl ?_); refine q1b (some 13) rfl rfl Tryz.func149 (by kernel_rfl) rfl #[.string a0, .int .i64 x3_1] rfl z69_1 ?_; (with_reducible refine (qr.calls k1 a0 x3_1 t424 t425 _ A3.out).mono ?_); rintro e w' ⟨rfl, ⟨nd, rfl⟩⟩; refine ⟨_, rfl, ?_⟩))
     go_ret
     exact ⟨z69_0, z69_2⟩
    rw [if_neg c4] at H
    have c4b0 : (t425 == 0) = false := beq_eq_false_iff_ne.mpr c4
    have c4b1 : (t425 != 0) = true := bne_iff_ne.mpr c4
    by_cases c5 : t424 = 0
    ·rw [if_pos c5] at H
     have c5b0 : (t424 == 0) = true := beq_iff_eq.mpr c5
     have c5b1 : (t424 != 0) = false := bne_eq_false_iff_eq.mpr c5
     clear c5
     obtain rfl := Option.some.inj H
     go_wp2_with (first | ((with_reducible refine ql (f := 149) rfl ?_); refine q1b (some 13) rfl rfl Tryz.func149 (by kernel_rfl) rfl #[.string a0, .int .i64 x3_1] rfl z69_1 ?_; (with_reducible refine (qr.calls k1 a0 x3_1 t424 t425 _ A3.out).mono ?_); rintro e w' ⟨rfl, ⟨nd, rfl⟩⟩; refine ⟨_, rfl, ?_⟩))
     go_ret
     exact ⟨z69_0, z69_2⟩
    rw [if_neg c5] at H
    have c5b0 : (t424 == 0) = false := beq_eq_false_iff_ne.mpr c5
    have c5b1 : (t424 != 0) = true := bne_iff_ne.mpr c5
    have H' := Aside0.mk H
    clear H
    go_wp2_with (first | ((with_reducible refine ql (f := 149) rfl ?_); refine q1b (some 13) rfl rfl Tryz.func149 (by kernel_rfl) rfl #[.string a0, .int .i64 x3_1] rfl z69_1 ?_; (with_reducible refine (qr.calls k1 a0 x3_1 t424 t425 _ A3.out).mono ?_); rintro e w' ⟨rfl, ⟨nd, rfl⟩⟩; refine ⟨_, rfl, ?_⟩))
    go_roundg k1
    case measure => have := HK1.out; omega
    case rel => exact ⟨(wrap64 (x3_1 + t425)), z69_0, H', ⟨by have := HK1.out; omega⟩, by repeat (first | exact Drawn0.refl _ | apply Drawn0.step)⟩
   rw [if_neg c2] at H
   have c2b0 : decide (x3_1 < (a0.size : Int)) = false := decide_eq_false c2
   clear c2
   obtain rfl := Option.some.inj H
   go_wp2
   go_ret
   exact ⟨z69_0, z69_2⟩

end Go.Proofs.YtngmipfobcaojaaGreat.HA
end

-- YtngmipfobcaojaaGreatHA71
section
namespace Go.Proofs.YtngmipfobcaojaaGreat.HA
open Go.RowKit Go.Proofs.YtngmipfobcaojaaGreatW.PrintWords Go.Proofs.YtngmipfobcaojaaGreatW.PrintLast Go.Proofs.YtngmipfobcaojaaGreatW.PrintMore
attribute [local go_sem] q1k q1j q1s q1t q1a q19 q1h q1i

def q1d.f (k : Nat) (a0 : ByteArray) : Option (Bool) := if (a0.size : Int) ≤ 65535 then ((q1x.f k a0).bind fun t426 => (some (decide (t426 < 0)))) else (some false)
theorem z70_0 {p : Prop} (h : p := by first | rfl | (simp; done) | (simp [*]; done) | (simp; exact qh _) | exact qh _ | (simp; exact (qh _).symm) | (simp; exact q15 _)) : p := h
set_option maxHeartbeats 8000000 in
set_option maxRecDepth 100000 in
theorem q1d.calls (k : Nat) (a0 : ByteArray) (r : Bool) (w : World) (h : q1d.f k a0 = some r) :
  Calls Tryz.prog 62 #[.string a0] w fun e w' => e = .returned (.bool r) ∧ Drawn0 w w' := by
 have H : (if (a0.size : Int) ≤ 65535 then ((q1x.f k a0).bind fun t426 => (some (decide (t426 < 0)))) else (some false)) = some r := h
 clear h
 by_cases c2 : (a0.size : Int) ≤ 65535
 ·rw [if_pos c2] at H
  have c2b0 : decide ((a0.size : Int) ≤ 65535) = true := decide_eq_true c2
  have c2b1 : decide (a0.size ≤ 65535) = true := decide_eq_true (by omega)
  clear c2
  replace H := Option.bind_eq_some_iff.mp H
  obtain ⟨t426, A30, H⟩ := H
  replace H : (some (decide (t426 < 0))) = some r := H
  have A3 := Aside0.mk A30
  clear A30
  obtain rfl := Option.some.inj H
  go_enter Tryz.func62, Tryz.ntmps62
  go_wp2_with (first | (go_at_call 119; (with_reducible refine (q1x.calls k a0 t426 _ A3.out).mono ?_); rintro e w' ⟨rfl, ⟨nd, rfl⟩⟩))
  go_ret
  exact ⟨z70_0, (by repeat (first | exact Drawn0.refl _ | apply Drawn0.step))⟩
 rw [if_neg c2] at H
 have c2b0 : decide ((a0.size : Int) ≤ 65535) = false := decide_eq_false c2
 have c2b1 : decide (a0.size ≤ 65535) = false := decide_eq_false (by omega)
 clear c2
 obtain rfl := Option.some.inj H
 go_enter Tryz.func62, Tryz.ntmps62
 go_wp2
 go_ret
 exact ⟨z70_0, (by repeat (first | exact Drawn0.refl _ | apply Drawn0.step))⟩

end Go.Proofs.YtngmipfobcaojaaGreat.HA
end

-- YtngmipfobcaojaaGreatHA105
section
namespace Go.Proofs.YtngmipfobcaojaaGreat.HA
open Go.RowKit Go.Proofs.YtngmipfobcaojaaGreatW.PrintWords Go.Proofs.YtngmipfobcaojaaGreatW.PrintLast Go.Proofs.YtngmipfobcaojaaGreatW.PrintMore
attribute [local go_sem] q1k q1j q1s q1t q1a q19 q1h q1i

def polyglotref05_text.f (k : Nat) (a0 : ByteArray) (a1 : Int) (a2 : Int) : Option (ByteArray × Int × Int) := if 0 ≤ a1 then (if a1 ≤ (a0.size : Int) then ((polyglotref03_ReadBinary.f k (a0.extract (a1 : Int).toNat a0.size)).bind fun bt559 => (if bt559.2.2 = 0 then (if a2 = 6 then (some (bt559.1, wrap64 (a1 + bt559.2.1), 0)) else ((q1d.f k bt559.1).bind fun t562 => (if t562 = true then (some (bt559.1, wrap64 (a1 + bt559.2.1), 0)) else (some ((⟨#[]⟩ : ByteArray), 0, 6))))) else (some ((⟨#[]⟩ : ByteArray), 0, 5)))) else (none)) else (none)
theorem z71_0 {p : Prop} (h : p := by repeat (first | (with_reducible first | exact HB.out | apply qg | apply qa | apply qi) | exact HB.out)) : p := h
theorem z71_1 {p : Prop} (h : p := by (try simp only [List.map_toArray, List.map_cons, List.map_nil]); first | done | rfl | (simp only [List.length_drop, List.length_take]; rfl)) : p := h
theorem z71_2 {p : Prop} (h : p := by first | rfl | (simp [qq, qp] <;> rfl) | (simp [*, qq, qp] <;> rfl)) : p := h
set_option maxHeartbeats 8000000 in
set_option maxRecDepth 100000 in
theorem polyglotref05_text.calls (k : Nat) (a0 : ByteArray) (a1 : Int) (a2 : Int) (r1 : ByteArray) (r2 : Int) (r3 : Int) (w : World) (h : polyglotref05_text.f k a0 a1 a2 = some (r1, r2, r3)) :
  Calls Tryz.prog 114 #[.string a0, .int .i64 a1, .int .i64 a2] w fun e w' => e = .returned (.tuple #[.string r1, .int .i64 r2, .int .i64 r3]) ∧ Below w.heap.size w w' := by
 have HB := Aside0.mk (Below.refl w.heap.size w)
 have H : (if 0 ≤ a1 then (if a1 ≤ (a0.size : Int) then ((polyglotref03_ReadBinary.f k (a0.extract (a1 : Int).toNat a0.size)).bind fun bt559 => (if bt559.2.2 = 0 then (if a2 = 6 then (some (bt559.1, wrap64 (a1 + bt559.2.1), 0)) else ((q1d.f k bt559.1).bind fun t562 => (if t562 = true then (some (bt559.1, wrap64 (a1 + bt559.2.1), 0)) else (some ((⟨#[]⟩ : ByteArray), 0, 6))))) else (some ((⟨#[]⟩ : ByteArray), 0, 5)))) else (none)) else (none)) = some (r1, r2, r3) := h
 clear h
 by_cases c4 : 0 ≤ a1
 ·rw [if_pos c4] at H
  have c4b0 := eq_true c4
  have c4b1 : decide (0 ≤ a1) = true := decide_eq_true c4
  clear c4
  by_cases c5 : a1 ≤ (a0.size : Int)
  ·rw [if_pos c5] at H
   have c5b0 := eq_true c5
   have c5b1 : decide (a1 ≤ (a0.size : Int)) = true := decide_eq_true c5
   clear c5
   replace H := Option.bind_eq_some_iff.mp H
   obtain ⟨⟨t559, t560, t561⟩, A60, H⟩ := H
   replace H : (if t561 = 0 then (if a2 = 6 then (some (t559, wrap64 (a1 + t560), 0)) else ((q1d.f k t559).bind fun t562 => (if t562 = true then (some (t559, wrap64 (a1 + t560), 0)) else (some ((⟨#[]⟩ : ByteArray), 0, 6))))) else (some ((⟨#[]⟩ : ByteArray), 0, 5))) = some (r1, r2, r3) := H
   have A6 := Aside0.mk A60
   clear A60
   by_cases c7 : t561 = 0
   ·rw [if_pos c7] at H
    have c7b0 : (t561 == 0) = true := beq_iff_eq.mpr c7
    have c7b1 : (t561 != 0) = false := bne_eq_false_iff_eq.mpr c7
    clear c7
    by_cases c8 : a2 = 6
    ·rw [if_pos c8] at H
     have c8b0 : (a2 == 6) = true := beq_iff_eq.mpr c8
     have c8b1 : (a2 != 6) = false := bne_eq_false_iff_eq.mpr c8
     clear c8
     simp only [Option.some.injEq, Prod.mk.injEq] at H
     obtain ⟨rfl, rfl, rfl⟩ := H
     go_enter Tryz.func114, Tryz.ntmps114
     go_wp2_with (first | ((with_reducible refine ql (f := 131) rfl ?_); refine q1b (some 16) rfl rfl Tryz.func131 (by kernel_rfl) rfl #[.string (a0.extract (a1 : Int).toNat a0.size)] rfl z71_1 ?_; (with_reducible refine (polyglotref03_ReadBinary.calls k (a0.extract (a1 : Int).toNat a0.size) t559 t560 t561 _ A6.out).mono ?_); rintro e w9 ⟨rfl, hb⟩; refine ⟨_, rfl, ?_⟩; have n0_ := Aside0.mk (qe z71_0 hb); clear HB; have HB := n0_; clear n0_; (try clear hb); (try clear hb2); (try clear hk); (try clear hi)))
     go_ret3
     exact ⟨z71_2, z71_0⟩
    rw [if_neg c8] at H
    have c8b0 : (a2 == 6) = false := beq_eq_false_iff_ne.mpr c8
    have c8b1 : (a2 != 6) = true := bne_iff_ne.mpr c8
    replace H := Option.bind_eq_some_iff.mp H
    obtain ⟨t562, A100, H⟩ := H
    replace H : (if t562 = true then (some (t559, wrap64 (a1 + t560), 0)) else (some ((⟨#[]⟩ : ByteArray), 0, 6))) = some (r1, r2, r3) := H
    have A10 := Aside0.mk A100
    clear A100
    by_cases c11 : t562 = true
    ·subst c11
     rw [if_pos rfl] at H
     simp only [Option.some.injEq, Prod.mk.injEq] at H
     obtain ⟨rfl, rfl, rfl⟩ := H
     go_enter Tryz.func114, Tryz.ntmps114
     go_wp2_with (first | ((with_reducible refine ql (f := 131) rfl ?_); refine q1b (some 16) rfl rfl Tryz.func131 (by kernel_rfl) rfl #[.string (a0.extract (a1 : Int).toNat a0.size)] rfl z71_1 ?_; (with_reducible refine (polyglotref03_ReadBinary.calls k (a0.extract (a1 : Int).toNat a0.size) t559 t560 t561 _ A6.out).mono ?_); rintro e w12 ⟨rfl, hb⟩; refine ⟨_, rfl, ?_⟩; have n0_ := Aside0.mk (qe z71_0 hb); clear HB; have HB := n0_; clear n0_; (try clear hb); (try clear hb2); (try clear hk); (try clear hi)) | (go_at_call 62; (with_reducible refine (q1d.calls k t559 true _ A10.out).mono ?_); rintro e w' ⟨rfl, ⟨nd, rfl⟩⟩))
     go_ret3
     exact ⟨z71_2, z71_0⟩
    replace c11 := Bool.eq_false_iff.mpr c11
    subst c11
    rw [if_neg (show ¬ (false = true) by decide)] at H
    simp only [Option.some.injEq, Prod.mk.injEq] at H
    obtain ⟨rfl, rfl, rfl⟩ := H
    go_enter Tryz.func114, Tryz.ntmps114
    go_wp2_with (first | ((with_reducible refine ql (f := 131) rfl ?_); refine q1b (some 16) rfl rfl Tryz.func131 (by kernel_rfl) rfl #[.string (a0.extract (a1 : Int).toNat a0.size)] rfl z71_1 ?_; (with_reducible refine (polyglotref03_ReadBinary.calls k (a0.extract (a1 : Int).toNat a0.size) t559 t560 t561 _ A6.out).mono ?_); rintro e w13 ⟨rfl, hb⟩; refine ⟨_, rfl, ?_⟩; have n0_ := Aside0.mk (qe z71_0 hb); clear HB; have HB := n0_; clear n0_; (try clear hb); (try clear hb2); (try clear hk); (try clear hi)) | (go_at_call 62; (with_reducible refine (q1d.calls k t559 false _ A10.out).mono ?_); rintro e w' ⟨rfl, ⟨nd, rfl⟩⟩))
    go_ret3
    exact ⟨z71_2, z71_0⟩
   rw [if_neg c7] at H
   have c7b0 : (t561 == 0) = false := beq_eq_false_iff_ne.mpr c7
   have c7b1 : (t561 != 0) = true := bne_iff_ne.mpr c7
   simp only [Option.some.injEq, Prod.mk.injEq] at H
   obtain ⟨rfl, rfl, rfl⟩ := H
   go_enter Tryz.func114, Tryz.ntmps114
   go_wp2_with (first | ((with_reducible refine ql (f := 131) rfl ?_); refine q1b (some 16) rfl rfl Tryz.func131 (by kernel_rfl) rfl #[.string (a0.extract (a1 : Int).toNat a0.size)] rfl z71_1 ?_; (with_reducible refine (polyglotref03_ReadBinary.calls k (a0.extract (a1 : Int).toNat a0.size) t559 t560 t561 _ A6.out).mono ?_); rintro e w14 ⟨rfl, hb⟩; refine ⟨_, rfl, ?_⟩; have n0_ := Aside0.mk (qe z71_0 hb); clear HB; have HB := n0_; clear n0_; (try clear hb); (try clear hb2); (try clear hk); (try clear hi)))
   go_ret3
   exact ⟨z71_2, z71_0⟩
  rw [if_neg c5] at H
  exact absurd H (by simp)
 rw [if_neg c4] at H
 exact absurd H (by simp)

end Go.Proofs.YtngmipfobcaojaaGreat.HA
end

-- YtngmipfobcaojaaGreatHA62
section
namespace Go.Proofs.YtngmipfobcaojaaGreat.HA
open Go.RowKit Go.Proofs.YtngmipfobcaojaaGreatW.PrintWords Go.Proofs.YtngmipfobcaojaaGreatW.PrintLast Go.Proofs.YtngmipfobcaojaaGreatW.PrintMore
attribute [local go_sem] q1k q1j q1s q1t q1a q19 q1h q1i

def polyglotref05_one.f (l0 : List Int) : Option (Int × List Int × Int × Int) := some (1, l0, 0, 1)
theorem z72_0 {p : Prop} (h : p := by repeat (first | (with_reducible first | exact HB.out | apply qg | apply qa | apply qi) | exact HB.out)) : p := h
set_option maxHeartbeats 8000000 in
set_option maxRecDepth 100000 in
theorem polyglotref05_one.calls (P0_ : Nat → Prop) (u9000_ : Value) (l0 : List Int) (r1 : Int) (r2 : List Int) (r3 : Int) (r4 : Int) (w0 w : World) (hB : Below w0.heap.size w0 w) (ho0 : Kd.R (Kd.int .i64) 3 w w0.heap.size P0_ u9000_ l0) (h : polyglotref05_one.f l0 = some (r1, r2, r3, r4)) :
  Calls Tryz.prog 115 #[u9000_] w fun e w' => ∃ v1_ : Value, e = .returned (.agg #[.int .i64 r1, v1_, .int .u32 r3, .int .u32 r4]) ∧ Kd.R (Kd.int .i64) 3 w' w0.heap.size (fun k_ => (P0_ k_ ∨ w.heap.size ≤ k_)) v1_ r2 ∧ Below w0.heap.size w0 w' ∧ Kept w w' (fun k_ => P0_ k_) := by
 have hu80 := Tryz.underlying80
 have HO0 := Aside0.mk (show Kd.R (Kd.int .i64) 3 w w0.heap.size (fun k_ => (P0_ k_ ∨ w.heap.size ≤ k_)) u9000_ l0 from Kd.R_mono ho0 (fun k_ hk => (.inl hk)))
 have HK := Aside0.mk (Kept.refl w (fun k_ => P0_ k_))
 have HW0 := Aside0.mk hB.size
 have HB := Aside0.mk hB
 clear hB
 have H : (some (1, l0, 0, 1)) = some (r1, r2, r3, r4) := h
 clear h
 simp only [Option.some.injEq, Prod.mk.injEq] at H
 obtain ⟨rfl, rfl, rfl, rfl⟩ := H
 go_enter Tryz.func115, Tryz.ntmps115
 go_wp2_with (first | ((with_reducible refine q1c (N := 2) rfl ?_); refine q1r ?hg (N := 2) ?hd (cs := #[.int .i64 0, .slice none 0 0, .int .u32 0, .int .u32 0]) (t := 80) ?hr ?_; (case hd => rfl); (case hg => rfl); (case hr => first | (go_simp; done) | (go_simp; rfl)); intro gb236 hg w2 hbox hb; have n0_ := Aside0.mk (Kd.R_below (by (with_reducible repeat (first | apply Kd.R_alloc | apply Kd.R_drewN | apply Kd.R_drew)); exact HO0.out) hb); have n1_ := Aside0.mk (Kept.below (S := (fun k_ => P0_ k_)) (by repeat (first | (with_reducible first | exact HK.out | apply Kept.alloc | apply Kept.drewN | apply Kept.drew) | exact HK.out)) hb); have n2_ := Aside0.mk (qe z72_0 hb); have n3_ := Aside0.mk (hbox); have n4_ := Aside0.mk ((by rw [hg]; exact (by first | exact HK.out.1 | exact (show Kept w _ (fun k_ => P0_ k_) from by repeat (first | (with_reducible first | exact HK.out | apply Kept.alloc | apply Kept.drewN | apply Kept.drew) | exact HK.out)).1) : w.heap.size ≤ gb236)); have n5_ := Aside0.mk ((by rw [hg]; exact (qm z72_0) : w0.heap.size ≤ gb236)); clear HO0; clear HK; clear HB; have HO0 := n0_; have HK := n1_; have HB := n2_; have BK236 := n3_; have GW236 := n4_; have GE236 := n5_; clear n0_ n1_ n2_ n3_ n4_ n5_; clear hb hbox hg; obtain ⟨Ao3, co3, eo3⟩ := Kd.R_slice HO0.out; subst eo3; have hcz4_0 := zbc BK236 0 (.int .i64 0); have hcz4_1 := zbc BK236 1 (.slice none 0 0); have hcz4_2 := zbc BK236 2 (.int .u32 0); have hcz4_3 := zbc BK236 3 (.int .u32 0); have hfz4_0 := q9 BK236.out 0; have hfz4_1 := q9 BK236.out 1; have hfz4_2 := q9 BK236.out 2; have hfz4_3 := q9 BK236.out 3))
 refine bodyPost_ret (results_cell_row rfl _ _ gb236 80 #[.int .i64 1, .slice Ao3 l0.length co3, .int .u32 0, .int .u32 1] (0, 0) _ rfl (by (with_reducible repeat (first | refine qd ?_ _ | refine qf ?_ | refine qc ?_ _)); refine qx (cs := #[.int .i64 1, .slice Ao3 l0.length co3, .int .u32 0, .int .u32 0]) ?_ 3 _ rfl; (with_reducible repeat (first | refine qd ?_ _ | refine qf ?_ | refine qc ?_ _)); refine qx (cs := #[.int .i64 1, .slice Ao3 l0.length co3, .int .u32 0, .int .u32 0]) ?_ 2 _ rfl; (with_reducible repeat (first | refine qd ?_ _ | refine qf ?_ | refine qc ?_ _)); refine qx (cs := #[.int .i64 1, .slice none 0 0, .int .u32 0, .int .u32 0]) ?_ 1 _ rfl; (with_reducible repeat (first | refine qd ?_ _ | refine qf ?_ | refine qc ?_ _)); refine qx (cs := #[.int .i64 0, .slice none 0 0, .int .u32 0, .int .u32 0]) ?_ 0 _ rfl; (with_reducible repeat (first | refine qd ?_ _ | refine qf ?_ | refine qc ?_ _)); exact BK236.out) Tryz.underlying80 rfl (by kernel_rfl)) rfl ?_
 exact ⟨_, (by first | rfl | (simp [qq, qp] <;> rfl) | (simp [*, qq, qp] <;> rfl)), (by (with_reducible repeat (first | apply Kd.R_alloc | apply Kd.R_drewN | apply Kd.R_drew)); exact Kd.R_mono (Kd.R_far (p := ⟨gb236, 3, none⟩) (Kd.R_far (p := ⟨gb236, 2, none⟩) (Kd.R_far (p := ⟨gb236, 1, none⟩) (Kd.R_far (p := ⟨gb236, 0, none⟩) (Kd.R_types HO0.out BK236.out (by decide)) (fun _ hk => hk.2) (.int .i64 1)) (fun _ hk => hk.2) (.slice Ao3 l0.length co3)) (fun _ hk => hk.2) (.int .u32 0)) (fun _ hk => hk.2) (.int .u32 1)) (fun _ hk => hk.1)), (by repeat (first | (with_reducible first | exact HB.out | apply qg | apply qa | apply qi | refine qw ?_ GE236.out) | exact HB.out)), (by repeat (first | (with_reducible first | exact HK.out | apply Kept.alloc | apply Kept.drewN | apply Kept.drew | refine Kept.setCell ?_ (.inr GW236.out) _) | exact HK.out))⟩

end Go.Proofs.YtngmipfobcaojaaGreat.HA
end

-- YtngmipfobcaojaaGreatHA63
section
namespace Go.Proofs.YtngmipfobcaojaaGreat.HA
open Go.RowKit Go.Proofs.YtngmipfobcaojaaGreatW.PrintWords Go.Proofs.YtngmipfobcaojaaGreatW.PrintLast Go.Proofs.YtngmipfobcaojaaGreatW.PrintMore
attribute [local go_sem] q1k q1j q1s q1t q1a q19 q1h q1i

def polyglotref05_four.f (l0 : List Int) (a1 : Int) : Option (Int × List Int × Int × Int) := some (3, l0, a1, 4294967295)
theorem z73_0 {p : Prop} (h : p := by repeat (first | (with_reducible first | exact HB.out | apply qg | apply qa | apply qi) | exact HB.out)) : p := h
set_option maxHeartbeats 8000000 in
set_option maxRecDepth 100000 in
theorem polyglotref05_four.calls (P0_ : Nat → Prop) (u9000_ : Value) (l0 : List Int) (a1 : Int) (r1 : Int) (r2 : List Int) (r3 : Int) (r4 : Int) (w0 w : World) (hB : Below w0.heap.size w0 w) (ho0 : Kd.R (Kd.int .i64) 3 w w0.heap.size P0_ u9000_ l0) (h : polyglotref05_four.f l0 a1 = some (r1, r2, r3, r4)) :
  Calls Tryz.prog 116 #[u9000_, .int .u32 a1] w fun e w' => ∃ v1_ : Value, e = .returned (.agg #[.int .i64 r1, v1_, .int .u32 r3, .int .u32 r4]) ∧ Kd.R (Kd.int .i64) 3 w' w0.heap.size (fun k_ => (P0_ k_ ∨ w.heap.size ≤ k_)) v1_ r2 ∧ Below w0.heap.size w0 w' ∧ Kept w w' (fun k_ => P0_ k_) := by
 have hu80 := Tryz.underlying80
 have HO0 := Aside0.mk (show Kd.R (Kd.int .i64) 3 w w0.heap.size (fun k_ => (P0_ k_ ∨ w.heap.size ≤ k_)) u9000_ l0 from Kd.R_mono ho0 (fun k_ hk => (.inl hk)))
 have HK := Aside0.mk (Kept.refl w (fun k_ => P0_ k_))
 have HW0 := Aside0.mk hB.size
 have HB := Aside0.mk hB
 clear hB
 have H : (some (3, l0, a1, 4294967295)) = some (r1, r2, r3, r4) := h
 clear h
 simp only [Option.some.injEq, Prod.mk.injEq] at H
 obtain ⟨rfl, rfl, rfl, rfl⟩ := H
 go_enter Tryz.func116, Tryz.ntmps116
 go_wp2_with (first | ((with_reducible refine q1c (N := 4) rfl ?_); refine q1r ?hg (N := 4) ?hd (cs := #[.int .i64 0, .slice none 0 0, .int .u32 0, .int .u32 0]) (t := 80) ?hr ?_; (case hd => rfl); (case hg => rfl); (case hr => first | (go_simp; done) | (go_simp; rfl)); intro gb237 hg w3 hbox hb; have n0_ := Aside0.mk (Kd.R_below (by (with_reducible repeat (first | apply Kd.R_alloc | apply Kd.R_drewN | apply Kd.R_drew)); exact HO0.out) hb); have n1_ := Aside0.mk (Kept.below (S := (fun k_ => P0_ k_)) (by repeat (first | (with_reducible first | exact HK.out | apply Kept.alloc | apply Kept.drewN | apply Kept.drew) | exact HK.out)) hb); have n2_ := Aside0.mk (qe z73_0 hb); have n3_ := Aside0.mk (hbox); have n4_ := Aside0.mk ((by rw [hg]; exact (by first | exact HK.out.1 | exact (show Kept w _ (fun k_ => P0_ k_) from by repeat (first | (with_reducible first | exact HK.out | apply Kept.alloc | apply Kept.drewN | apply Kept.drew) | exact HK.out)).1) : w.heap.size ≤ gb237)); have n5_ := Aside0.mk ((by rw [hg]; exact (qm z73_0) : w0.heap.size ≤ gb237)); clear HO0; clear HK; clear HB; have HO0 := n0_; have HK := n1_; have HB := n2_; have BK237 := n3_; have GW237 := n4_; have GE237 := n5_; clear n0_ n1_ n2_ n3_ n4_ n5_; clear hb hbox hg; obtain ⟨Ao4, co4, eo4⟩ := Kd.R_slice HO0.out; subst eo4; have hcz5_0 := zbc BK237 0 (.int .i64 0); have hcz5_1 := zbc BK237 1 (.slice none 0 0); have hcz5_2 := zbc BK237 2 (.int .u32 0); have hcz5_3 := zbc BK237 3 (.int .u32 0); have hfz5_0 := q9 BK237.out 0; have hfz5_1 := q9 BK237.out 1; have hfz5_2 := q9 BK237.out 2; have hfz5_3 := q9 BK237.out 3))
 refine bodyPost_ret (results_cell_row rfl _ _ gb237 80 #[.int .i64 3, .slice Ao4 l0.length co4, .int .u32 a1, .int .u32 4294967295] (0, 0) _ rfl (by (with_reducible repeat (first | refine qd ?_ _ | refine qf ?_ | refine qc ?_ _)); refine qx (cs := #[.int .i64 3, .slice Ao4 l0.length co4, .int .u32 a1, .int .u32 0]) ?_ 3 _ rfl; (with_reducible repeat (first | refine qd ?_ _ | refine qf ?_ | refine qc ?_ _)); refine qx (cs := #[.int .i64 3, .slice Ao4 l0.length co4, .int .u32 0, .int .u32 0]) ?_ 2 _ rfl; (with_reducible repeat (first | refine qd ?_ _ | refine qf ?_ | refine qc ?_ _)); refine qx (cs := #[.int .i64 3, .slice none 0 0, .int .u32 0, .int .u32 0]) ?_ 1 _ rfl; (with_reducible repeat (first | refine qd ?_ _ | refine qf ?_ | refine qc ?_ _)); refine qx (cs := #[.int .i64 0, .slice none 0 0, .int .u32 0, .int .u32 0]) ?_ 0 _ rfl; (with_reducible repeat (first | refine qd ?_ _ | refine qf ?_ | refine qc ?_ _)); exact BK237.out) Tryz.underlying80 rfl (by kernel_rfl)) rfl ?_
 exact ⟨_, (by first | rfl | (simp [qq, qp] <;> rfl) | (simp [*, qq, qp] <;> rfl)), (by (with_reducible repeat (first | apply Kd.R_alloc | apply Kd.R_drewN | apply Kd.R_drew)); exact Kd.R_mono (Kd.R_far (p := ⟨gb237, 3, none⟩) (Kd.R_far (p := ⟨gb237, 2, none⟩) (Kd.R_far (p := ⟨gb237, 1, none⟩) (Kd.R_far (p := ⟨gb237, 0, none⟩) (Kd.R_types HO0.out BK237.out (by decide)) (fun _ hk => hk.2) (.int .i64 3)) (fun _ hk => hk.2) (.slice Ao4 l0.length co4)) (fun _ hk => hk.2) (.int .u32 a1)) (fun _ hk => hk.2) (.int .u32 4294967295)) (fun _ hk => hk.1)), (by repeat (first | (with_reducible first | exact HB.out | apply qg | apply qa | apply qi | refine qw ?_ GE237.out) | exact HB.out)), (by repeat (first | (with_reducible first | exact HK.out | apply Kept.alloc | apply Kept.drewN | apply Kept.drew | refine Kept.setCell ?_ (.inr GW237.out) _) | exact HK.out))⟩

end Go.Proofs.YtngmipfobcaojaaGreat.HA
end

-- YtngmipfobcaojaaGreatHA64
section
namespace Go.Proofs.YtngmipfobcaojaaGreat.HA
open Go.RowKit Go.Proofs.YtngmipfobcaojaaGreatW.PrintWords Go.Proofs.YtngmipfobcaojaaGreatW.PrintLast Go.Proofs.YtngmipfobcaojaaGreatW.PrintMore
attribute [local go_sem] q1k q1j q1s q1t q1a q19 q1h q1i

def q1l.f (a0 : Int) (l1 : List Int) : Option (Int × List Int × Int × Int) := some (a0, l1, 0, 0)
theorem z74_0 {p : Prop} (h : p := by repeat (first | (with_reducible first | exact HB.out | apply qg | apply qa | apply qi) | exact HB.out)) : p := h
set_option maxHeartbeats 8000000 in
set_option maxRecDepth 100000 in
theorem q1l.calls (a0 : Int) (P1_ : Nat → Prop) (u9000_ : Value) (l1 : List Int) (r1 : Int) (r2 : List Int) (r3 : Int) (r4 : Int) (w0 w : World) (hB : Below w0.heap.size w0 w) (ho1 : Kd.R (Kd.int .i64) 3 w w0.heap.size P1_ u9000_ l1) (h : q1l.f a0 l1 = some (r1, r2, r3, r4)) :
  Calls Tryz.prog 117 #[.int .i64 a0, u9000_] w fun e w' => ∃ v1_ : Value, e = .returned (.agg #[.int .i64 r1, v1_, .int .u32 r3, .int .u32 r4]) ∧ Kd.R (Kd.int .i64) 3 w' w0.heap.size (fun k_ => (P1_ k_ ∨ w.heap.size ≤ k_)) v1_ r2 ∧ Below w0.heap.size w0 w' ∧ Kept w w' (fun k_ => P1_ k_) := by
 have hu80 := Tryz.underlying80
 have HO1 := Aside0.mk (show Kd.R (Kd.int .i64) 3 w w0.heap.size (fun k_ => (P1_ k_ ∨ w.heap.size ≤ k_)) u9000_ l1 from Kd.R_mono ho1 (fun k_ hk => (.inl hk)))
 have HK := Aside0.mk (Kept.refl w (fun k_ => P1_ k_))
 have HW0 := Aside0.mk hB.size
 have HB := Aside0.mk hB
 clear hB
 have H : (some (a0, l1, 0, 0)) = some (r1, r2, r3, r4) := h
 clear h
 simp only [Option.some.injEq, Prod.mk.injEq] at H
 obtain ⟨rfl, rfl, rfl, rfl⟩ := H
 go_enter Tryz.func117, Tryz.ntmps117
 go_wp2_with (first | ((with_reducible refine q1c (N := 4) rfl ?_); refine q1r ?hg (N := 4) ?hd (cs := #[.int .i64 0, .slice none 0 0, .int .u32 0, .int .u32 0]) (t := 80) ?hr ?_; (case hd => rfl); (case hg => rfl); (case hr => first | (go_simp; done) | (go_simp; rfl)); intro gb238 hg w3 hbox hb; have n0_ := Aside0.mk (Kd.R_below (by (with_reducible repeat (first | apply Kd.R_alloc | apply Kd.R_drewN | apply Kd.R_drew)); exact HO1.out) hb); have n1_ := Aside0.mk (Kept.below (S := (fun k_ => P1_ k_)) (by repeat (first | (with_reducible first | exact HK.out | apply Kept.alloc | apply Kept.drewN | apply Kept.drew) | exact HK.out)) hb); have n2_ := Aside0.mk (qe z74_0 hb); have n3_ := Aside0.mk (hbox); have n4_ := Aside0.mk ((by rw [hg]; exact (by first | exact HK.out.1 | exact (show Kept w _ (fun k_ => P1_ k_) from by repeat (first | (with_reducible first | exact HK.out | apply Kept.alloc | apply Kept.drewN | apply Kept.drew) | exact HK.out)).1) : w.heap.size ≤ gb238)); have n5_ := Aside0.mk ((by rw [hg]; exact (qm z74_0) : w0.heap.size ≤ gb238)); clear HO1; clear HK; clear HB; have HO1 := n0_; have HK := n1_; have HB := n2_; have BK238 := n3_; have GW238 := n4_; have GE238 := n5_; clear n0_ n1_ n2_ n3_ n4_ n5_; clear hb hbox hg; obtain ⟨Ao4, co4, eo4⟩ := Kd.R_slice HO1.out; subst eo4; have hcz5_0 := zbc BK238 0 (.int .i64 0); have hcz5_1 := zbc BK238 1 (.slice none 0 0); have hcz5_2 := zbc BK238 2 (.int .u32 0); have hcz5_3 := zbc BK238 3 (.int .u32 0); have hfz5_0 := q9 BK238.out 0; have hfz5_1 := q9 BK238.out 1; have hfz5_2 := q9 BK238.out 2; have hfz5_3 := q9 BK238.out 3))
 refine bodyPost_ret (results_cell_row rfl _ _ gb238 80 #[.int .i64 a0, .slice Ao4 l1.length co4, .int .u32 0, .int .u32 0] (0, 0) _ rfl (by (with_reducible repeat (first | refine qd ?_ _ | refine qf ?_ | refine qc ?_ _)); refine qx (cs := #[.int .i64 a0, .slice Ao4 l1.length co4, .int .u32 0, .int .u32 0]) ?_ 3 _ rfl; (with_reducible repeat (first | refine qd ?_ _ | refine qf ?_ | refine qc ?_ _)); refine qx (cs := #[.int .i64 a0, .slice Ao4 l1.length co4, .int .u32 0, .int .u32 0]) ?_ 2 _ rfl; (with_reducible repeat (first | refine qd ?_ _ | refine qf ?_ | refine qc ?_ _)); refine qx (cs := #[.int .i64 a0, .slice none 0 0, .int .u32 0, .int .u32 0]) ?_ 1 _ rfl; (with_reducible repeat (first | refine qd ?_ _ | refine qf ?_ | refine qc ?_ _)); refine qx (cs := #[.int .i64 0, .slice none 0 0, .int .u32 0, .int .u32 0]) ?_ 0 _ rfl; (with_reducible repeat (first | refine qd ?_ _ | refine qf ?_ | refine qc ?_ _)); exact BK238.out) Tryz.underlying80 rfl (by kernel_rfl)) rfl ?_
 exact ⟨_, (by first | rfl | (simp [qq, qp] <;> rfl) | (simp [*, qq, qp] <;> rfl)), (by (with_reducible repeat (first | apply Kd.R_alloc | apply Kd.R_drewN | apply Kd.R_drew)); exact Kd.R_mono (Kd.R_far (p := ⟨gb238, 3, none⟩) (Kd.R_far (p := ⟨gb238, 2, none⟩) (Kd.R_far (p := ⟨gb238, 1, none⟩) (Kd.R_far (p := ⟨gb238, 0, none⟩) (Kd.R_types HO1.out BK238.out (by decide)) (fun _ hk => hk.2) (.int .i64 a0)) (fun _ hk => hk.2) (.slice Ao4 l1.length co4)) (fun _ hk => hk.2) (.int .u32 0)) (fun _ hk => hk.2) (.int .u32 0)) (fun _ hk => hk.1)), (by repeat (first | (with_reducible first | exact HB.out | apply qg | apply qa | apply qi | refine qw ?_ GE238.out) | exact HB.out)), (by repeat (first | (with_reducible first | exact HK.out | apply Kept.alloc | apply Kept.drewN | apply Kept.drew | refine Kept.setCell ?_ (.inr GW238.out) _) | exact HK.out))⟩

end Go.Proofs.YtngmipfobcaojaaGreat.HA
end

-- YtngmipfobcaojaaGreatHA65
section
namespace Go.Proofs.YtngmipfobcaojaaGreat.HA
open Go.RowKit Go.Proofs.YtngmipfobcaojaaGreatW.PrintWords Go.Proofs.YtngmipfobcaojaaGreatW.PrintLast Go.Proofs.YtngmipfobcaojaaGreatW.PrintMore
attribute [local go_sem] q1k q1j q1s q1t q1a q19 q1h q1i

def polyglotref05_two.f (l0 : List Int) (a1 : Int) : Option (Int × List Int × Int × Int) := some (2, l0, a1, 65535)
theorem z75_0 {p : Prop} (h : p := by repeat (first | (with_reducible first | exact HB.out | apply qg | apply qa | apply qi) | exact HB.out)) : p := h
set_option maxHeartbeats 8000000 in
set_option maxRecDepth 100000 in
theorem polyglotref05_two.calls (P0_ : Nat → Prop) (u9000_ : Value) (l0 : List Int) (a1 : Int) (r1 : Int) (r2 : List Int) (r3 : Int) (r4 : Int) (w0 w : World) (hB : Below w0.heap.size w0 w) (ho0 : Kd.R (Kd.int .i64) 3 w w0.heap.size P0_ u9000_ l0) (h : polyglotref05_two.f l0 a1 = some (r1, r2, r3, r4)) :
  Calls Tryz.prog 118 #[u9000_, .int .u32 a1] w fun e w' => ∃ v1_ : Value, e = .returned (.agg #[.int .i64 r1, v1_, .int .u32 r3, .int .u32 r4]) ∧ Kd.R (Kd.int .i64) 3 w' w0.heap.size (fun k_ => (P0_ k_ ∨ w.heap.size ≤ k_)) v1_ r2 ∧ Below w0.heap.size w0 w' ∧ Kept w w' (fun k_ => P0_ k_) := by
 have hu80 := Tryz.underlying80
 have HO0 := Aside0.mk (show Kd.R (Kd.int .i64) 3 w w0.heap.size (fun k_ => (P0_ k_ ∨ w.heap.size ≤ k_)) u9000_ l0 from Kd.R_mono ho0 (fun k_ hk => (.inl hk)))
 have HK := Aside0.mk (Kept.refl w (fun k_ => P0_ k_))
 have HW0 := Aside0.mk hB.size
 have HB := Aside0.mk hB
 clear hB
 have H : (some (2, l0, a1, 65535)) = some (r1, r2, r3, r4) := h
 clear h
 simp only [Option.some.injEq, Prod.mk.injEq] at H
 obtain ⟨rfl, rfl, rfl, rfl⟩ := H
 go_enter Tryz.func118, Tryz.ntmps118
 go_wp2_with (first | ((with_reducible refine q1c (N := 4) rfl ?_); refine q1r ?hg (N := 4) ?hd (cs := #[.int .i64 0, .slice none 0 0, .int .u32 0, .int .u32 0]) (t := 80) ?hr ?_; (case hd => rfl); (case hg => rfl); (case hr => first | (go_simp; done) | (go_simp; rfl)); intro gb239 hg w3 hbox hb; have n0_ := Aside0.mk (Kd.R_below (by (with_reducible repeat (first | apply Kd.R_alloc | apply Kd.R_drewN | apply Kd.R_drew)); exact HO0.out) hb); have n1_ := Aside0.mk (Kept.below (S := (fun k_ => P0_ k_)) (by repeat (first | (with_reducible first | exact HK.out | apply Kept.alloc | apply Kept.drewN | apply Kept.drew) | exact HK.out)) hb); have n2_ := Aside0.mk (qe z75_0 hb); have n3_ := Aside0.mk (hbox); have n4_ := Aside0.mk ((by rw [hg]; exact (by first | exact HK.out.1 | exact (show Kept w _ (fun k_ => P0_ k_) from by repeat (first | (with_reducible first | exact HK.out | apply Kept.alloc | apply Kept.drewN | apply Kept.drew) | exact HK.out)).1) : w.heap.size ≤ gb239)); have n5_ := Aside0.mk ((by rw [hg]; exact (qm z75_0) : w0.heap.size ≤ gb239)); clear HO0; clear HK; clear HB; have HO0 := n0_; have HK := n1_; have HB := n2_; have BK239 := n3_; have GW239 := n4_; have GE239 := n5_; clear n0_ n1_ n2_ n3_ n4_ n5_; clear hb hbox hg; obtain ⟨Ao4, co4, eo4⟩ := Kd.R_slice HO0.out; subst eo4; have hcz5_0 := zbc BK239 0 (.int .i64 0); have hcz5_1 := zbc BK239 1 (.slice none 0 0); have hcz5_2 := zbc BK239 2 (.int .u32 0); have hcz5_3 := zbc BK239 3 (.int .u32 0); have hfz5_0 := q9 BK239.out 0; have hfz5_1 := q9 BK239.out 1; have hfz5_2 := q9 BK239.out 2; have hfz5_3 := q9 BK239.out 3))
 refine bodyPost_ret (results_cell_row rfl _ _ gb239 80 #[.int .i64 2, .slice Ao4 l0.length co4, .int .u32 a1, .int .u32 65535] (0, 0) _ rfl (by (with_reducible repeat (first | refine qd ?_ _ | refine qf ?_ | refine qc ?_ _)); refine qx (cs := #[.int .i64 2, .slice Ao4 l0.length co4, .int .u32 a1, .int .u32 0]) ?_ 3 _ rfl; (with_reducible repeat (first | refine qd ?_ _ | refine qf ?_ | refine qc ?_ _)); refine qx (cs := #[.int .i64 2, .slice Ao4 l0.length co4, .int .u32 0, .int .u32 0]) ?_ 2 _ rfl; (with_reducible repeat (first | refine qd ?_ _ | refine qf ?_ | refine qc ?_ _)); refine qx (cs := #[.int .i64 2, .slice none 0 0, .int .u32 0, .int .u32 0]) ?_ 1 _ rfl; (with_reducible repeat (first | refine qd ?_ _ | refine qf ?_ | refine qc ?_ _)); refine qx (cs := #[.int .i64 0, .slice none 0 0, .int .u32 0, .int .u32 0]) ?_ 0 _ rfl; (with_reducible repeat (first | refine qd ?_ _ | refine qf ?_ | refine qc ?_ _)); exact BK239.out) Tryz.underlying80 rfl (by kernel_rfl)) rfl ?_
 exact ⟨_, (by first | rfl | (simp [qq, qp] <;> rfl) | (simp [*, qq, qp] <;> rfl)), (by (with_reducible repeat (first | apply Kd.R_alloc | apply Kd.R_drewN | apply Kd.R_drew)); exact Kd.R_mono (Kd.R_far (p := ⟨gb239, 3, none⟩) (Kd.R_far (p := ⟨gb239, 2, none⟩) (Kd.R_far (p := ⟨gb239, 1, none⟩) (Kd.R_far (p := ⟨gb239, 0, none⟩) (Kd.R_types HO0.out BK239.out (by decide)) (fun _ hk => hk.2) (.int .i64 2)) (fun _ hk => hk.2) (.slice Ao4 l0.length co4)) (fun _ hk => hk.2) (.int .u32 a1)) (fun _ hk => hk.2) (.int .u32 65535)) (fun _ hk => hk.1)), (by repeat (first | (with_reducible first | exact HB.out | apply qg | apply qa | apply qi | refine qw ?_ GE239.out) | exact HB.out)), (by repeat (first | (with_reducible first | exact HK.out | apply Kept.alloc | apply Kept.drewN | apply Kept.drew | refine Kept.setCell ?_ (.inr GW239.out) _) | exact HK.out))⟩

end Go.Proofs.YtngmipfobcaojaaGreat.HA
end
