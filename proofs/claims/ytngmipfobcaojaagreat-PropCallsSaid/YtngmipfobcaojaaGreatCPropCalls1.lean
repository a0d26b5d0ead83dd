/- A part of the proof: texts that were built one by one, laid together. -/
import Derived.Test.YtngmipfobcaojaaGreatProg
import Derived.Below
import Derived.Deep.Draws
import Derived.Deep.AppendLies
import Derived.Maps.AppendAt
import Derived.OwnWalk
import Derived.Laws.BytesArg
import Derived.Laws.MakeOwn
import Derived.Laws.OwnMore
import Derived.Deep.OwnRows
import Derived.Tactics
import Derived.Lib.ConvBytes
import Derived.Laws.Slices
import Derived.WalkKit
import Derived.KernelRfl
import Derived.RowKit3
import Derived.Deep.LoopGhost
import Derived.Deep.QuietTactic
import Derived.BigQuiet
import Derived.WideLaws
import Derived.Deep.DeepCutAuto
import Derived.Deep.CutBlock
import Derived.Deep.RegionHeld3
import Derived.Laws.Rows
import Derived.Lib.AppendStr
import Derived.ArgAppend
import Derived.Laws.IdiomCopy
import Derived.OrdersHeld
import Derived.Laws.BitsLemmas
import Derived.RowKit
import Derived.Test.YtngmipfobcaojaaGreatCPropCalls0
import Derived.RegionTactic
import Derived.ChangeAlike
import Derived.Carry
import Derived.Laws.RangeString
import Derived.Laws.RangeAny
import Derived.Shelf.Small.Utf8
import Derived.Shelf.Small.Strs
import Derived.Shelf.Strings.Search1
import Derived.Shelf.Strings.Runes
import Derived.Shelf.Strings.IndexAny
import Derived.Shelf.Strings.AsciiSet
import Derived.Shelf.Strings.IndexAnyAll
import Derived.Laws.Runes
import Derived.WalkMore
import Derived.Lib.OthersKept
set_option linter.unusedVariables false
set_option linter.unusedSimpArgs false
-- YtngmipfobcaojaaGreatHA0
section
namespace Go.Proofs.YtngmipfobcaojaaGreat.HA
open Go.RowKit Go.Proofs.YtngmipfobcaojaaGreatW.PrintWords Go.Proofs.YtngmipfobcaojaaGreatW.PrintLast Go.Proofs.YtngmipfobcaojaaGreatW.PrintMore
attribute [local go_sem] q1k q1j q1s q1t q1a q19 q1h q1i



def errW : Option Int → Value
  | none => .nilIface
  | some c => .iface 0 (.int .i64 c)
theorem qq : errW none = .nilIface := rfl
theorem qp (c : Int) : errW (some c) = .iface 0 (.int .i64 c) := rfl

theorem info5 : (Tryz.prog.info? 5).map (fun i => (i.zero, i.size, i.bytes)) = some (some (.int .u8 0), 1, 1) := by kernel_rfl
theorem info24 : (Tryz.prog.info? 24).map (fun i => (i.zero, i.size, i.bytes)) = some (some (.agg #[(.int .i64 0), (.int .u32 0), (.string ⟨#[]⟩), (.string ⟨#[]⟩)]), 4, 48) := by kernel_rfl
structure S24 where
  f0 : Int
  f1 : Int
  f2 : ByteArray
  f3 : ByteArray
def z24 : S24 := ⟨(0 : Int), (0 : Int), (⟨#[]⟩ : ByteArray), (⟨#[]⟩ : ByteArray)⟩
def k24 : Kd S24 := Kd.iso (Kd.pair (Kd.int .i64) (Kd.pair (Kd.int .u32) (Kd.pair Kd.string Kd.string))) (fun x : S24 => (x.f0, x.f1, x.f2, x.f3))
theorem k24_open {w : World} {x : S24} {cs : List Value} (h : k24.K w x cs) : cs = [.int .i64 x.f0, .int .u32 x.f1, .string x.f2, .string x.f3] := by
  obtain ⟨_, _, rfl, rfl, ⟨_, _, rfl, rfl, ⟨_, _, rfl, rfl, rfl⟩⟩⟩ := h
  exact rfl
theorem k24_mk (w : World) (x : S24)  : k24.K w x [.int .i64 x.f0, .int .u32 x.f1, .string x.f2, .string x.f3] := ⟨[.int .i64 x.f0], [.int .u32 x.f1, .string x.f2, .string x.f3], rfl, rfl, ⟨[.int .u32 x.f1], [.string x.f2, .string x.f3], rfl, rfl, ⟨[.string x.f2], [.string x.f3], rfl, rfl, rfl⟩⟩⟩
theorem k24_mkM (w : World) (base : Nat) (ok : Nat → Prop) (x : S24)  : k24.M w base ok x [.int .i64 x.f0, .int .u32 x.f1, .string x.f2, .string x.f3] := ⟨[.int .i64 x.f0], [.int .u32 x.f1, .string x.f2, .string x.f3], rfl, rfl, ⟨[.int .u32 x.f1], [.string x.f2, .string x.f3], rfl, rfl, ⟨[.string x.f2], [.string x.f3], rfl, rfl, rfl⟩⟩⟩
def qu (xs : List S24) (i : Int) : S24 := xs.getD i.toNat z24
theorem at_T24 {w : World} {A : Option Addr} {n : Nat} {xs : List S24} (h : Kd.C k24 w A n xs) (i : Int) (h0 : 0 ≤ i) (h1 : i < n) : ∃ ad , A = some ad ∧ w.cell? (ad.add (i.toNat * 4)) = some (.int .i64 (qu xs i).f0) ∧ w.cell? ⟨(ad.add (i.toNat * 4)).block, (ad.add (i.toNat * 4)).off + 1, none⟩ = some (.int .u32 (qu xs i).f1) ∧ w.cell? ⟨(ad.add (i.toNat * 4)).block, (ad.add (i.toNat * 4)).off + 2, none⟩ = some (.string (qu xs i).f2) ∧ w.cell? ⟨(ad.add (i.toNat * 4)).block, (ad.add (i.toNat * 4)).off + 3, none⟩ = some (.string (qu xs i).f3) := by
  obtain ⟨ad, c, e, _, hK, hc0⟩ := Kd.C_get h z24 i h0 h1
  have hc : ∀ j u, c[j]? = some u → w.cell? (ad.add (i.toNat * 4 + j)) = some u := hc0
  obtain rfl := k24_open hK
  exact ⟨ad, e, hc 0 _ rfl, by rw [← add_field _ _ 1 (by omega)]; exact hc 1 _ rfl, by rw [← add_field _ _ 2 (by omega)]; exact hc 2 _ rfl, by rw [← add_field _ _ 3 (by omega)]; exact hc 3 _ rfl⟩

end Go.Proofs.YtngmipfobcaojaaGreat.HA
end

-- YtngmipfobcaojaaGreatHA1
section
namespace Go.Proofs.YtngmipfobcaojaaGreat.HA
open Go.RowKit Go.Proofs.YtngmipfobcaojaaGreatW.PrintWords Go.Proofs.YtngmipfobcaojaaGreatW.PrintLast Go.Proofs.YtngmipfobcaojaaGreatW.PrintMore
attribute [local go_sem] q1k q1j q1s q1t q1a q19 q1h q1i

theorem eqA24 (d : Nat) (w : World) (x0 y0 : Int) (x1 y1 : Int) (x2 y2 : ByteArray) (x3 y3 : ByteArray) :
    (Op.equalIn (d + 2) 24 (.agg #[.int .i64 x0, .int .u32 x1, .string x2, .string x3]) (.agg #[.int .i64 y0, .int .u32 y1, .string y2, .string y3])).run Tryz.prog w = .ok (x0 == y0 && (x1 == y1 && (x2.toList == y2.toList && (x3.toList == y3.toList)))) w := by
  refine eqA_of Tryz.underlying24 (by kernel_rfl) ?_
  refine eqf_cons (by rfl) (by go_simp; rfl) (by go_simp; rfl) (by go_simp) ?_
  refine eqf_cons (by rfl) (by go_simp; rfl) (by go_simp; rfl) (by go_simp) ?_
  refine eqf_cons (by rfl) (by go_simp; rfl) (by go_simp; rfl) (by go_simp) ?_
  exact eqf_last (by rfl) (by go_simp; rfl) (by go_simp; rfl) (by go_simp)
end Go.Proofs.YtngmipfobcaojaaGreat.HA
end

-- YtngmipfobcaojaaGreatHA87
section
namespace Go.Proofs.YtngmipfobcaojaaGreat.HA
open Go.RowKit Go.Proofs.YtngmipfobcaojaaGreatW.PrintWords Go.Proofs.YtngmipfobcaojaaGreatW.PrintLast Go.Proofs.YtngmipfobcaojaaGreatW.PrintMore
attribute [local go_sem] q1k q1j q1s q1t q1a q19 q1h q1i

def IsS126 (w0 W : World) (g : Nat) (f0 : Int) (f1 : Int) (f2 : Bool) (f3 : Bool) : Prop := W.heap[g]? = some (.cells #[.int .i64 f0, .int .i64 f1, .bool f2, .bool f3] 126 (0, 0)) ∧ w0.heap.size ≤ g
theorem IsS126.grown {w0 W : World} {g : Nat} {f0 : Int} {f1 : Int} {f2 : Bool} {f3 : Bool} {W1 : World} {row : Option Nat} (h : IsS126 w0 W g f0 f1 f2 f3) (hw : W.grownBy W1 row) (hne : some g ≠ row) : IsS126 w0 W1 g f0 f1 f2 f3 := by
 obtain ⟨hb, hg⟩ := h
 exact ⟨blk_grown hb hw hne, hg⟩
theorem IsS126.kept {w0 W : World} {g : Nat} {f0 : Int} {f1 : Int} {f2 : Bool} {f3 : Bool} {W1 : World} {S : Nat → Prop} (h : IsS126 w0 W g f0 f1 f2 f3) (hk : Kept W W1 S) (hne : ¬ S g) : IsS126 w0 W1 g f0 f1 f2 f3 := by
 obtain ⟨hb, hg⟩ := h
 exact ⟨blk_kept hb hk hne, hg⟩
theorem IsS126.below {w0 W : World} {g : Nat} {f0 : Int} {f1 : Int} {f2 : Bool} {f3 : Bool} {W1 : World} (h : IsS126 w0 W g f0 f1 f2 f3) (hw : Below W.heap.size W W1) : IsS126 w0 W1 g f0 f1 f2 f3 := h.grown (grown_of_below hw none) (by simp)
theorem IsS126.alloc {w0 W : World} {g : Nat} {f0 : Int} {f1 : Int} {f2 : Bool} {f3 : Bool} (h : IsS126 w0 W g f0 f1 f2 f3) (o : Obj) : IsS126 w0 (W.alloc o) g f0 f1 f2 f3 := h.below (qg (Below.refl _ _) o)
theorem IsS126.drewN {w0 W : World} {g : Nat} {f0 : Int} {f1 : Int} {f2 : Bool} {f3 : Bool} (h : IsS126 w0 W g f0 f1 f2 f3) (m : Nat) : IsS126 w0 (W.drewN m) g f0 f1 f2 f3 := h
theorem IsS126.drew {w0 W : World} {g : Nat} {f0 : Int} {f1 : Int} {f2 : Bool} {f3 : Bool} (h : IsS126 w0 W g f0 f1 f2 f3) : IsS126 w0 W.drew g f0 f1 f2 f3 := h
theorem IsS126.at_ {w0 W : World} {g : Nat} {f0 : Int} {f1 : Int} {f2 : Bool} {f3 : Bool} {w' : World} {m : Nat} (hq : W.drewN m = w') (h : IsS126 w0 W g f0 f1 f2 f3) : IsS126 w0 w' g f0 f1 f2 f3 := by subst hq; exact IsS126.drewN h m
theorem IsS126.apart {w0 W : World} {g : Nat} {f0 : Int} {f1 : Int} {f2 : Bool} {f3 : Bool} {α : Type} {d : Kd α} {e : Nat} {base : Nat} {ok : Nat → Prop} {v : Value} {xs : List α} (h : IsS126 w0 W g f0 f1 f2 f3) (ho : d.R e W base ok v xs) (ht : ∀ q, q ∈ e :: d.E → q ≠ 126) : d.R e W base (fun k => ok k ∧ k ≠ g) v xs := by
 obtain ⟨hb, hg⟩ := h
 exact Kd.R_types ho hb ht
theorem IsS126.own_ne {w0 W : World} {g : Nat} {f0 : Int} {f1 : Int} {f2 : Bool} {f3 : Bool} {α : Type} {d : Kd α} {e : Nat} {base : Nat} {ok : Nat → Prop} {v : Value} {xs : List α} (h : IsS126 w0 W g f0 f1 f2 f3) (ho : d.R e W base ok v xs) (ht : e ≠ 126) : some g ≠ v.ownBlock := by
 obtain ⟨hb, hg⟩ := h
 exact Kd.R_ne ho hb ht
theorem IsS126.ge {w0 W : World} {g : Nat} {f0 : Int} {f1 : Int} {f2 : Bool} {f3 : Bool} (h : IsS126 w0 W g f0 f1 f2 f3) : w0.heap.size ≤ g := by
 obtain ⟨hb, hg⟩ := h
 exact hg
theorem IsS126.far {w0 W : World} {g : Nat} {f0 : Int} {f1 : Int} {f2 : Bool} {f3 : Bool} {p : Addr} (h : IsS126 w0 W g f0 f1 f2 f3) (hne : g ≠ p.block) (u : Value) : IsS126 w0 (W.setCell p u) g f0 f1 f2 f3 := by
 obtain ⟨hb, hg⟩ := h
 exact ⟨blk_far hb hne u, hg⟩
theorem cellS126_0 {W : World} {g : Nat} {f0 : Int} {f1 : Int} {f2 : Bool} {f3 : Bool} (h : W.heap[g]? = some (.cells #[.int .i64 f0, .int .i64 f1, .bool f2, .bool f3] 126 (0, 0))) : W.cell? ⟨g, 0, none⟩ = some (.int .i64 f0) := (qk h 0).trans rfl
theorem IsS126.set_0 {w0 W : World} {g : Nat} {f0 : Int} {f1 : Int} {f2 : Bool} {f3 : Bool} (h : IsS126 w0 W g f0 f1 f2 f3) (x : Int) : IsS126 w0 (W.setCell ⟨g, 0, none⟩ (.int .i64 x)) g x f1 f2 f3 := by
 obtain ⟨hb, hg⟩ := h
 exact ⟨(by simpa using blk_set hb 0 (.int .i64 x)), hg⟩
theorem cellS126_1 {W : World} {g : Nat} {f0 : Int} {f1 : Int} {f2 : Bool} {f3 : Bool} (h : W.heap[g]? = some (.cells #[.int .i64 f0, .int .i64 f1, .bool f2, .bool f3] 126 (0, 0))) : W.cell? ⟨g, 1, none⟩ = some (.int .i64 f1) := (qk h 1).trans rfl
theorem IsS126.set_1 {w0 W : World} {g : Nat} {f0 : Int} {f1 : Int} {f2 : Bool} {f3 : Bool} (h : IsS126 w0 W g f0 f1 f2 f3) (x : Int) : IsS126 w0 (W.setCell ⟨g, 1, none⟩ (.int .i64 x)) g f0 x f2 f3 := by
 obtain ⟨hb, hg⟩ := h
 exact ⟨(by simpa using blk_set hb 1 (.int .i64 x)), hg⟩
theorem cellS126_2 {W : World} {g : Nat} {f0 : Int} {f1 : Int} {f2 : Bool} {f3 : Bool} (h : W.heap[g]? = some (.cells #[.int .i64 f0, .int .i64 f1, .bool f2, .bool f3] 126 (0, 0))) : W.cell? ⟨g, 2, none⟩ = some (.bool f2) := (qk h 2).trans rfl
theorem IsS126.set_2 {w0 W : World} {g : Nat} {f0 : Int} {f1 : Int} {f2 : Bool} {f3 : Bool} (h : IsS126 w0 W g f0 f1 f2 f3) (x : Bool) : IsS126 w0 (W.setCell ⟨g, 2, none⟩ (.bool x)) g f0 f1 x f3 := by
 obtain ⟨hb, hg⟩ := h
 exact ⟨(by simpa using blk_set hb 2 (.bool x)), hg⟩
theorem cellS126_3 {W : World} {g : Nat} {f0 : Int} {f1 : Int} {f2 : Bool} {f3 : Bool} (h : W.heap[g]? = some (.cells #[.int .i64 f0, .int .i64 f1, .bool f2, .bool f3] 126 (0, 0))) : W.cell? ⟨g, 3, none⟩ = some (.bool f3) := (qk h 3).trans rfl
theorem IsS126.set_3 {w0 W : World} {g : Nat} {f0 : Int} {f1 : Int} {f2 : Bool} {f3 : Bool} (h : IsS126 w0 W g f0 f1 f2 f3) (x : Bool) : IsS126 w0 (W.setCell ⟨g, 3, none⟩ (.bool x)) g f0 f1 f2 x := by
 obtain ⟨hb, hg⟩ := h
 exact ⟨(by simpa using blk_set hb 3 (.bool x)), hg⟩
def varint_New.f  : Option (Int × Int × Bool × Bool) := some (0, 0, false, false)
theorem z24_0 {p : Prop} (h : p := by repeat (first | (with_reducible first | exact HBW.out | apply qg | apply qa | apply qi) | exact HBW.out)) : p := h
set_option maxHeartbeats 8000000 in
set_option maxRecDepth 100000 in
theorem varint_New.calls  (r1 : Int) (r2 : Int) (r3 : Bool) (r4 : Bool) (w0 w : World) (hB : Below w0.heap.size w0 w) (h : varint_New.f  = some (r1, r2, r3, r4)) :
  Calls Tryz.prog 106 #[] w fun e w' => ∃ g_ : Nat, e = .returned (.pointer (some ⟨g_, 0, none⟩)) ∧ IsS126 w0 w' g_ r1 r2 r3 r4 ∧ Below w0.heap.size w0 w' ∧ Below w.heap.size w w' := by
 have hu126 := Tryz.underlying126
 have HBW := Aside0.mk (Below.refl w.heap.size w)
 have HW0 := Aside0.mk hB.size
 have HB := Aside0.mk hB
 clear hB
 have H : (some (0, 0, false, false)) = some (r1, r2, r3, r4) := h
 clear h
 simp only [Option.some.injEq, Prod.mk.injEq] at H
 obtain ⟨rfl, rfl, rfl, rfl⟩ := H
 go_enter Tryz.func106, Tryz.ntmps106
 go_wp2_with (first | ((with_reducible refine q1c (N := 2) rfl ?_); refine q1r ?hg (N := 2) ?hd (cs := #[.int .i64 0, .int .i64 0, .bool false, .bool false]) (t := 126) ?hr ?_; (case hd => rfl); (case hg => rfl); (case hr => first | (go_simp; done) | (go_simp; rfl)); intro gb521 hg w1 hbox hb; have n0_ := Aside0.mk (qe HBW.out hb); have n1_ := Aside0.mk (qe (by repeat (first | (with_reducible first | exact HB.out | apply qg | apply qa | apply qi) | exact HB.out)) hb); have n2_ := Aside0.mk (hbox); have n3_ := Aside0.mk ((by rw [hg]; exact (qm z24_0) : w.heap.size ≤ gb521)); have n4_ := Aside0.mk ((Nat.le_trans HW0.out (by rw [hg]; exact (qm z24_0) : w.heap.size ≤ gb521) : w0.heap.size ≤ gb521)); clear HBW; clear HB; have HBW := n0_; have HB := n1_; have BK521 := n2_; have GW521 := n3_; have GE521 := n4_; clear n0_ n1_ n2_ n3_ n4_; clear hb hbox hg))
 go_ret
 exact ⟨_, rfl, (show IsS126 w0 _ gb521 0 0 false false from ⟨by (with_reducible repeat (first | refine qd ?_ _ | refine qf ?_ | refine qc ?_ _)); exact BK521.out, GE521.out⟩), (by repeat (first | (with_reducible first | exact HB.out | apply qg | apply qa | apply qi | refine qw ?_ GE521.out) | exact HB.out)), (by repeat (first | (with_reducible first | exact HBW.out | apply qg | apply qa | apply qi | refine qw ?_ GW521.out) | exact HBW.out))⟩

end Go.Proofs.YtngmipfobcaojaaGreat.HA
end

-- YtngmipfobcaojaaGreatHAhPush
section
namespace Go.Proofs.YtngmipfobcaojaaGreat.HA
open Go.RowKit Go.Proofs.YtngmipfobcaojaaGreatW.PrintWords Go.Proofs.YtngmipfobcaojaaGreatW.PrintLast Go.Proofs.YtngmipfobcaojaaGreatW.PrintMore
def pushN (n size b : Int) : Int := wrap64 (n + wrap64 (wrap64 (Go.bits .and .u8 b 127) * 2 ^ min (IntKind.u64.wrap (wrap64 (7 * size))).toNat 64))
def varint_Reader_Push.f (s0_0 : Int) (s0_1 : Int) (s0_2 : Bool) (s0_3 : Bool) (a1 : Int) : Option (Bool × Int × Int × Int × Bool × Bool) :=
  if (s0_2 || s0_3) = true then some (false, 13, s0_0, s0_1, s0_2, s0_3)
  else if ¬ Go.bits .and .u8 a1 128 = 0 then (if wrap64 (s0_1 + 1) = 4 then some (false, 5, pushN s0_0 s0_1 a1, wrap64 (s0_1 + 1), false, true) else some (false, 0, pushN s0_0 s0_1 a1, wrap64 (s0_1 + 1), false, false))
  else if a1 = 0 then (if wrap64 (s0_1 + 1) > 1 then some (false, 5, pushN s0_0 s0_1 a1, wrap64 (s0_1 + 1), false, true) else some (true, 0, pushN s0_0 s0_1 a1, wrap64 (s0_1 + 1), true, false))
  else some (true, 0, pushN s0_0 s0_1 a1, wrap64 (s0_1 + 1), true, false)
set_option maxHeartbeats 1000000 in
set_option maxRecDepth 100000 in
theorem varint_Reader_Push.calls (g : Nat) (s0_0 : Int) (s0_1 : Int) (s0_2 : Bool) (s0_3 : Bool) (a1 : Int) (r1 : Bool) (r2 : Int) (r3 : Int) (r4 : Int) (r5 : Bool) (r6 : Bool) (w0 w : World)
    (hI : IsS126 w0 w g s0_0 s0_1 s0_2 s0_3) (hB : Below w0.heap.size w0 w) (h : varint_Reader_Push.f s0_0 s0_1 s0_2 s0_3 a1 = some (r1, r2, r3, r4, r5, r6)) :
    Calls Tryz.prog 107 #[.pointer (some ⟨g, 0, none⟩), .int .u8 a1] w fun e w' => e = .returned (.tuple #[.bool r1, .int .i64 r2]) ∧ IsS126 w0 w' g r3 r4 r5 r6 ∧ Below w0.heap.size w0 w' ∧ KeepBut w w' g none := by
  have hc0 : w.cell? ⟨g, 0, none⟩ = some (.int .i64 s0_0) := (qk hI.1 0).trans rfl
  have hc1 : w.cell? ⟨g, 1, none⟩ = some (.int .i64 s0_1) := (qk hI.1 1).trans rfl
  have hc2 : w.cell? ⟨g, 2, none⟩ = some (.bool s0_2) := (qk hI.1 2).trans rfl
  have hc3 : w.cell? ⟨g, 3, none⟩ = some (.bool s0_3) := (qk hI.1 3).trans rfl
  have hf0 := q9 hI.1 0
  have hf1 := q9 hI.1 1
  have hf2 := q9 hI.1 2
  have hf3 := q9 hI.1 3
  have HI0 := Aside0.mk hI
  have HB := Aside0.mk hB
  have HK := Aside0.mk (KeepBut.refl w g none)
  clear hI hB
  unfold varint_Reader_Push.f at h
  generalize hN : pushN s0_0 s0_1 a1 = n' at h
  unfold pushN at hN
  by_cases h0 : (s0_2 || s0_3) = true
  · rw [if_pos h0] at h
    simp only [Option.some.injEq, Prod.mk.injEq] at h
    obtain ⟨rfl, rfl, rfl, rfl, rfl, rfl⟩ := h
    clear hN
    cases s0_2 with
    | true =>
      go_enter Tryz.func107, Tryz.ntmps107
      go_wp2
      (first | go_ret | go_ret2)
      exact ⟨rfl, HI0.out, HB.out, HK.out⟩
    | false =>
      obtain rfl : s0_3 = true := by simpa using h0
      go_enter Tryz.func107, Tryz.ntmps107
      go_wp2
      (first | go_ret | go_ret2)
      exact ⟨rfl, HI0.out, HB.out, HK.out⟩
  · rw [if_neg h0] at h
    obtain ⟨rfl, rfl⟩ : s0_2 = false ∧ s0_3 = false := by cases s0_2 <;> cases s0_3 <;> simp at h0 ⊢
    clear h0
    generalize hz : wrap64 (s0_1 + 1) = z at h
    by_cases h1 : Go.bits .and .u8 a1 128 = 0
    · rw [if_neg (fun q => q h1)] at h
      have t1 : (Go.bits .and .u8 a1 128 != 0) = false := by rw [h1]; rfl
      by_cases h2 : a1 = 0
      · rw [if_pos h2] at h
        have t2 : (a1 == 0) = true := beq_iff_eq.2 h2
        by_cases h3 : z > 1
        · rw [if_pos h3] at h
          have t3 : decide (1 < z) = true := decide_eq_true h3
          clear h1 h2 h3
          simp only [Option.some.injEq, Prod.mk.injEq] at h
          obtain ⟨rfl, rfl, rfl, rfl, rfl, rfl⟩ := h
          go_enter Tryz.func107, Tryz.ntmps107
          go_wp2
          go_region
          go_wp2
          (first | go_ret | go_ret2)
          exact ⟨by first | rfl | (simp [*]; done), by repeat (with_reducible first | exact HI0.out | apply IsS126.drewN | apply IsS126.drew | apply IsS126.set_0 | apply IsS126.set_1 | apply IsS126.set_2 | apply IsS126.set_3), by repeat (with_reducible first | exact HB.out | apply qa | apply qi | refine qw ?_ (IsS126.ge HI0.out)), by repeat (with_reducible first | exact HK.out | apply KeepBut.set_ | apply keep_drewN | apply keep_drew)⟩
        · rw [if_neg h3] at h
          have t3 : decide (1 < z) = false := decide_eq_false h3
          clear h1 h2 h3
          simp only [Option.some.injEq, Prod.mk.injEq] at h
          obtain ⟨rfl, rfl, rfl, rfl, rfl, rfl⟩ := h
          go_enter Tryz.func107, Tryz.ntmps107
          go_wp2
          go_region
          go_wp2
          (first | go_ret | go_ret2)
          exact ⟨by first | rfl | (simp [*]; done), by repeat (with_reducible first | exact HI0.out | apply IsS126.drewN | apply IsS126.drew | apply IsS126.set_0 | apply IsS126.set_1 | apply IsS126.set_2 | apply IsS126.set_3), by repeat (with_reducible first | exact HB.out | apply qa | apply qi | refine qw ?_ (IsS126.ge HI0.out)), by repeat (with_reducible first | exact HK.out | apply KeepBut.set_ | apply keep_drewN | apply keep_drew)⟩
      · rw [if_neg h2] at h
        have t2 : (a1 == 0) = false := beq_eq_false_iff_ne.2 h2
        clear h1 h2
        simp only [Option.some.injEq, Prod.mk.injEq] at h
        obtain ⟨rfl, rfl, rfl, rfl, rfl, rfl⟩ := h
        go_enter Tryz.func107, Tryz.ntmps107
        go_wp2
        go_region
        go_wp2
        (first | go_ret | go_ret2)
        exact ⟨by first | rfl | (simp [*]; done), by repeat (with_reducible first | exact HI0.out | apply IsS126.drewN | apply IsS126.drew | apply IsS126.set_0 | apply IsS126.set_1 | apply IsS126.set_2 | apply IsS126.set_3), by repeat (with_reducible first | exact HB.out | apply qa | apply qi | refine qw ?_ (IsS126.ge HI0.out)), by repeat (with_reducible first | exact HK.out | apply KeepBut.set_ | apply keep_drewN | apply keep_drew)⟩
    · rw [if_pos h1] at h
      have t1 : (Go.bits .and .u8 a1 128 != 0) = true := bne_iff_ne.2 h1
      by_cases h2 : z = 4
      · rw [if_pos h2] at h
        have t2 : (z == 4) = true := beq_iff_eq.2 h2
        clear h1 h2
        simp only [Option.some.injEq, Prod.mk.injEq] at h
        obtain ⟨rfl, rfl, rfl, rfl, rfl, rfl⟩ := h
        go_enter Tryz.func107, Tryz.ntmps107
        go_wp2
        go_region
        go_wp2
        (first | go_ret | go_ret2)
        exact ⟨by first | rfl | (simp [*]; done), by repeat (with_reducible first | exact HI0.out | apply IsS126.drewN | apply IsS126.drew | apply IsS126.set_0 | apply IsS126.set_1 | apply IsS126.set_2 | apply IsS126.set_3), by repeat (with_reducible first | exact HB.out | apply qa | apply qi | refine qw ?_ (IsS126.ge HI0.out)), by repeat (with_reducible first | exact HK.out | apply KeepBut.set_ | apply keep_drewN | apply keep_drew)⟩
      · rw [if_neg h2] at h
        have t2 : (z == 4) = false := beq_eq_false_iff_ne.2 h2
        clear h1 h2
        simp only [Option.some.injEq, Prod.mk.injEq] at h
        obtain ⟨rfl, rfl, rfl, rfl, rfl, rfl⟩ := h
        go_enter Tryz.func107, Tryz.ntmps107
        go_wp2
        go_region
        go_wp2
        (first | go_ret | go_ret2)
        exact ⟨by first | rfl | (simp [*]; done), by repeat (with_reducible first | exact HI0.out | apply IsS126.drewN | apply IsS126.drew | apply IsS126.set_0 | apply IsS126.set_1 | apply IsS126.set_2 | apply IsS126.set_3), by repeat (with_reducible first | exact HB.out | apply qa | apply qi | refine qw ?_ (IsS126.ge HI0.out)), by repeat (with_reducible first | exact HK.out | apply KeepBut.set_ | apply keep_drewN | apply keep_drew)⟩
end Go.Proofs.YtngmipfobcaojaaGreat.HA
end

-- YtngmipfobcaojaaGreatHA89
section
namespace Go.Proofs.YtngmipfobcaojaaGreat.HA
open Go.RowKit Go.Proofs.YtngmipfobcaojaaGreatW.PrintWords Go.Proofs.YtngmipfobcaojaaGreatW.PrintLast Go.Proofs.YtngmipfobcaojaaGreatW.PrintMore
attribute [local go_sem] q1k q1j q1s q1t q1a q19 q1h q1i

def varint_Read.l0 : Nat → ByteArray → Int → Int → Int → Int → Bool → Bool → Option (Int × Int × Int)
 | 0, _, _, _, _, _, _, _ => none
 | k + 1, x0, x11, x12, x527000, x527001, x527002, x527003 => if x12 < x11 then (if 0 ≤ x12 then (if x12 < (x0.size : Int) then ((varint_Reader_Push.f x527000 x527001 x527002 x527003 (bt x0 x12)).bind fun bt527 => (if bt527.2.1 = 0 then (if bt527.1 = true then (some (bt527.2.2.1, bt527.2.2.2.1, 0)) else (varint_Read.l0 k x0 x11 (wrap64 (x12 + 1)) bt527.2.2.1 bt527.2.2.2.1 bt527.2.2.2.2.1 bt527.2.2.2.2.2)) else (some (0, 0, bt527.2.1)))) else (none)) else (none)) else (some (0, 0, 3))
def varint_Read.f (k : Nat) (a0 : ByteArray) : Option (Int × Int × Int) := (varint_New.f).bind fun bt522 => (varint_Read.l0 k a0 (a0.size : Int) 0 bt522.1 bt522.2.1 bt522.2.2.1 bt522.2.2.2)
theorem z26_0 {p : Prop} (h : p := by first | (with_reducible assumption) | assumption) : p := h
theorem z26_1 {p : Prop} (h : p := by repeat (first | (with_reducible first | exact HB.out | apply qg | apply qa | apply qi | refine qw ?_ (IsS126.ge HI526.out)) | exact HB.out)) : p := h
theorem z26_2 {p : Prop} (h : p := by first | rfl | (simp [qq, qp] <;> rfl) | (simp [*, qq, qp] <;> rfl)) : p := h
theorem z26_3 {p : Prop} (h : p := by first | rfl | (simp; done) | (simp [*]; done) | (simp; exact qh _) | exact qh _ | (simp; exact (qh _).symm) | (simp; exact q15 _)) : p := h
set_option maxHeartbeats 8000000 in
set_option maxRecDepth 100000 in
theorem varint_Read.calls (k : Nat) (a0 : ByteArray) (r1 : Int) (r2 : Int) (r3 : Int) (w : World) (h : varint_Read.f k a0 = some (r1, r2, r3)) :
  Calls Tryz.prog 53 #[.string a0] w fun e w' => e = .returned (.tuple #[.int .i64 r1, .int .i64 r2, .int .i64 r3]) ∧ Below w.heap.size w w' := by
 have HB := Aside0.mk (Below.refl w.heap.size w)
 have H : ((varint_New.f).bind fun bt522 => (varint_Read.l0 k a0 (a0.size : Int) 0 bt522.1 bt522.2.1 bt522.2.2.1 bt522.2.2.2)) = some (r1, r2, r3) := h
 clear h
 replace H := Option.bind_eq_some_iff.mp H
 obtain ⟨⟨t522, t523, t524, t525⟩, A20, H⟩ := H
 replace H : (varint_Read.l0 k a0 (a0.size : Int) 0 t522 t523 t524 t525) = some (r1, r2, r3) := H
 have A2 := Aside0.mk A20
 clear A20
 have H' := Aside0.mk H
 clear H
 go_enter Tryz.func53, Tryz.ntmps53
 go_wp2_with (first | (go_at_call 106; (with_reducible refine (varint_New.calls  t522 t523 t524 t525 w _ ?side1 A2.out).mono ?_); (case side1 => repeat (first | (with_reducible first | exact HB.out | apply qg | apply qa | apply qi) | exact HB.out)); rintro e w3 ⟨g526, rfl, hi, hb, hb2⟩; have n0_ := Aside0.mk (hb); have n1_ := Aside0.mk (hi); clear HB; have HB := n0_; have HI526 := n1_; clear n0_ n1_; (try clear hb); (try clear hb2); (try clear hk); (try clear hi)))
 repeat (go_quiet (first | (go_at_call 106; (with_reducible refine (varint_New.calls  t522 t523 t524 t525 w _ ?side1 A2.out).mono ?_); (case side1 => repeat (first | (with_reducible first | exact HB.out | apply qg | apply qa | apply qi) | exact HB.out)); rintro e w3 ⟨g526, rfl, hi, hb, hb2⟩; have n0_ := Aside0.mk (hb); have n1_ := Aside0.mk (hi); clear HB; have HB := n0_; have HI526 := n1_; clear n0_ n1_; (try clear hb); (try clear hb2); (try clear hk); (try clear hi))); try go_wp2_with (first | (go_at_call 106; (with_reducible refine (varint_New.calls  t522 t523 t524 t525 w _ ?side1 A2.out).mono ?_); (case side1 => repeat (first | (with_reducible first | exact HB.out | apply qg | apply qa | apply qi) | exact HB.out)); rintro e w3 ⟨g526, rfl, hi, hb, hb2⟩; have n0_ := Aside0.mk (hb); have n1_ := Aside0.mk (hi); clear HB; have HB := n0_; have HI526 := n1_; clear n0_ n1_; (try clear hb); (try clear hb2); (try clear hk); (try clear hi))))
 go_loopg [12] k (fun kq v12 w' => ∃ (x12_1 : Int) (x527000_1 : Int) (x527001_1 : Int) (x527002_1 : Bool) (x527003_1 : Bool), v12 = .int .i64 x12_1 ∧ Aside0 (varint_Read.l0 kq a0 (a0.size : Int) x12_1 x527000_1 x527001_1 x527002_1 x527003_1 = some (r1, r2, r3)) ∧ Aside0 (kq ≤ k) ∧ Aside0 (IsS126 w w' g526 x527000_1 x527001_1 x527002_1 x527003_1) ∧ Aside0 (Below w.heap.size w w'))
 case atStart => exact ⟨(0), (t522), (t523), (t524), (t525), z26_3, H', ⟨Nat.le_refl _⟩, ⟨(by repeat (first | (with_reducible first | exact HI526.out | apply IsS126.alloc | apply IsS126.drewN | apply IsS126.drew | apply IsS126.set_0 | apply IsS126.set_1 | apply IsS126.set_2 | apply IsS126.set_3) | exact HI526.out))⟩, ⟨z26_1⟩⟩
 case round =>
  clear H'
  try clear p2
  obtain ⟨x12_1, x527000_1, x527001_1, x527002_1, x527003_1, rfl, HA, HK1, HI526, HB⟩ := hrel
  cases gk with
  | zero => exact absurd HA.out (by simp [varint_Read.l0])
  | succ k1 =>
   have H := HA.out
   clear HA
   simp only [varint_Read.l0] at H
   by_cases c4 : x12_1 < (a0.size : Int)
   ·rw [if_pos c4] at H
    have c4b0 : decide (x12_1 < (a0.size : Int)) = true := decide_eq_true c4
    clear c4
    by_cases c5 : 0 ≤ x12_1
    ·rw [if_pos c5] at H
     have c5b0 : decide (0 ≤ x12_1) = true := decide_eq_true c5
     clear c5
     by_cases c6 : x12_1 < (a0.size : Int)
     ·rw [if_pos c6] at H
      have c6b0 : decide (x12_1 < (a0.size : Int)) = true := decide_eq_true c6
      clear c6
      replace H := Option.bind_eq_some_iff.mp H
      obtain ⟨⟨t527, t528, t529, t530, t531, t532⟩, A80, H⟩ := H
      replace H : (if t528 = 0 then (if t527 = true then (some (t529, t530, 0)) else (varint_Read.l0 k1 a0 (a0.size : Int) (wrap64 (x12_1 + 1)) t529 t530 t531 t532)) else (some (0, 0, t528))) = some (r1, r2, r3) := H
      have A8 := Aside0.mk A80
      clear A80
      by_cases c9 : t528 = 0
      ·rw [if_pos c9] at H
       have c9b0 : (t528 == 0) = true := beq_iff_eq.mpr c9
       have c9b1 : (t528 != 0) = false := bne_eq_false_iff_eq.mpr c9
       clear c9
       by_cases c10 : t527 = true
       ·subst c10
        rw [if_pos rfl] at H
        simp only [Option.some.injEq, Prod.mk.injEq] at H
        obtain ⟨rfl, rfl, rfl⟩ := H
        have p7 : 0 ≤ (x12_1 : Int) := of_decide_eq_true z26_0
        have q7 : x12_1 < (a0.size : Int) := of_decide_eq_true z26_0
        have hx7 := bt_at a0 x12_1
        replace p7 := eq_true p7
        replace q7 := eq_true q7
        go_wp2_with (first | (go_at_call 107; (with_reducible refine (varint_Reader_Push.calls g526 x527000_1 x527001_1 x527002_1 x527003_1 (bt a0 x12_1) true t528 t529 t530 t531 t532 w _ ?side1 ?side2 A8.out).mono ?_); (case side1 => repeat (first | (with_reducible first | exact HI526.out | apply IsS126.alloc | apply IsS126.drewN | apply IsS126.drew | apply IsS126.set_0 | apply IsS126.set_1 | apply IsS126.set_2 | apply IsS126.set_3) | exact HI526.out)); (case side2 => repeat (first | (with_reducible first | exact HB.out | apply qg | apply qa | apply qi | refine qw ?_ (IsS126.ge HI526.out)) | exact HB.out)); rintro e w11 ⟨rfl, hi, hb, hk⟩; have n0_ := Aside0.mk (hb); have n1_ := Aside0.mk (hi); clear HB; clear HI526; have HB := n0_; have HI526 := n1_; clear n0_ n1_; (try clear hb); (try clear hb2); (try clear hk); (try clear hi); obtain ⟨HGz12, hgz12⟩ := HI526.out; have hcz12_0 := cellS126_0 HGz12; have hcz12_1 := cellS126_1 HGz12; have hcz12_2 := cellS126_2 HGz12; have hcz12_3 := cellS126_3 HGz12; have hfz12_0 := q9 HGz12 0; have hfz12_1 := q9 HGz12 1; have hfz12_2 := q9 HGz12 2; have hfz12_3 := q9 HGz12 3; clear HGz12 hgz12))
        repeat (go_quiet (first | (go_at_call 107; (with_reducible refine (varint_Reader_Push.calls g526 x527000_1 x527001_1 x527002_1 x527003_1 (bt a0 x12_1) true t528 t529 t530 t531 t532 w _ ?side1 ?side2 A8.out).mono ?_); (case side1 => repeat (first | (with_reducible first | exact HI526.out | apply IsS126.alloc | apply IsS126.drewN | apply IsS126.drew | apply IsS126.set_0 | apply IsS126.set_1 | apply IsS126.set_2 | apply IsS126.set_3) | exact HI526.out)); (case side2 => repeat (first | (with_reducible first | exact HB.out | apply qg | apply qa | apply qi | refine qw ?_ (IsS126.ge HI526.out)) | exact HB.out)); rintro e w11 ⟨rfl, hi, hb, hk⟩; have n0_ := Aside0.mk (hb); have n1_ := Aside0.mk (hi); clear HB; clear HI526; have HB := n0_; have HI526 := n1_; clear n0_ n1_; (try clear hb); (try clear hb2); (try clear hk); (try clear hi); obtain ⟨HGz12, hgz12⟩ := HI526.out; have hcz12_0 := cellS126_0 HGz12; have hcz12_1 := cellS126_1 HGz12; have hcz12_2 := cellS126_2 HGz12; have hcz12_3 := cellS126_3 HGz12; have hfz12_0 := q9 HGz12 0; have hfz12_1 := q9 HGz12 1; have hfz12_2 := q9 HGz12 2; have hfz12_3 := q9 HGz12 3; clear HGz12 hgz12)); try go_wp2_with (first | (go_at_call 107; (with_reducible refine (varint_Reader_Push.calls g526 x527000_1 x527001_1 x527002_1 x527003_1 (bt a0 x12_1) true t528 t529 t530 t531 t532 w _ ?side1 ?side2 A8.out).mono ?_); (case side1 => repeat (first | (with_reducible first | exact HI526.out | apply IsS126.alloc | apply IsS126.drewN | apply IsS126.drew | apply IsS126.set_0 | apply IsS126.set_1 | apply IsS126.set_2 | apply IsS126.set_3) | exact HI526.out)); (case side2 => repeat (first | (with_reducible first | exact HB.out | apply qg | apply qa | apply qi | refine qw ?_ (IsS126.ge HI526.out)) | exact HB.out)); rintro e w11 ⟨rfl, hi, hb, hk⟩; have n0_ := Aside0.mk (hb); have n1_ := Aside0.mk (hi); clear HB; clear HI526; have HB := n0_; have HI526 := n1_; clear n0_ n1_; (try clear hb); (try clear hb2); (try clear hk); (try clear hi); obtain ⟨HGz12, hgz12⟩ := HI526.out; have hcz12_0 := cellS126_0 HGz12; have hcz12_1 := cellS126_1 HGz12; have hcz12_2 := cellS126_2 HGz12; have hcz12_3 := cellS126_3 HGz12; have hfz12_0 := q9 HGz12 0; have hfz12_1 := q9 HGz12 1; have hfz12_2 := q9 HGz12 2; have hfz12_3 := q9 HGz12 3; clear HGz12 hgz12)))
        go_ret3
        exact ⟨z26_2, z26_1⟩
       replace c10 := Bool.eq_false_iff.mpr c10
       subst c10
       rw [if_neg (show ¬ (false = true) by decide)] at H
       have H' := Aside0.mk H
       clear H
       have p7 : 0 ≤ (x12_1 : Int) := of_decide_eq_true z26_0
       have q7 : x12_1 < (a0.size : Int) := of_decide_eq_true z26_0
       have hx7 := bt_at a0 x12_1
       replace p7 := eq_true p7
       replace q7 := eq_true q7
       go_wp2_with (first | (go_at_call 107; (with_reducible refine (varint_Reader_Push.calls g526 x527000_1 x527001_1 x527002_1 x527003_1 (bt a0 x12_1) false t528 t529 t530 t531 t532 w _ ?side1 ?side2 A8.out).mono ?_); (case side1 => repeat (first | (with_reducible first | exact HI526.out | apply IsS126.alloc | apply IsS126.drewN | apply IsS126.drew | apply IsS126.set_0 | apply IsS126.set_1 | apply IsS126.set_2 | apply IsS126.set_3) | exact HI526.out)); (case side2 => repeat (first | (with_reducible first | exact HB.out | apply qg | apply qa | apply qi | refine qw ?_ (IsS126.ge HI526.out)) | exact HB.out)); rintro e w13 ⟨rfl, hi, hb, hk⟩; have n0_ := Aside0.mk (hb); have n1_ := Aside0.mk (hi); clear HB; clear HI526; have HB := n0_; have HI526 := n1_; clear n0_ n1_; (try clear hb); (try clear hb2); (try clear hk); (try clear hi)))
       repeat (go_quiet (first | (go_at_call 107; (with_reducible refine (varint_Reader_Push.calls g526 x527000_1 x527001_1 x527002_1 x527003_1 (bt a0 x12_1) false t528 t529 t530 t531 t532 w _ ?side1 ?side2 A8.out).mono ?_); (case side1 => repeat (first | (with_reducible first | exact HI526.out | apply IsS126.alloc | apply IsS126.drewN | apply IsS126.drew | apply IsS126.set_0 | apply IsS126.set_1 | apply IsS126.set_2 | apply IsS126.set_3) | exact HI526.out)); (case side2 => repeat (first | (with_reducible first | exact HB.out | apply qg | apply qa | apply qi | refine qw ?_ (IsS126.ge HI526.out)) | exact HB.out)); rintro e w13 ⟨rfl, hi, hb, hk⟩; have n0_ := Aside0.mk (hb); have n1_ := Aside0.mk (hi); clear HB; clear HI526; have HB := n0_; have HI526 := n1_; clear n0_ n1_; (try clear hb); (try clear hb2); (try clear hk); (try clear hi))); try go_wp2_with (first | (go_at_call 107; (with_reducible refine (varint_Reader_Push.calls g526 x527000_1 x527001_1 x527002_1 x527003_1 (bt a0 x12_1) false t528 t529 t530 t531 t532 w _ ?side1 ?side2 A8.out).mono ?_); (case side1 => repeat (first | (with_reducible first | exact HI526.out | apply IsS126.alloc | apply IsS126.drewN | apply IsS126.drew | apply IsS126.set_0 | apply IsS126.set_1 | apply IsS126.set_2 | apply IsS126.set_3) | exact HI526.out)); (case side2 => repeat (first | (with_reducible first | exact HB.out | apply qg | apply qa | apply qi | refine qw ?_ (IsS126.ge HI526.out)) | exact HB.out)); rintro e w13 ⟨rfl, hi, hb, hk⟩; have n0_ := Aside0.mk (hb); have n1_ := Aside0.mk (hi); clear HB; clear HI526; have HB := n0_; have HI526 := n1_; clear n0_ n1_; (try clear hb); (try clear hb2); (try clear hk); (try clear hi))))
       go_roundg k1
       case measure => have := HK1.out; omega
       case rel => exact ⟨(wrap64 (x12_1 + 1)), (t529), (t530), (t531), (t532), z26_3, H', ⟨by have := HK1.out; omega⟩, ⟨by repeat (first | (with_reducible first | exact HI526.out | apply IsS126.alloc | apply IsS126.drewN | apply IsS126.drew | apply IsS126.set_0 | apply IsS126.set_1 | apply IsS126.set_2 | apply IsS126.set_3) | exact HI526.out)⟩, ⟨by repeat (first | (with_reducible first | exact HB.out | apply qg | apply qa | apply qi | refine qw ?_ (IsS126.ge HI526.out)) | exact HB.out)⟩⟩
      rw [if_neg c9] at H
      have c9b0 : (t528 == 0) = false := beq_eq_false_iff_ne.mpr c9
      have c9b1 : (t528 != 0) = true := bne_iff_ne.mpr c9
      simp only [Option.some.injEq, Prod.mk.injEq] at H
      obtain ⟨rfl, rfl, rfl⟩ := H
      have p7 : 0 ≤ (x12_1 : Int) := of_decide_eq_true z26_0
      have q7 : x12_1 < (a0.size : Int) := of_decide_eq_true z26_0
      have hx7 := bt_at a0 x12_1
      replace p7 := eq_true p7
      replace q7 := eq_true q7
      go_wp2_with (first | (go_at_call 107; (with_reducible refine (varint_Reader_Push.calls g526 x527000_1 x527001_1 x527002_1 x527003_1 (bt a0 x12_1) t527 t528 t529 t530 t531 t532 w _ ?side1 ?side2 A8.out).mono ?_); (case side1 => repeat (first | (with_reducible first | exact HI526.out | apply IsS126.alloc | apply IsS126.drewN | apply IsS126.drew | apply IsS126.set_0 | apply IsS126.set_1 | apply IsS126.set_2 | apply IsS126.set_3) | exact HI526.out)); (case side2 => repeat (first | (with_reducible first | exact HB.out | apply qg | apply qa | apply qi | refine qw ?_ (IsS126.ge HI526.out)) | exact HB.out)); rintro e w14 ⟨rfl, hi, hb, hk⟩; have n0_ := Aside0.mk (hb); have n1_ := Aside0.mk (hi); clear HB; clear HI526; have HB := n0_; have HI526 := n1_; clear n0_ n1_; (try clear hb); (try clear hb2); (try clear hk); (try clear hi)))
      repeat (go_quiet (first | (go_at_call 107; (with_reducible refine (varint_Reader_Push.calls g526 x527000_1 x527001_1 x527002_1 x527003_1 (bt a0 x12_1) t527 t528 t529 t530 t531 t532 w _ ?side1 ?side2 A8.out).mono ?_); (case side1 => repeat (first | (with_reducible first | exact HI526.out | apply IsS126.alloc | apply IsS126.drewN | apply IsS126.drew | apply IsS126.set_0 | apply IsS126.set_1 | apply IsS126.set_2 | apply IsS126.set_3) | exact HI526.out)); (case side2 => repeat (first | (with_reducible first | exact HB.out | apply qg | apply qa | apply qi | refine qw ?_ (IsS126.ge HI526.out)) | exact HB.out)); rintro e w14 ⟨rfl, hi, hb, hk⟩; have n0_ := Aside0.mk (hb); have n1_ := Aside0.mk (hi); clear HB; clear HI526; have HB := n0_; have HI526 := n1_; clear n0_ n1_; (try clear hb); (try clear hb2); (try clear hk); (try clear hi))); try go_wp2_with (first | (go_at_call 107; (with_reducible refine (varint_Reader_Push.calls g526 x527000_1 x527001_1 x527002_1 x527003_1 (bt a0 x12_1) t527 t528 t529 t530 t531 t532 w _ ?side1 ?side2 A8.out).mono ?_); (case side1 => repeat (first | (with_reducible first | exact HI526.out | apply IsS126.alloc | apply IsS126.drewN | apply IsS126.drew | apply IsS126.set_0 | apply IsS126.set_1 | apply IsS126.set_2 | apply IsS126.set_3) | exact HI526.out)); (case side2 => repeat (first | (with_reducible first | exact HB.out | apply qg | apply qa | apply qi | refine qw ?_ (IsS126.ge HI526.out)) | exact HB.out)); rintro e w14 ⟨rfl, hi, hb, hk⟩; have n0_ := Aside0.mk (hb); have n1_ := Aside0.mk (hi); clear HB; clear HI526; have HB := n0_; have HI526 := n1_; clear n0_ n1_; (try clear hb); (try clear hb2); (try clear hk); (try clear hi))))
      go_ret3
      exact ⟨z26_2, z26_1⟩
     rw [if_neg c6] at H
     exact absurd H (by simp)
    rw [if_neg c5] at H
    exact absurd H (by simp)
   rw [if_neg c4] at H
   have c4b0 : decide (x12_1 < (a0.size : Int)) = false := decide_eq_false c4
   clear c4
   simp only [Option.some.injEq, Prod.mk.injEq] at H
   obtain ⟨rfl, rfl, rfl⟩ := H
   go_wp2
   repeat (go_quiet (fail); try go_wp2)
   go_ret3
   exact ⟨z26_2, z26_1⟩

end Go.Proofs.YtngmipfobcaojaaGreat.HA
end

-- YtngmipfobcaojaaGreatHAhRules
section
namespace Go.Proofs.YtngmipfobcaojaaGreat.HA
open Go.RowKit Go.Proofs.YtngmipfobcaojaaGreatW.PrintWords Go.Proofs.YtngmipfobcaojaaGreatW.PrintLast Go.Proofs.YtngmipfobcaojaaGreatW.PrintMore

def ruleTab : List (Int × Int × Int × Int × Int) :=
  [(1, 1, 65544, 0, 1), (2, 3, 65544, 0, 4294967295), (3, 5, 65544, 0, 0), (8, 5, 65544, 0, 0), (9, 6, 65544, 0, 0), (11, 4, 264, 1, 268435455), (17, 3, 16390, 0, 4294967295), (18, 5, 4, 0, 0), (19, 2, 4, 0, 65535), (21, 5, 32774, 0, 0), (22, 6, 32774, 0, 0), (23, 1, 2, 0, 1), (24, 3, 65536, 0, 4294967295), (25, 1, 2, 0, 1), (26, 5, 4, 0, 0), (28, 5, 16388, 0, 0), (31, 5, 51956, 0, 0), (33, 2, 6, 1, 65535), (34, 2, 6, 0, 65535), (35, 2, 8, 1, 65535), (36, 1, 4, 0, 1), (37, 1, 4, 0, 1), (38, 7, 118782, 0, 0), (39, 3, 6, 1, 4294967295), (40, 1, 4, 0, 1), (41, 1, 4, 0, 1), (42, 1, 4, 0, 1)]
def ruleVal (r : Int × Int × Int × Int) : Value := .agg #[.int .i64 r.1, .int .i64 r.2.1, .int .u32 r.2.2.1, .int .u32 r.2.2.2]
def ruleEnt (x : (Int × Int × Int × Int × Int) × Nat) : MapEntry := { key := .int .i64 x.1.1, val := ruleVal x.1.2, born := x.2 }
def ruleObj : Obj := .map (ruleTab.zipIdx.map ruleEnt).toArray 27
def ruleFind : List (Int × Int × Int × Int × Int) → Int → Option (Int × Int × Int × Int)
  | [], _ => none
  | x :: l, id => if id == x.1 then some x.2 else ruleFind l id
def ruleOf (id : Int) : Int × Int × Int × Int := (ruleFind ruleTab id).getD (0, 0, 0, 0)

def freeK : List MapEntry → Int → Bool
  | [], _ => true
  | e :: es, k => (match e.key with | .int .i64 a => !(k == a) | _ => false) && freeK es k
theorem freeK_now (k : Int) : ∀ (es : List MapEntry) (i : Nat), freeK es k = true → Instr.findNow (.int .i64) (.int .i64 k) es i = some none
  | [], _, _ => rfl
  | e :: es, i, h => by
    simp only [freeK, Bool.and_eq_true] at h
    obtain ⟨h1, h2⟩ := h
    obtain ⟨key, val, born⟩ := e
    cases key <;> simp at h1
    rename_i q a
    cases q <;> simp at h1
    simp only [Instr.findNow, Instr.sameNow, if_true]
    rw [beq_eq_false_iff_ne.2 h1]
    exact freeK_now k es (i + 1) h2
theorem checkKey_int (b : Bool) (n : Nat) (q : IntKind) (k : Int) (w : World) :
    (Instr.checkKey b (n + 1) 3 (.int q k)).run Tryz.prog w = .ok () w := by
  simp only [Instr.checkKey, Sem.run_bind, run_underlying Tryz.underlying3, Result.andThen]
  rfl
theorem run_ins (w : World) (es : Array MapEntry) (c : Nat) (k : Int) (v : Value) (h : freeK es.toList k = true) :
    (Instr.mapUpdate 61 (.map (some w.heap.size)) (.int .i64 k) v).run Tryz.prog (w.alloc (.map es c)) = .ok () (w.alloc (.map (es.push { key := .int .i64 k, val := v, born := c }) (c + 1))) := by
  have hh : (w.alloc (.map es c)).heap[w.heap.size]? = some (.map es c) := heap_alloc_new w _
  have hf := freeK_now k es.toList 0 h
  have hs : ∀ o, { w.alloc (.map es c) with heap := (w.alloc (.map es c)).heap.setIfInBounds w.heap.size o } = w.alloc o := fun o => by
    simp only [World.alloc]
    congr 1
    apply Array.ext'
    simp [Array.setIfInBounds, Array.toList_push]
  have hck : ∀ W : World, (Instr.checkKey false 10000 3 (.int .i64 k)).run Tryz.prog W = .ok () W := fun W => checkKey_int _ 9999 _ _ W
  have hp : ∀ W : World, (pure none : Sem (Option (Nat × Value))).run Tryz.prog W = .ok none W := fun _ => rfl
  simp only [Instr.mapUpdate, Sem.run_bind, run_underlying Tryz.underlying61, Result.andThen, getObj, Sem.run, hh, hck, Instr.findKey, run_underlying Tryz.underlying3, hf, setObj, hp]
  exact congrArg (Result.ok ()) (hs _)

set_option maxHeartbeats 4000000 in
set_option maxRecDepth 100000 in
theorem prop_rules.calls0 (w : World) :
    Calls Tryz.prog 45 #[] w fun e w' => e = .returned (.map (some w.heap.size)) ∧ w.alloc ruleObj = w' := by
  have hmm := @run_makeMap Tryz.prog
  have hup := fun es c k v h => run_ins w es c k v h
  have hfk : ∀ (k a : Int) (v : Value) (b : Nat) (l : List MapEntry), freeK ({ key := .int .i64 a, val := v, born := b } :: l) k = (!(k == a) && freeK l k) := fun _ _ _ _ _ => rfl
  have hfn : ∀ k : Int, freeK [] k = true := fun _ => rfl
  go_enter Tryz.func45, Tryz.ntmps45
  go_wp2
  go_ret
  exact ⟨rfl, rfl⟩

theorem findNow_rule (id : Int) : ∀ (l : List (Int × Int × Int × Int × Int)) (i j : Nat),
    Instr.findNow (.int .i64) (.int .i64 id) ((l.zipIdx j).map ruleEnt) i = some none ∧ ruleFind l id = none ∨
      ∃ m r, Instr.findNow (.int .i64) (.int .i64 id) ((l.zipIdx j).map ruleEnt) i = some (some (m, ruleVal r)) ∧ ruleFind l id = some r
  | [], _, _ => .inl ⟨rfl, rfl⟩
  | x :: l, i, j => by
    simp only [List.zipIdx_cons, List.map_cons, Instr.findNow, ruleEnt, Instr.sameNow, if_true, ruleFind]
    cases h : (id == x.1) with
    | true => exact .inr ⟨i, x.2, rfl, rfl⟩
    | false => exact findNow_rule id l (i + 1) (j + 1)
theorem checkKey_int' (b : Bool) (q : IntKind) (k : Int) (w : World) :
    (Instr.checkKey b 10000 3 (.int q k)).run Tryz.prog w = .ok () w := checkKey_int b 9999 q k w
theorem run_pure' {α : Type} (x : α) (W : World) : (pure x : Sem α).run Tryz.prog W = .ok x W := rfl
theorem run_rule_lookup (W : World) (b : Nat) (id : Int) (hb : W.heap[b]? = some ruleObj) :
    (Instr.lookup 61 (.map (some b)) (.int .i64 id) false).run Tryz.prog W = .ok (ruleVal (ruleOf id)) W := by
  have hz : (zeroValue 67).run Tryz.prog W = .ok (ruleVal (0, 0, 0, 0)) W := by kernel_rfl
  unfold ruleObj at hb
  have hg := MapKept.run_getObj_map (P := Tryz.prog) hb
  rcases findNow_rule id ruleTab 0 0 with ⟨h1, h2⟩ | ⟨m, r, h1, h2⟩
  · have hr : ruleOf id = (0, 0, 0, 0) := by unfold ruleOf; rw [h2]; rfl
    rw [hr]
    simp only [Instr.lookup, Sem.run_bind, run_underlying Tryz.underlying61, Result.andThen, hg, checkKey_int', Instr.findKey, run_underlying Tryz.underlying3, run_pure', h1, hz]
    rfl
  · have hr : ruleOf id = r := by unfold ruleOf; rw [h2]; rfl
    rw [hr]
    simp only [Instr.lookup, Sem.run_bind, run_underlying Tryz.underlying61, Result.andThen, hg, checkKey_int', Instr.findKey, run_underlying Tryz.underlying3, run_pure', h1]
    rfl

theorem rules_heap (w : World) : (w.alloc ruleObj).heap[w.heap.size]? = some ruleObj := heap_alloc_new w _
end Go.Proofs.YtngmipfobcaojaaGreat.HA
end

-- YtngmipfobcaojaaGreatHA91
section
namespace Go.Proofs.YtngmipfobcaojaaGreat.HA
open Go.RowKit Go.Proofs.YtngmipfobcaojaaGreatW.PrintWords Go.Proofs.YtngmipfobcaojaaGreatW.PrintLast Go.Proofs.YtngmipfobcaojaaGreatW.PrintMore
attribute [local go_sem] q1k q1j q1s q1t q1a q19 q1h q1i

def IsS145 (w0 W : World) (g : Nat) (f0 : ByteArray) (f1 : Int) (f2 : Int) : Prop := W.heap[g]? = some (.cells #[.string f0, .int .i64 f1, .int .i64 f2] 145 (0, 0)) ∧ w0.heap.size ≤ g
theorem IsS145.grown {w0 W : World} {g : Nat} {f0 : ByteArray} {f1 : Int} {f2 : Int} {W1 : World} {row : Option Nat} (h : IsS145 w0 W g f0 f1 f2) (hw : W.grownBy W1 row) (hne : some g ≠ row) : IsS145 w0 W1 g f0 f1 f2 := by
 obtain ⟨hb, hg⟩ := h
 exact ⟨blk_grown hb hw hne, hg⟩
theorem IsS145.kept {w0 W : World} {g : Nat} {f0 : ByteArray} {f1 : Int} {f2 : Int} {W1 : World} {S : Nat → Prop} (h : IsS145 w0 W g f0 f1 f2) (hk : Kept W W1 S) (hne : ¬ S g) : IsS145 w0 W1 g f0 f1 f2 := by
 obtain ⟨hb, hg⟩ := h
 exact ⟨blk_kept hb hk hne, hg⟩
theorem IsS145.below {w0 W : World} {g : Nat} {f0 : ByteArray} {f1 : Int} {f2 : Int} {W1 : World} (h : IsS145 w0 W g f0 f1 f2) (hw : Below W.heap.size W W1) : IsS145 w0 W1 g f0 f1 f2 := h.grown (grown_of_below hw none) (by simp)
theorem IsS145.alloc {w0 W : World} {g : Nat} {f0 : ByteArray} {f1 : Int} {f2 : Int} (h : IsS145 w0 W g f0 f1 f2) (o : Obj) : IsS145 w0 (W.alloc o) g f0 f1 f2 := h.below (qg (Below.refl _ _) o)
theorem IsS145.drewN {w0 W : World} {g : Nat} {f0 : ByteArray} {f1 : Int} {f2 : Int} (h : IsS145 w0 W g f0 f1 f2) (m : Nat) : IsS145 w0 (W.drewN m) g f0 f1 f2 := h
theorem IsS145.drew {w0 W : World} {g : Nat} {f0 : ByteArray} {f1 : Int} {f2 : Int} (h : IsS145 w0 W g f0 f1 f2) : IsS145 w0 W.drew g f0 f1 f2 := h
theorem IsS145.at_ {w0 W : World} {g : Nat} {f0 : ByteArray} {f1 : Int} {f2 : Int} {w' : World} {m : Nat} (hq : W.drewN m = w') (h : IsS145 w0 W g f0 f1 f2) : IsS145 w0 w' g f0 f1 f2 := by subst hq; exact IsS145.drewN h m
theorem IsS145.apart {w0 W : World} {g : Nat} {f0 : ByteArray} {f1 : Int} {f2 : Int} {α : Type} {d : Kd α} {e : Nat} {base : Nat} {ok : Nat → Prop} {v : Value} {xs : List α} (h : IsS145 w0 W g f0 f1 f2) (ho : d.R e W base ok v xs) (ht : ∀ q, q ∈ e :: d.E → q ≠ 145) : d.R e W base (fun k => ok k ∧ k ≠ g) v xs := by
 obtain ⟨hb, hg⟩ := h
 exact Kd.R_types ho hb ht
theorem IsS145.own_ne {w0 W : World} {g : Nat} {f0 : ByteArray} {f1 : Int} {f2 : Int} {α : Type} {d : Kd α} {e : Nat} {base : Nat} {ok : Nat → Prop} {v : Value} {xs : List α} (h : IsS145 w0 W g f0 f1 f2) (ho : d.R e W base ok v xs) (ht : e ≠ 145) : some g ≠ v.ownBlock := by
 obtain ⟨hb, hg⟩ := h
 exact Kd.R_ne ho hb ht
theorem IsS145.ge {w0 W : World} {g : Nat} {f0 : ByteArray} {f1 : Int} {f2 : Int} (h : IsS145 w0 W g f0 f1 f2) : w0.heap.size ≤ g := by
 obtain ⟨hb, hg⟩ := h
 exact hg
theorem IsS145.far {w0 W : World} {g : Nat} {f0 : ByteArray} {f1 : Int} {f2 : Int} {p : Addr} (h : IsS145 w0 W g f0 f1 f2) (hne : g ≠ p.block) (u : Value) : IsS145 w0 (W.setCell p u) g f0 f1 f2 := by
 obtain ⟨hb, hg⟩ := h
 exact ⟨blk_far hb hne u, hg⟩
theorem cellS145_0 {W : World} {g : Nat} {f0 : ByteArray} {f1 : Int} {f2 : Int} (h : W.heap[g]? = some (.cells #[.string f0, .int .i64 f1, .int .i64 f2] 145 (0, 0))) : W.cell? ⟨g, 0, none⟩ = some (.string f0) := (qk h 0).trans rfl
theorem IsS145.set_0 {w0 W : World} {g : Nat} {f0 : ByteArray} {f1 : Int} {f2 : Int} (h : IsS145 w0 W g f0 f1 f2) (x : ByteArray) : IsS145 w0 (W.setCell ⟨g, 0, none⟩ (.string x)) g x f1 f2 := by
 obtain ⟨hb, hg⟩ := h
 exact ⟨(by simpa using blk_set hb 0 (.string x)), hg⟩
theorem cellS145_1 {W : World} {g : Nat} {f0 : ByteArray} {f1 : Int} {f2 : Int} (h : W.heap[g]? = some (.cells #[.string f0, .int .i64 f1, .int .i64 f2] 145 (0, 0))) : W.cell? ⟨g, 1, none⟩ = some (.int .i64 f1) := (qk h 1).trans rfl
theorem IsS145.set_1 {w0 W : World} {g : Nat} {f0 : ByteArray} {f1 : Int} {f2 : Int} (h : IsS145 w0 W g f0 f1 f2) (x : Int) : IsS145 w0 (W.setCell ⟨g, 1, none⟩ (.int .i64 x)) g f0 x f2 := by
 obtain ⟨hb, hg⟩ := h
 exact ⟨(by simpa using blk_set hb 1 (.int .i64 x)), hg⟩
theorem cellS145_2 {W : World} {g : Nat} {f0 : ByteArray} {f1 : Int} {f2 : Int} (h : W.heap[g]? = some (.cells #[.string f0, .int .i64 f1, .int .i64 f2] 145 (0, 0))) : W.cell? ⟨g, 2, none⟩ = some (.int .i64 f2) := (qk h 2).trans rfl
theorem IsS145.set_2 {w0 W : World} {g : Nat} {f0 : ByteArray} {f1 : Int} {f2 : Int} (h : IsS145 w0 W g f0 f1 f2) (x : Int) : IsS145 w0 (W.setCell ⟨g, 2, none⟩ (.int .i64 x)) g f0 f1 x := by
 obtain ⟨hb, hg⟩ := h
 exact ⟨(by simpa using blk_set hb 2 (.int .i64 x)), hg⟩
def octet_New.f (a0 : ByteArray) : Option (ByteArray × Int × Int) := some (a0, 0, 0)
theorem z28_0 {p : Prop} (h : p := by repeat (first | (with_reducible first | exact HBW.out | apply qg | apply qa | apply qi) | exact HBW.out)) : p := h
set_option maxHeartbeats 8000000 in
set_option maxRecDepth 100000 in
theorem octet_New.calls (a0 : ByteArray) (r1 : ByteArray) (r2 : Int) (r3 : Int) (w0 w : World) (hB : Below w0.heap.size w0 w) (h : octet_New.f a0 = some (r1, r2, r3)) :
  Calls Tryz.prog 109 #[.string a0] w fun e w' => ∃ g_ : Nat, e = .returned (.pointer (some ⟨g_, 0, none⟩)) ∧ IsS145 w0 w' g_ r1 r2 r3 ∧ Below w0.heap.size w0 w' ∧ Below w.heap.size w w' := by
 have hu145 := Tryz.underlying145
 have HBW := Aside0.mk (Below.refl w.heap.size w)
 have HW0 := Aside0.mk hB.size
 have HB := Aside0.mk hB
 clear hB
 have H : (some (a0, 0, 0)) = some (r1, r2, r3) := h
 clear h
 simp only [Option.some.injEq, Prod.mk.injEq] at H
 obtain ⟨rfl, rfl, rfl⟩ := H
 go_enter Tryz.func109, Tryz.ntmps109
 go_wp2_with (first | ((with_reducible refine q1c (N := 5) rfl ?_); refine q1r ?hg (N := 5) ?hd (cs := #[.string a0, .int .i64 0, .int .i64 0]) (t := 145) ?hr ?_; (case hd => rfl); (case hg => rfl); (case hr => first | (go_simp; done) | (go_simp; rfl)); intro gb533 hg w2 hbox hb; have n0_ := Aside0.mk (qe HBW.out hb); have n1_ := Aside0.mk (qe (by repeat (first | (with_reducible first | exact HB.out | apply qg | apply qa | apply qi) | exact HB.out)) hb); have n2_ := Aside0.mk (hbox); have n3_ := Aside0.mk ((by rw [hg]; exact (qm z28_0) : w.heap.size ≤ gb533)); have n4_ := Aside0.mk ((Nat.le_trans HW0.out (by rw [hg]; exact (qm z28_0) : w.heap.size ≤ gb533) : w0.heap.size ≤ gb533)); clear HBW; clear HB; have HBW := n0_; have HB := n1_; have BK533 := n2_; have GW533 := n3_; have GE533 := n4_; clear n0_ n1_ n2_ n3_ n4_; clear hb hbox hg))
 go_ret
 exact ⟨_, rfl, (show IsS145 w0 _ gb533 a0 0 0 from ⟨by (with_reducible repeat (first | refine qd ?_ _ | refine qf ?_ | refine qc ?_ _)); exact BK533.out, GE533.out⟩), (by repeat (first | (with_reducible first | exact HB.out | apply qg | apply qa | apply qi | refine qw ?_ GE533.out) | exact HB.out)), (by repeat (first | (with_reducible first | exact HBW.out | apply qg | apply qa | apply qi | refine qw ?_ GW533.out) | exact HBW.out))⟩

end Go.Proofs.YtngmipfobcaojaaGreat.HA
end

-- YtngmipfobcaojaaGreatHA94
section
namespace Go.Proofs.YtngmipfobcaojaaGreat.HA
open Go.RowKit Go.Proofs.YtngmipfobcaojaaGreatW.PrintWords Go.Proofs.YtngmipfobcaojaaGreatW.PrintLast Go.Proofs.YtngmipfobcaojaaGreatW.PrintMore
attribute [local go_sem] q1k q1j q1s q1t q1a q19 q1h q1i

mutual
def octet_Get.j0 : Nat → ByteArray → Option (Int)
 | 0, _ => none
 | k + 1, x0 => octet_Get.l0 k x0 0 (x0.size : Int) 0
def octet_Get.l0 : Nat → ByteArray → Int → Int → Int → Option (Int)
 | 0, _, _, _, _ => none
 | k + 1, x0, x3, x14, x15 => if x15 < x14 then (if 0 ≤ x15 then (if x15 < (x0.size : Int) then (octet_Get.l0 k x0 (Go.bits .or .u64 (IntKind.u64.wrap (x3 * 256)) (IntKind.u64.wrap (bt x0 x15))) x14 (wrap64 (x15 + 1))) else (none)) else (none)) else (some x3)
end
def octet_Get.f (k : Nat) (a0 : ByteArray) : Option (Int) := if (a0.size : Int) > 8 then (if 0 ≤ (wrap64 ((a0.size : Int) - 8)) then (if (wrap64 ((a0.size : Int) - 8)) ≤ (a0.size : Int) then (octet_Get.j0 k (a0.extract ((wrap64 ((a0.size : Int) - 8)) : Int).toNat a0.size)) else (none)) else (none)) else (octet_Get.j0 k a0)
theorem z29_0 {p : Prop} (h : p := by first | rfl | (simp; done) | (simp [*]; done) | (simp; exact qh _) | exact qh _ | (simp; exact (qh _).symm) | (simp; exact q15 _)) : p := h
set_option maxHeartbeats 8000000 in
set_option maxRecDepth 100000 in
theorem octet_Get.calls (k : Nat) (a0 : ByteArray) (r : Int) (w : World) (h : octet_Get.f k a0 = some r) :
  Calls Tryz.prog 69 #[.string a0] w fun e w' => e = .returned (.int .u64 r) ∧ Drawn0 w w' := by
 have H : (if (a0.size : Int) > 8 then (if 0 ≤ (wrap64 ((a0.size : Int) - 8)) then (if (wrap64 ((a0.size : Int) - 8)) ≤ (a0.size : Int) then (octet_Get.j0 k (a0.extract ((wrap64 ((a0.size : Int) - 8)) : Int).toNat a0.size)) else (none)) else (none)) else (octet_Get.j0 k a0)) = some r := h
 clear h
 have HC2 := Aside0.mk H
 clear H
 go_enter Tryz.func69, Tryz.ntmps69
 go_upto_if 7 with (fail)
 go_cut [0] (fun v0 wc => ∃ (kq : Nat) (x0_1 : ByteArray), v0 = .string x0_1 ∧ Aside0 (octet_Get.j0 kq x0_1 = some r) ∧ Aside0 (kq ≤ k) ∧ Drawn0 w wc)
 case first =>
  have H := HC2.out
  clear HC2
  by_cases c3 : (a0.size : Int) > 8
  ·rw [if_pos c3] at H
   have c3b0 : decide (8 < (a0.size : Int)) = true := decide_eq_true c3
   have c3b1 : decide (8 < a0.size) = true := decide_eq_true (by omega)
   clear c3
   (first | rw [c3b0] | (simp only [i64_w, i32_w]; rw [c3b0]) | skip)
   obtain ⟨ji4, hji4⟩ : ∃ j_ : Int, (wrap64 ((a0.size : Int) - 8)) = j_ := ⟨_, rfl⟩
   replace H : (if 0 ≤ (ji4) then (if (ji4) ≤ (a0.size : Int) then (octet_Get.j0 k (a0.extract ((ji4) : Int).toNat a0.size)) else (none)) else (none)) = some r := by first | (rw [hji4] at H; exact H) | (simp only [hji4] at H ⊢; exact H)
   have hji4w : (IntKind.i64.wrap ((a0.size : Int) - 8)) = ji4 := (i64_w _).trans hji4
   by_cases c5 : 0 ≤ (ji4)
   ·rw [if_pos c5] at H
    have c5b0 := eq_true c5
    have c5b1 : decide (0 ≤ (ji4)) = true := decide_eq_true c5
    clear c5
    by_cases c6 : (ji4) ≤ (a0.size : Int)
    ·rw [if_pos c6] at H
     have c6b0 := eq_true c6
     have c6b1 : decide ((ji4) ≤ (a0.size : Int)) = true := decide_eq_true c6
     clear c6
     have H' := Aside0.mk H
     clear H
     go_wp2
     go_meet
     case rel => exact ⟨_, (a0.extract ((ji4) : Int).toNat a0.size), (by first | rfl | (simp; done) | (simp only [← hji4] <;> (first | rfl | simp)) | (simp [*]; done) | (simp; exact qh _)), H', ⟨(by first | omega | exact Nat.le_refl _)⟩, by repeat (first | exact Drawn0.refl _ | apply Drawn0.step)⟩
    rw [if_neg c6] at H
    exact absurd H (by simp)
   rw [if_neg c5] at H
   exact absurd H (by simp)
  rw [if_neg c3] at H
  have c3b0 : decide (8 < (a0.size : Int)) = false := decide_eq_false c3
  have c3b1 : decide (8 < a0.size) = false := decide_eq_false (by omega)
  clear c3
  (first | rw [c3b0] | (simp only [i64_w, i32_w]; rw [c3b0]) | skip)
  have H' := Aside0.mk H
  clear H
  go_wp2
  go_meet
  case rel => exact ⟨_, (a0), z29_0, H', ⟨(by first | omega | exact Nat.le_refl _)⟩, by repeat (first | exact Drawn0.refl _ | apply Drawn0.step)⟩
 case rest =>
  clear HC2
  obtain ⟨kq, x0_1, rfl, HA, HJ1, ⟨mc1, rfl⟩⟩ := hcut
  cases kq with
  | zero => exact absurd HA.out (by simp [octet_Get.j0])
  | succ kj1 =>
   have H := HA.out
   clear HA
   simp only [octet_Get.j0] at H
   have H' := Aside0.mk H
   clear H
   go_wp2
   go_loopg [3, 15] kj1 (fun kq v3 v15 w' => ∃ (x3_2 : Int) (x15_2 : Int), v3 = .int .u64 x3_2 ∧ v15 = .int .i64 x15_2 ∧ Aside0 (octet_Get.l0 kq x0_1 x3_2 (x0_1.size : Int) x15_2 = some r) ∧ Aside0 (kq ≤ kj1) ∧ Drawn0 w w')
   case atStart => exact ⟨(0), (0), z29_0, z29_0, H', ⟨Nat.le_refl _⟩, by repeat (first | exact Drawn0.refl _ | apply Drawn0.step)⟩
   case round =>
    clear H'
    obtain ⟨x3_2, x15_2, rfl, rfl, HA, HK2, ⟨m2, rfl⟩⟩ := hrel
    cases gk with
    | zero => exact absurd HA.out (by simp [octet_Get.l0])
    | succ k2 =>
     have H := HA.out
     clear HA
     simp only [octet_Get.l0] at H
     by_cases c7 : x15_2 < (x0_1.size : Int)
     ·rw [if_pos c7] at H
      have c7b0 : decide (x15_2 < (x0_1.size : Int)) = true := decide_eq_true c7
      clear c7
      by_cases c8 : 0 ≤ x15_2
      ·rw [if_pos c8] at H
       have c8b0 : decide (0 ≤ x15_2) = true := decide_eq_true c8
       clear c8
       by_cases c9 : x15_2 < (x0_1.size : Int)
       ·rw [if_pos c9] at H
        have c9b0 : decide (x15_2 < (x0_1.size : Int)) = true := decide_eq_true c9
        clear c9
        have H' := Aside0.mk H
        clear H
        have p10 : 0 ≤ (x15_2 : Int) := of_decide_eq_true (by first | (with_reducible assumption) | assumption)
        have q10 : x15_2 < (x0_1.size : Int) := of_decide_eq_true (by first | (with_reducible assumption) | assumption)
        have hx10 := bt_at x0_1 x15_2
        replace p10 := eq_true p10
        replace q10 := eq_true q10
        go_wp2
        go_roundg k2
        case measure => have := HJ1.out; have := HK2.out; omega
        case rel => exact ⟨(Go.bits .or .u64 (IntKind.u64.wrap (x3_2 * 256)) (IntKind.u64.wrap (bt x0_1 x15_2))), (wrap64 (x15_2 + 1)), z29_0, z29_0, H', ⟨by have := HJ1.out; have := HK2.out; omega⟩, by repeat (first | exact Drawn0.refl _ | apply Drawn0.step)⟩
       rw [if_neg c9] at H
       exact absurd H (by simp)
      rw [if_neg c8] at H
      exact absurd H (by simp)
     rw [if_neg c7] at H
     have c7b0 : decide (x15_2 < (x0_1.size : Int)) = false := decide_eq_false c7
     clear c7
     obtain rfl := Option.some.inj H
     go_wp2
     go_ret
     exact ⟨z29_0, (by repeat (first | exact Drawn0.refl _ | apply Drawn0.step))⟩

end Go.Proofs.YtngmipfobcaojaaGreat.HA
end

-- YtngmipfobcaojaaGreatHA95
section
namespace Go.Proofs.YtngmipfobcaojaaGreat.HA
open Go.RowKit Go.Proofs.YtngmipfobcaojaaGreatW.PrintWords Go.Proofs.YtngmipfobcaojaaGreatW.PrintLast Go.Proofs.YtngmipfobcaojaaGreatW.PrintMore
attribute [local go_sem] q1k q1j q1s q1t q1a q19 q1h q1i

def octet_Cursor_ready.f (s0_0 : ByteArray) (s0_1 : Int) (s0_2 : Int) : Option (Bool × ByteArray × Int × Int) := some ((s0_2 == 0), s0_0, s0_1, s0_2)
set_option maxHeartbeats 8000000 in
set_option maxRecDepth 100000 in
theorem octet_Cursor_ready.calls (g : Nat) (s0_0 : ByteArray) (s0_1 : Int) (s0_2 : Int) (r1 : Bool) (r2 : ByteArray) (r3 : Int) (r4 : Int) (w0 w : World) (hI : IsS145 w0 w g s0_0 s0_1 s0_2) (hB : Below w0.heap.size w0 w) (h : octet_Cursor_ready.f s0_0 s0_1 s0_2 = some (r1, r2, r3, r4)) :
  Calls Tryz.prog 162 #[.pointer (some ⟨g, 0, none⟩)] w fun e w' => e = .returned (.bool r1) ∧ IsS145 w0 w' g r2 r3 r4 ∧ Below w0.heap.size w0 w' ∧ KeepBut w w' g none := by
 have HI0 := Aside0.mk hI
 have HK := Aside0.mk (KeepBut.refl w g none)
 have HL := Aside0.mk hB.size
 clear hI
 have HW0 := Aside0.mk hB.size
 have HB := Aside0.mk hB
 clear hB
 have H : (some ((s0_2 == 0), s0_0, s0_1, s0_2)) = some (r1, r2, r3, r4) := h
 clear h
 simp only [Option.some.injEq, Prod.mk.injEq] at H
 obtain ⟨rfl, rfl, rfl, rfl⟩ := H
 obtain ⟨HGz2, hgz2⟩ := HI0.out
 have hcz2_0 := cellS145_0 HGz2
 have hcz2_1 := cellS145_1 HGz2
 have hcz2_2 := cellS145_2 HGz2
 have hfz2_0 := q9 HGz2 0
 have hfz2_1 := q9 HGz2 1
 have hfz2_2 := q9 HGz2 2
 clear HGz2 hgz2
 go_enter Tryz.func162, Tryz.ntmps162
 go_wp2
 go_ret
 exact ⟨(by first | rfl | (simp [qq, qp] <;> rfl) | (simp [*, qq, qp] <;> rfl)), (by repeat (first | (with_reducible first | exact HI0.out | apply IsS145.alloc | apply IsS145.drewN | apply IsS145.drew | apply IsS145.set_0 | apply IsS145.set_1 | apply IsS145.set_2) | exact HI0.out)), (by repeat (first | (with_reducible first | exact HB.out | apply qg | apply qa | apply qi | refine qw ?_ (IsS145.ge HI0.out)) | exact HB.out)), (by repeat (first | (with_reducible first | exact HK.out | apply KeepBut.set_ | apply keep_drewN | apply keep_drew | apply keep_alloc) | exact HK.out))⟩

end Go.Proofs.YtngmipfobcaojaaGreat.HA
end

-- YtngmipfobcaojaaGreatHA96
section
namespace Go.Proofs.YtngmipfobcaojaaGreat.HA
open Go.RowKit Go.Proofs.YtngmipfobcaojaaGreatW.PrintWords Go.Proofs.YtngmipfobcaojaaGreatW.PrintLast Go.Proofs.YtngmipfobcaojaaGreatW.PrintMore
attribute [local go_sem] q1k q1j q1s q1t q1a q19 q1h q1i

def octet_Cursor_has.f (s0_0 : ByteArray) (s0_1 : Int) (s0_2 : Int) (a1 : Int) : Option (Bool × ByteArray × Int × Int) := if a1 ≥ 0 then (some (decide (a1 ≤ (wrap64 ((s0_0.size : Int) - s0_1))), s0_0, s0_1, s0_2)) else (some (false, s0_0, s0_1, s0_2))
theorem z31_0 {p : Prop} (h : p := by repeat (first | (with_reducible first | exact HI0.out | apply IsS145.alloc | apply IsS145.drewN | apply IsS145.drew | apply IsS145.set_0 | apply IsS145.set_1 | apply IsS145.set_2) | exact HI0.out)) : p := h
theorem z31_1 {p : Prop} (h : p := by repeat (first | (with_reducible first | exact HB.out | apply qg | apply qa | apply qi | refine qw ?_ (IsS145.ge HI0.out)) | exact HB.out)) : p := h
theorem z31_2 {p : Prop} (h : p := by repeat (first | (with_reducible first | exact HK.out | apply KeepBut.set_ | apply keep_drewN | apply keep_drew | apply keep_alloc) | exact HK.out)) : p := h
set_option maxHeartbeats 8000000 in
set_option maxRecDepth 100000 in
theorem octet_Cursor_has.calls (g : Nat) (s0_0 : ByteArray) (s0_1 : Int) (s0_2 : Int) (a1 : Int) (r1 : Bool) (r2 : ByteArray) (r3 : Int) (r4 : Int) (w0 w : World) (hI : IsS145 w0 w g s0_0 s0_1 s0_2) (hB : Below w0.heap.size w0 w) (h : octet_Cursor_has.f s0_0 s0_1 s0_2 a1 = some (r1, r2, r3, r4)) :
  Calls Tryz.prog 163 #[.pointer (some ⟨g, 0, none⟩), .int .i64 a1] w fun e w' => e = .returned (.bool r1) ∧ IsS145 w0 w' g r2 r3 r4 ∧ Below w0.heap.size w0 w' ∧ KeepBut w w' g none := by
 have HI0 := Aside0.mk hI
 have HK := Aside0.mk (KeepBut.refl w g none)
 have HL := Aside0.mk hB.size
 clear hI
 have HW0 := Aside0.mk hB.size
 have HB := Aside0.mk hB
 clear hB
 have H : (if a1 ≥ 0 then (some (decide (a1 ≤ (wrap64 ((s0_0.size : Int) - s0_1))), s0_0, s0_1, s0_2)) else (some (false, s0_0, s0_1, s0_2))) = some (r1, r2, r3, r4) := h
 clear h
 by_cases c3 : a1 ≥ 0
 ·rw [if_pos c3] at H
  have c3b0 : decide (0 ≤ a1) = true := decide_eq_true c3
  clear c3
  simp only [Option.some.injEq, Prod.mk.injEq] at H
  obtain ⟨rfl, rfl, rfl, rfl⟩ := H
  obtain ⟨HGz4, hgz4⟩ := HI0.out
  have hcz4_0 := cellS145_0 HGz4
  have hcz4_1 := cellS145_1 HGz4
  have hcz4_2 := cellS145_2 HGz4
  have hfz4_0 := q9 HGz4 0
  have hfz4_1 := q9 HGz4 1
  have hfz4_2 := q9 HGz4 2
  clear HGz4 hgz4
  go_enter Tryz.func163, Tryz.ntmps163
  go_wp2
  repeat (go_quiet (fail); try go_wp2)
  go_ret
  exact ⟨(by first | rfl | (simp [qq, qp] <;> rfl) | (simp [*, qq, qp] <;> rfl)), z31_0, z31_1, z31_2⟩
 rw [if_neg c3] at H
 have c3b0 : decide (0 ≤ a1) = false := decide_eq_false c3
 clear c3
 simp only [Option.some.injEq, Prod.mk.injEq] at H
 obtain ⟨rfl, rfl, rfl, rfl⟩ := H
 go_enter Tryz.func163, Tryz.ntmps163
 go_wp2
 repeat (go_quiet (fail); try go_wp2)
 go_ret
 exact ⟨(by first | rfl | (simp [qq, qp] <;> rfl) | (simp [*, qq, qp] <;> rfl)), z31_0, z31_1, z31_2⟩

end Go.Proofs.YtngmipfobcaojaaGreat.HA
end

-- YtngmipfobcaojaaGreatHA97
section
namespace Go.Proofs.YtngmipfobcaojaaGreat.HA
open Go.RowKit Go.Proofs.YtngmipfobcaojaaGreatW.PrintWords Go.Proofs.YtngmipfobcaojaaGreatW.PrintLast Go.Proofs.YtngmipfobcaojaaGreatW.PrintMore
attribute [local go_sem] q1k q1j q1s q1t q1a q19 q1h q1i

def octet_Cursor_Take.f (s0_0 : ByteArray) (s0_1 : Int) (s0_2 : Int) (a1 : Int) : Option (ByteArray × ByteArray × Int × Int) := (octet_Cursor_ready.f s0_0 s0_1 s0_2).bind fun bt538 => (if bt538.1 = true then ((octet_Cursor_has.f bt538.2.1 bt538.2.2.1 bt538.2.2.2 a1).bind fun bt542 => (if bt542.1 = true then (if 0 ≤ bt542.2.2.1 then (if bt542.2.2.1 ≤ (wrap64 (bt542.2.2.1 + a1)) then (if (wrap64 (bt542.2.2.1 + a1)) ≤ (bt542.2.1.size : Int) then (some (bt542.2.1.extract (bt542.2.2.1 : Int).toNat ((wrap64 (bt542.2.2.1 + a1)) : Int).toNat, bt542.2.1, wrap64 (bt542.2.2.1 + a1), bt542.2.2.2)) else (none)) else (none)) else (none)) else (some ((⟨#[]⟩ : ByteArray), bt542.2.1, bt542.2.2.1, 3)))) else (some ((⟨#[]⟩ : ByteArray), bt538.2.1, bt538.2.2.1, bt538.2.2.2)))
theorem z32_0 {p : Prop} (h : p := by repeat (first | (with_reducible first | exact HK.out | apply KeepBut.set_ | apply keep_drewN | apply keep_drew | apply keep_alloc) | exact HK.out)) : p := h
theorem z32_1 {p : Prop} (h : p := by first | rfl | (simp [qq, qp] <;> rfl) | (simp [*, qq, qp] <;> rfl)) : p := h
theorem z32_2 {p : Prop} (h : p := by repeat (first | (with_reducible first | exact HI0.out | apply IsS145.alloc | apply IsS145.drewN | apply IsS145.drew | apply IsS145.set_0 | apply IsS145.set_1 | apply IsS145.set_2) | exact HI0.out)) : p := h
theorem z32_3 {p : Prop} (h : p := by repeat (first | (with_reducible first | exact HB.out | apply qg | apply qa | apply qi | refine qw ?_ (IsS145.ge HI0.out)) | exact HB.out)) : p := h
set_option maxHeartbeats 8000000 in
set_option maxRecDepth 100000 in
theorem octet_Cursor_Take.calls (g : Nat) (s0_0 : ByteArray) (s0_1 : Int) (s0_2 : Int) (a1 : Int) (r1 : ByteArray) (r2 : ByteArray) (r3 : Int) (r4 : Int) (w0 w : World) (hI : IsS145 w0 w g s0_0 s0_1 s0_2) (hB : Below w0.heap.size w0 w) (h : octet_Cursor_Take.f s0_0 s0_1 s0_2 a1 = some (r1, r2, r3, r4)) :
  Calls Tryz.prog 148 #[.pointer (some ⟨g, 0, none⟩), .int .i64 a1] w fun e w' => e = .returned (.string r1) ∧ IsS145 w0 w' g r2 r3 r4 ∧ Below w0.heap.size w0 w' ∧ KeepBut w w' g none := by
 have HI0 := Aside0.mk hI
 have HK := Aside0.mk (KeepBut.refl w g none)
 have HL := Aside0.mk hB.size
 clear hI
 have HW0 := Aside0.mk hB.size
 have HB := Aside0.mk hB
 clear hB
 have H : ((octet_Cursor_ready.f s0_0 s0_1 s0_2).bind fun bt538 => (if bt538.1 = true then ((octet_Cursor_has.f bt538.2.1 bt538.2.2.1 bt538.2.2.2 a1).bind fun bt542 => (if bt542.1 = true then (if 0 ≤ bt542.2.2.1 then (if bt542.2.2.1 ≤ (wrap64 (bt542.2.2.1 + a1)) then (if (wrap64 (bt542.2.2.1 + a1)) ≤ (bt542.2.1.size : Int) then (some (bt542.2.1.extract (bt542.2.2.1 : Int).toNat ((wrap64 (bt542.2.2.1 + a1)) : Int).toNat, bt542.2.1, wrap64 (bt542.2.2.1 + a1), bt542.2.2.2)) else (none)) else (none)) else (none)) else (some ((⟨#[]⟩ : ByteArray), bt542.2.1, bt542.2.2.1, 3)))) else (some ((⟨#[]⟩ : ByteArray), bt538.2.1, bt538.2.2.1, bt538.2.2.2)))) = some (r1, r2, r3, r4) := h
 clear h
 replace H := Option.bind_eq_some_iff.mp H
 obtain ⟨⟨t538, t539, t540, t541⟩, A30, H⟩ := H
 replace H : (if t538 = true then ((octet_Cursor_has.f t539 t540 t541 a1).bind fun bt542 => (if bt542.1 = true then (if 0 ≤ bt542.2.2.1 then (if bt542.2.2.1 ≤ (wrap64 (bt542.2.2.1 + a1)) then (if (wrap64 (bt542.2.2.1 + a1)) ≤ (bt542.2.1.size : Int) then (some (bt542.2.1.extract (bt542.2.2.1 : Int).toNat ((wrap64 (bt542.2.2.1 + a1)) : Int).toNat, bt542.2.1, wrap64 (bt542.2.2.1 + a1), bt542.2.2.2)) else (none)) else (none)) else (none)) else (some ((⟨#[]⟩ : ByteArray), bt542.2.1, bt542.2.2.1, 3)))) else (some ((⟨#[]⟩ : ByteArray), t539, t540, t541))) = some (r1, r2, r3, r4) := H
 have A3 := Aside0.mk A30
 clear A30
 by_cases c4 : t538 = true
 ·subst c4
  rw [if_pos rfl] at H
  replace H := Option.bind_eq_some_iff.mp H
  obtain ⟨⟨t542, t543, t544, t545⟩, A50, H⟩ := H
  replace H : (if t542 = true then (if 0 ≤ t544 then (if t544 ≤ (wrap64 (t544 + a1)) then (if (wrap64 (t544 + a1)) ≤ (t543.size : Int) then (some (t543.extract (t544 : Int).toNat ((wrap64 (t544 + a1)) : Int).toNat, t543, wrap64 (t544 + a1), t545)) else (none)) else (none)) else (none)) else (some ((⟨#[]⟩ : ByteArray), t543, t544, 3))) = some (r1, r2, r3, r4) := H
  have A5 := Aside0.mk A50
  clear A50
  by_cases c6 : t542 = true
  ·subst c6
   rw [if_pos rfl] at H
   by_cases c7 : 0 ≤ t544
   ·rw [if_pos c7] at H
    have c7b0 := eq_true c7
    have c7b1 : decide (0 ≤ t544) = true := decide_eq_true c7
    clear c7
    by_cases c8 : t544 ≤ (wrap64 (t544 + a1))
    ·rw [if_pos c8] at H
     have c8b0 := eq_true c8
     have c8b1 : decide (t544 ≤ (wrap64 (t544 + a1))) = true := decide_eq_true c8
     by_cases c9 : (wrap64 (t544 + a1)) ≤ (t543.size : Int)
     ·rw [if_pos c9] at H
      have c9b0 := eq_true c9
      have c9b1 : decide ((wrap64 (t544 + a1)) ≤ (t543.size : Int)) = true := decide_eq_true c9
      simp only [Option.some.injEq, Prod.mk.injEq] at H
      obtain ⟨rfl, rfl, rfl, rfl⟩ := H
      go_enter Tryz.func148, Tryz.ntmps148
      go_wp2_with (first | (go_at_call 162; (with_reducible refine (octet_Cursor_ready.calls g s0_0 s0_1 s0_2 true t539 t540 t541 w0 _ ?side1 ?side2 A3.out).mono ?_); (case side1 => repeat (first | (with_reducible first | exact HI0.out | apply IsS145.alloc | apply IsS145.drewN | apply IsS145.drew | apply IsS145.set_0 | apply IsS145.set_1 | apply IsS145.set_2) | exact HI0.out)); (case side2 => repeat (first | (with_reducible first | exact HB.out | apply qg | apply qa | apply qi | refine qw ?_ (IsS145.ge HI0.out)) | exact HB.out)); rintro e w10 ⟨rfl, hi, hb, hk⟩; have n0_ := Aside0.mk (KeepBut.trans z32_0 hk (.inl rfl)); have n1_ := Aside0.mk (hb); have n2_ := Aside0.mk (hi); clear HK; clear HB; clear HI0; have HK := n0_; have HB := n1_; have HI0 := n2_; clear n0_ n1_ n2_; (try clear hb); (try clear hb2); (try clear hk); (try clear hi)) | (go_at_call 163; (with_reducible refine (octet_Cursor_has.calls g t539 t540 t541 a1 true t543 t544 t545 w0 _ ?side1 ?side2 A5.out).mono ?_); (case side1 => repeat (first | (with_reducible first | exact HI0.out | apply IsS145.alloc | apply IsS145.drewN | apply IsS145.drew | apply IsS145.set_0 | apply IsS145.set_1 | apply IsS145.set_2) | exact HI0.out)); (case side2 => repeat (first | (with_reducible first | exact HB.out | apply qg | apply qa | apply qi | refine qw ?_ (IsS145.ge HI0.out)) | exact HB.out)); rintro e w11 ⟨rfl, hi, hb, hk⟩; have n0_ := Aside0.mk (KeepBut.trans z32_0 hk (.inl rfl)); have n1_ := Aside0.mk (hb); have n2_ := Aside0.mk (hi); clear HK; clear HB; clear HI0; have HK := n0_; have HB := n1_; have HI0 := n2_; clear n0_ n1_ n2_; (try clear hb); (try clear hb2); (try clear hk); (try clear hi); obtain ⟨HGz12, hgz12⟩ := HI0.out; have hcz12_0 := cellS145_0 HGz12; have hcz12_1 := cellS145_1 HGz12; have hcz12_2 := cellS145_2 HGz12; have hfz12_0 := q9 HGz12 0; have hfz12_1 := q9 HGz12 1; have hfz12_2 := q9 HGz12 2; clear HGz12 hgz12))
      repeat (go_quiet (first | (go_at_call 162; (with_reducible refine (octet_Cursor_ready.calls g s0_0 s0_1 s0_2 true t539 t540 t541 w0 _ ?side1 ?side2 A3.out).mono ?_); (case side1 => repeat (first | (with_reducible first | exact HI0.out | apply IsS145.alloc | apply IsS145.drewN | apply IsS145.drew | apply IsS145.set_0 | apply IsS145.set_1 | apply IsS145.set_2) | exact HI0.out)); (case side2 => repeat (first | (with_reducible first | exact HB.out | apply qg | apply qa | apply qi | refine qw ?_ (IsS145.ge HI0.out)) | exact HB.out)); rintro e w10 ⟨rfl, hi, hb, hk⟩; have n0_ := Aside0.mk (KeepBut.trans z32_0 hk (.inl rfl)); have n1_ := Aside0.mk (hb); have n2_ := Aside0.mk (hi); clear HK; clear HB; clear HI0; have HK := n0_; have HB := n1_; have HI0 := n2_; clear n0_ n1_ n2_; (try clear hb); (try clear hb2); (try clear hk); (try clear hi)) | (go_at_call 163; (with_reducible refine (octet_Cursor_has.calls g t539 t540 t541 a1 true t543 t544 t545 w0 _ ?side1 ?side2 A5.out).mono ?_); (case side1 => repeat (first | (with_reducible first | exact HI0.out | apply IsS145.alloc | apply IsS145.drewN | apply IsS145.drew | apply IsS145.set_0 | apply IsS145.set_1 | apply IsS145.set_2) | exact HI0.out)); (case side2 => repeat (first | (with_reducible first | exact HB.out | apply qg | apply qa | apply qi | refine qw ?_ (IsS145.ge HI0.out)) | exact HB.out)); rintro e w11 ⟨rfl, hi, hb, hk⟩; have n0_ := Aside0.mk (KeepBut.trans z32_0 hk (.inl rfl)); have n1_ := Aside0.mk (hb); have n2_ := Aside0.mk (hi); clear HK; clear HB; clear HI0; have HK := n0_; have HB := n1_; have HI0 := n2_; clear n0_ n1_ n2_; (try clear hb); (try clear hb2); (try clear hk); (try clear hi); obtain ⟨HGz12, hgz12⟩ := HI0.out; have hcz12_0 := cellS145_0 HGz12; have hcz12_1 := cellS145_1 HGz12; have hcz12_2 := cellS145_2 HGz12; have hfz12_0 := q9 HGz12 0; have hfz12_1 := q9 HGz12 1; have hfz12_2 := q9 HGz12 2; clear HGz12 hgz12)); try go_wp2_with (first | (go_at_call 162; (with_reducible refine (octet_Cursor_ready.calls g s0_0 s0_1 s0_2 true t539 t540 t541 w0 _ ?side1 ?side2 A3.out).mono ?_); (case side1 => repeat (first | (with_reducible first | exact HI0.out | apply IsS145.alloc | apply IsS145.drewN | apply IsS145.drew | apply IsS145.set_0 | apply IsS145.set_1 | apply IsS145.set_2) | exact HI0.out)); (case side2 => repeat (first | (with_reducible first | exact HB.out | apply qg | apply qa | apply qi | refine qw ?_ (IsS145.ge HI0.out)) | exact HB.out)); rintro e w10 ⟨rfl, hi, hb, hk⟩; have n0_ := Aside0.mk (KeepBut.trans z32_0 hk (.inl rfl)); have n1_ := Aside0.mk (hb); have n2_ := Aside0.mk (hi); clear HK; clear HB; clear HI0; have HK := n0_; have HB := n1_; have HI0 := n2_; clear n0_ n1_ n2_; (try clear hb); (try clear hb2); (try clear hk); (try clear hi)) | (go_at_call 163; (with_reducible refine (octet_Cursor_has.calls g t539 t540 t541 a1 true t543 t544 t545 w0 _ ?side1 ?side2 A5.out).mono ?_); (case side1 => repeat (first | (with_reducible first | exact HI0.out | apply IsS145.alloc | apply IsS145.drewN | apply IsS145.drew | apply IsS145.set_0 | apply IsS145.set_1 | apply IsS145.set_2) | exact HI0.out)); (case side2 => repeat (first | (with_reducible first | exact HB.out | apply qg | apply qa | apply qi | refine qw ?_ (IsS145.ge HI0.out)) | exact HB.out)); rintro e w11 ⟨rfl, hi, hb, hk⟩; have n0_ := Aside0.mk (KeepBut.trans z32_0 hk (.inl rfl)); have n1_ := Aside0.mk (hb); have n2_ := Aside0.mk (hi); clear HK; clear HB; clear HI0; have HK := n0_; have HB := n1_; have HI0 := n2_; clear n0_ n1_ n2_; (try clear hb); (try clear hb2); (try clear hk); (try clear hi); obtain ⟨HGz12, hgz12⟩ := HI0.out; have hcz12_0 := cellS145_0 HGz12; have hcz12_1 := cellS145_1 HGz12; have hcz12_2 := cellS145_2 HGz12; have hfz12_0 := q9 HGz12 0; have hfz12_1 := q9 HGz12 1; have hfz12_2 := q9 HGz12 2; clear HGz12 hgz12)))
      go_ret
      exact ⟨z32_1, z32_2, z32_3, z32_0⟩
     rw [if_neg c9] at H
     exact absurd H (by simp)
    rw [if_neg c8] at H
    exact absurd H (by simp)
   rw [if_neg c7] at H
   exact absurd H (by simp)
  replace c6 := Bool.eq_false_iff.mpr c6
  subst c6
  rw [if_neg (show ¬ (false = true) by decide)] at H
  simp only [Option.some.injEq, Prod.mk.injEq] at H
  obtain ⟨rfl, rfl, rfl, rfl⟩ := H
  go_enter Tryz.func148, Tryz.ntmps148
  go_wp2_with (first | (go_at_call 162; (with_reducible refine (octet_Cursor_ready.calls g s0_0 s0_1 s0_2 true t539 t540 t541 w0 _ ?side1 ?side2 A3.out).mono ?_); (case side1 => repeat (first | (with_reducible first | exact HI0.out | apply IsS145.alloc | apply IsS145.drewN | apply IsS145.drew | apply IsS145.set_0 | apply IsS145.set_1 | apply IsS145.set_2) | exact HI0.out)); (case side2 => repeat (first | (with_reducible first | exact HB.out | apply qg | apply qa | apply qi | refine qw ?_ (IsS145.ge HI0.out)) | exact HB.out)); rintro e w13 ⟨rfl, hi, hb, hk⟩; have n0_ := Aside0.mk (KeepBut.trans z32_0 hk (.inl rfl)); have n1_ := Aside0.mk (hb); have n2_ := Aside0.mk (hi); clear HK; clear HB; clear HI0; have HK := n0_; have HB := n1_; have HI0 := n2_; clear n0_ n1_ n2_; (try clear hb); (try clear hb2); (try clear hk); (try clear hi)) | (go_at_call 163; (with_reducible refine (octet_Cursor_has.calls g t539 t540 t541 a1 false t543 t544 t545 w0 _ ?side1 ?side2 A5.out).mono ?_); (case side1 => repeat (first | (with_reducible first | exact HI0.out | apply IsS145.alloc | apply IsS145.drewN | apply IsS145.drew | apply IsS145.set_0 | apply IsS145.set_1 | apply IsS145.set_2) | exact HI0.out)); (case side2 => repeat (first | (with_reducible first | exact HB.out | apply qg | apply qa | apply qi | refine qw ?_ (IsS145.ge HI0.out)) | exact HB.out)); rintro e w14 ⟨rfl, hi, hb, hk⟩; have n0_ := Aside0.mk (KeepBut.trans z32_0 hk (.inl rfl)); have n1_ := Aside0.mk (hb); have n2_ := Aside0.mk (hi); clear HK; clear HB; clear HI0; have HK := n0_; have HB := n1_; have HI0 := n2_; clear n0_ n1_ n2_; (try clear hb); (try clear hb2); (try clear hk); (try clear hi); obtain ⟨HGz15, hgz15⟩ := HI0.out; have hcz15_0 := cellS145_0 HGz15; have hcz15_1 := cellS145_1 HGz15; have hcz15_2 := cellS145_2 HGz15; have hfz15_0 := q9 HGz15 0; have hfz15_1 := q9 HGz15 1; have hfz15_2 := q9 HGz15 2; clear HGz15 hgz15))
  repeat (go_quiet (first | (go_at_call 162; (with_reducible refine (octet_Cursor_ready.calls g s0_0 s0_1 s0_2 true t539 t540 t541 w0 _ ?side1 ?side2 A3.out).mono ?_); (case side1 => repeat (first | (with_reducible first | exact HI0.out | apply IsS145.alloc | apply IsS145.drewN | apply IsS145.drew | apply IsS145.set_0 | apply IsS145.set_1 | apply IsS145.set_2) | exact HI0.out)); (case side2 => repeat (first | (with_reducible first | exact HB.out | apply qg | apply qa | apply qi | refine qw ?_ (IsS145.ge HI0.out)) | exact HB.out)); rintro e w13 ⟨rfl, hi, hb, hk⟩; have n0_ := Aside0.mk (KeepBut.trans z32_0 hk (.inl rfl)); have n1_ := Aside0.mk (hb); have n2_ := Aside0.mk (hi); clear HK; clear HB; clear HI0; have HK := n0_; have HB := n1_; have HI0 := n2_; clear n0_ n1_ n2_; (try clear hb); (try clear hb2); (try clear hk); (try clear hi)) | (go_at_call 163; (with_reducible refine (octet_Cursor_has.calls g t539 t540 t541 a1 false t543 t544 t545 w0 _ ?side1 ?side2 A5.out).mono ?_); (case side1 => repeat (first | (with_reducible first | exact HI0.out | apply IsS145.alloc | apply IsS145.drewN | apply IsS145.drew | apply IsS145.set_0 | apply IsS145.set_1 | apply IsS145.set_2) | exact HI0.out)); (case side2 => repeat (first | (with_reducible first | exact HB.out | apply qg | apply qa | apply qi | refine qw ?_ (IsS145.ge HI0.out)) | exact HB.out)); rintro e w14 ⟨rfl, hi, hb, hk⟩; have n0_ := Aside0.mk (KeepBut.trans z32_0 hk (.inl rfl)); have n1_ := Aside0.mk (hb); have n2_ := Aside0.mk (hi); clear HK; clear HB; clear HI0; have HK := n0_; have HB := n1_; have HI0 := n2_; clear n0_ n1_ n2_; (try clear hb); (try clear hb2); (try clear hk); (try clear hi); obtain ⟨HGz15, hgz15⟩ := HI0.out; have hcz15_0 := cellS145_0 HGz15; have hcz15_1 := cellS145_1 HGz15; have hcz15_2 := cellS145_2 HGz15; have hfz15_0 := q9 HGz15 0; have hfz15_1 := q9 HGz15 1; have hfz15_2 := q9 HGz15 2; clear HGz15 hgz15)); try go_wp2_with (first | (go_at_call 162; (with_reducible refine (octet_Cursor_ready.calls g s0_0 s0_1 s0_2 true t539 t540 t541 w0 _ ?side1 ?side2 A3.out).mono ?_); (case side1 => repeat (first | (with_reducible first | exact HI0.out | apply IsS145.alloc | apply IsS145.drewN | apply IsS145.drew | apply IsS145.set_0 | apply IsS145.set_1 | apply IsS145.set_2) | exact HI0.out)); (case side2 => repeat (first | (with_reducible first | exact HB.out | apply qg | apply qa | apply qi | refine qw ?_ (IsS145.ge HI0.out)) | exact HB.out)); rintro e w13 ⟨rfl, hi, hb, hk⟩; have n0_ := Aside0.mk (KeepBut.trans z32_0 hk (.inl rfl)); have n1_ := Aside0.mk (hb); have n2_ := Aside0.mk (hi); clear HK; clear HB; clear HI0; have HK := n0_; have HB := n1_; have HI0 := n2_; clear n0_ n1_ n2_; (try clear hb); (try clear hb2); (try clear hk); (try clear hi)) | (go_at_call 163; (with_reducible refine (octet_Cursor_has.calls g t539 t540 t541 a1 false t543 t544 t545 w0 _ ?side1 ?side2 A5.out).mono ?_); (case side1 => repeat (first | (with_reducible first | exact HI0.out | apply IsS145.alloc | apply IsS145.drewN | apply IsS145.drew | apply IsS145.set_0 | apply IsS145.set_1 | apply IsS145.set_2) | exact HI0.out)); (case side2 => repeat (first | (with_reducible first | exact HB.out | apply qg | apply qa | apply qi | refine qw ?_ (IsS145.ge HI0.out)) | exact HB.out)); rintro e w14 ⟨rfl, hi, hb, hk⟩; have n0_ := Aside0.mk (KeepBut.trans z32_0 hk (.inl rfl)); have n1_ := Aside0.mk (hb); have n2_ := Aside0.mk (hi); clear HK; clear HB; clear HI0; have HK := n0_; have HB := n1_; have HI0 := n2_; clear n0_ n1_ n2_; (try clear hb); (try clear hb2); (try clear hk); (try clear hi); obtain ⟨HGz15, hgz15⟩ := HI0.out; have hcz15_0 := cellS145_0 HGz15; have hcz15_1 := cellS145_1 HGz15; have hcz15_2 := cellS145_2 HGz15; have hfz15_0 := q9 HGz15 0; have hfz15_1 := q9 HGz15 1; have hfz15_2 := q9 HGz15 2; clear HGz15 hgz15)))
  go_ret
  exact ⟨z32_1, z32_2, z32_3, z32_0⟩
 replace c4 := Bool.eq_false_iff.mpr c4
 subst c4
 rw [if_neg (show ¬ (false = true) by decide)] at H
 simp only [Option.some.injEq, Prod.mk.injEq] at H
 obtain ⟨rfl, rfl, rfl, rfl⟩ := H
 go_enter Tryz.func148, Tryz.ntmps148
 go_wp2_with (first | (go_at_call 162; (with_reducible refine (octet_Cursor_ready.calls g s0_0 s0_1 s0_2 false t539 t540 t541 w0 _ ?side1 ?side2 A3.out).mono ?_); (case side1 => repeat (first | (with_reducible first | exact HI0.out | apply IsS145.alloc | apply IsS145.drewN | apply IsS145.drew | apply IsS145.set_0 | apply IsS145.set_1 | apply IsS145.set_2) | exact HI0.out)); (case side2 => repeat (first | (with_reducible first | exact HB.out | apply qg | apply qa | apply qi | refine qw ?_ (IsS145.ge HI0.out)) | exact HB.out)); rintro e w16 ⟨rfl, hi, hb, hk⟩; have n0_ := Aside0.mk (KeepBut.trans z32_0 hk (.inl rfl)); have n1_ := Aside0.mk (hb); have n2_ := Aside0.mk (hi); clear HK; clear HB; clear HI0; have HK := n0_; have HB := n1_; have HI0 := n2_; clear n0_ n1_ n2_; (try clear hb); (try clear hb2); (try clear hk); (try clear hi)))
 repeat (go_quiet (first | (go_at_call 162; (with_reducible refine (octet_Cursor_ready.calls g s0_0 s0_1 s0_2 false t539 t540 t541 w0 _ ?side1 ?side2 A3.out).mono ?_); (case side1 => repeat (first | (with_reducible first | exact HI0.out | apply IsS145.alloc | apply IsS145.drewN | apply IsS145.drew | apply IsS145.set_0 | apply IsS145.set_1 | apply IsS145.set_2) | exact HI0.out)); (case side2 => repeat (first | (with_reducible first | exact HB.out | apply qg | apply qa | apply qi | refine qw ?_ (IsS145.ge HI0.out)) | exact HB.out)); rintro e w16 ⟨rfl, hi, hb, hk⟩; have n0_ := Aside0.mk (KeepBut.trans z32_0 hk (.inl rfl)); have n1_ := Aside0.mk (hb); have n2_ := Aside0.mk (hi); clear HK; clear HB; clear HI0; have HK := n0_; have HB := n1_; have HI0 := n2_; clear n0_ n1_ n2_; (try clear hb); (try clear hb2); (try clear hk); (try clear hi))); try go_wp2_with (first | (go_at_call 162; (with_reducible refine (octet_Cursor_ready.calls g s0_0 s0_1 s0_2 false t539 t540 t541 w0 _ ?side1 ?side2 A3.out).mono ?_); (case side1 => repeat (first | (with_reducible first | exact HI0.out | apply IsS145.alloc | apply IsS145.drewN | apply IsS145.drew | apply IsS145.set_0 | apply IsS145.set_1 | apply IsS145.set_2) | exact HI0.out)); (case side2 => repeat (first | (with_reducible first | exact HB.out | apply qg | apply qa | apply qi | refine qw ?_ (IsS145.ge HI0.out)) | exact HB.out)); rintro e w16 ⟨rfl, hi, hb, hk⟩; have n0_ := Aside0.mk (KeepBut.trans z32_0 hk (.inl rfl)); have n1_ := Aside0.mk (hb); have n2_ := Aside0.mk (hi); clear HK; clear HB; clear HI0; have HK := n0_; have HB := n1_; have HI0 := n2_; clear n0_ n1_ n2_; (try clear hb); (try clear hb2); (try clear hk); (try clear hi))))
 go_ret
 exact ⟨z32_1, z32_2, z32_3, z32_0⟩

end Go.Proofs.YtngmipfobcaojaaGreat.HA
end

-- YtngmipfobcaojaaGreatHA98
section
namespace Go.Proofs.YtngmipfobcaojaaGreat.HA
open Go.RowKit Go.Proofs.YtngmipfobcaojaaGreatW.PrintWords Go.Proofs.YtngmipfobcaojaaGreatW.PrintLast Go.Proofs.YtngmipfobcaojaaGreatW.PrintMore
attribute [local go_sem] q1k q1j q1s q1t q1a q19 q1h q1i

def octet_Cursor_Number.f (k : Nat) (s0_0 : ByteArray) (s0_1 : Int) (s0_2 : Int) (a1 : Int) : Option (Int × ByteArray × Int × Int) := (octet_Cursor_Take.f s0_0 s0_1 s0_2 a1).bind fun bt546 => ((octet_Get.f k bt546.1).bind fun t550 => (some (t550, bt546.2.1, bt546.2.2.1, bt546.2.2.2)))
theorem z33_0 {p : Prop} (h : p := by (try simp only [List.map_toArray, List.map_cons, List.map_nil]); first | done | rfl | (simp only [List.length_drop, List.length_take]; rfl)) : p := h
theorem z33_1 {p : Prop} (h : p := by repeat (first | (with_reducible first | exact HK.out | apply KeepBut.set_ | apply keep_drewN | apply keep_drew | apply keep_alloc) | exact HK.out)) : p := h
set_option maxHeartbeats 8000000 in
set_option maxRecDepth 100000 in
theorem octet_Cursor_Number.calls (k : Nat) (g : Nat) (s0_0 : ByteArray) (s0_1 : Int) (s0_2 : Int) (a1 : Int) (r1 : Int) (r2 : ByteArray) (r3 : Int) (r4 : Int) (w0 w : World) (hI : IsS145 w0 w g s0_0 s0_1 s0_2) (hB : Below w0.heap.size w0 w) (h : octet_Cursor_Number.f k s0_0 s0_1 s0_2 a1 = some (r1, r2, r3, r4)) :
  Calls Tryz.prog 111 #[.pointer (some ⟨g, 0, none⟩), .int .i64 a1] w fun e w' => e = .returned (.int .u64 r1) ∧ IsS145 w0 w' g r2 r3 r4 ∧ Below w0.heap.size w0 w' ∧ KeepBut w w' g none := by
 have HI0 := Aside0.mk hI
 have HK := Aside0.mk (KeepBut.refl w g none)
 have HL := Aside0.mk hB.size
 clear hI
 have HW0 := Aside0.mk hB.size
 have HB := Aside0.mk hB
 clear hB
 have H : ((octet_Cursor_Take.f s0_0 s0_1 s0_2 a1).bind fun bt546 => ((octet_Get.f k bt546.1).bind fun t550 => (some (t550, bt546.2.1, bt546.2.2.1, bt546.2.2.2)))) = some (r1, r2, r3, r4) := h
 clear h
 replace H := Option.bind_eq_some_iff.mp H
 obtain ⟨⟨t546, t547, t548, t549⟩, A30, H⟩ := H
 replace H : ((octet_Get.f k t546).bind fun t550 => (some (t550, t547, t548, t549))) = some (r1, r2, r3, r4) := H
 have A3 := Aside0.mk A30
 clear A30
 replace H := Option.bind_eq_some_iff.mp H
 obtain ⟨t550, A40, H⟩ := H
 replace H : (some (t550, t547, t548, t549)) = some (r1, r2, r3, r4) := H
 have A4 := Aside0.mk A40
 clear A40
 simp only [Option.some.injEq, Prod.mk.injEq] at H
 obtain ⟨rfl, rfl, rfl, rfl⟩ := H
 go_enter Tryz.func111, Tryz.ntmps111
 go_wp2_with (first | ((with_reducible refine ql (f := 148) rfl ?_); refine q1b (some 7) rfl rfl Tryz.func148 (by kernel_rfl) rfl #[.pointer (some ⟨g, 0, none⟩), .int .i64 a1] rfl z33_0 ?_; (with_reducible refine (octet_Cursor_Take.calls g s0_0 s0_1 s0_2 a1 t546 t547 t548 t549 w0 _ ?side1 ?side2 A3.out).mono ?_); (case side1 => repeat (first | (with_reducible first | exact HI0.out | apply IsS145.alloc | apply IsS145.drewN | apply IsS145.drew | apply IsS145.set_0 | apply IsS145.set_1 | apply IsS145.set_2) | exact HI0.out)); (case side2 => repeat (first | (with_reducible first | exact HB.out | apply qg | apply qa | apply qi | refine qw ?_ (IsS145.ge HI0.out)) | exact HB.out)); rintro e w5 ⟨rfl, hi, hb, hk⟩; refine ⟨_, rfl, ?_⟩; have n0_ := Aside0.mk (KeepBut.trans z33_1 hk (.inl rfl)); have n1_ := Aside0.mk (hb); have n2_ := Aside0.mk (hi); clear HK; clear HB; clear HI0; have HK := n0_; have HB := n1_; have HI0 := n2_; clear n0_ n1_ n2_; (try clear hb); (try clear hb2); (try clear hk); (try clear hi)) | ((with_reducible refine ql (f := 69) rfl ?_); refine q1b (some 8) rfl rfl Tryz.func69 (by kernel_rfl) rfl #[.string t546] rfl z33_0 ?_; (with_reducible refine (octet_Get.calls k t546 t550 _ A4.out).mono ?_); rintro e w' ⟨rfl, ⟨nd, rfl⟩⟩; refine ⟨_, rfl, ?_⟩))
 go_ret
 exact ⟨(by first | rfl | (simp [qq, qp] <;> rfl) | (simp [*, qq, qp] <;> rfl)), (by repeat (first | (with_reducible first | exact HI0.out | apply IsS145.alloc | apply IsS145.drewN | apply IsS145.drew | apply IsS145.set_0 | apply IsS145.set_1 | apply IsS145.set_2) | exact HI0.out)), (by repeat (first | (with_reducible first | exact HB.out | apply qg | apply qa | apply qi | refine qw ?_ (IsS145.ge HI0.out)) | exact HB.out)), z33_1⟩

end Go.Proofs.YtngmipfobcaojaaGreat.HA
end

-- YtngmipfobcaojaaGreatHA92
section
namespace Go.Proofs.YtngmipfobcaojaaGreat.HA
open Go.RowKit Go.Proofs.YtngmipfobcaojaaGreatW.PrintWords Go.Proofs.YtngmipfobcaojaaGreatW.PrintLast Go.Proofs.YtngmipfobcaojaaGreatW.PrintMore
attribute [local go_sem] q1k q1j q1s q1t q1a q19 q1h q1i

def octet_Cursor_Rest.f (s0_0 : ByteArray) (s0_1 : Int) (s0_2 : Int) : Option (ByteArray × ByteArray × Int × Int) := if 0 ≤ s0_1 then (if s0_1 ≤ (s0_0.size : Int) then (some (s0_0.extract (s0_1 : Int).toNat s0_0.size, s0_0, s0_1, s0_2)) else (none)) else (none)
set_option maxHeartbeats 8000000 in
set_option maxRecDepth 100000 in
theorem octet_Cursor_Rest.calls (g : Nat) (s0_0 : ByteArray) (s0_1 : Int) (s0_2 : Int) (r1 : ByteArray) (r2 : ByteArray) (r3 : Int) (r4 : Int) (w0 w : World) (hI : IsS145 w0 w g s0_0 s0_1 s0_2) (hB : Below w0.heap.size w0 w) (h : octet_Cursor_Rest.f s0_0 s0_1 s0_2 = some (r1, r2, r3, r4)) :
  Calls Tryz.prog 147 #[.pointer (some ⟨g, 0, none⟩)] w fun e w' => e = .returned (.string r1) ∧ IsS145 w0 w' g r2 r3 r4 ∧ Below w0.heap.size w0 w' ∧ KeepBut w w' g none := by
 have HI0 := Aside0.mk hI
 have HK := Aside0.mk (KeepBut.refl w g none)
 have HL := Aside0.mk hB.size
 clear hI
 have HW0 := Aside0.mk hB.size
 have HB := Aside0.mk hB
 clear hB
 have H : (if 0 ≤ s0_1 then (if s0_1 ≤ (s0_0.size : Int) then (some (s0_0.extract (s0_1 : Int).toNat s0_0.size, s0_0, s0_1, s0_2)) else (none)) else (none)) = some (r1, r2, r3, r4) := h
 clear h
 by_cases c2 : 0 ≤ s0_1
 ·rw [if_pos c2] at H
  have c2b0 := eq_true c2
  have c2b1 : decide (0 ≤ s0_1) = true := decide_eq_true c2
  clear c2
  by_cases c3 : s0_1 ≤ (s0_0.size : Int)
  ·rw [if_pos c3] at H
   have c3b0 := eq_true c3
   have c3b1 : decide (s0_1 ≤ (s0_0.size : Int)) = true := decide_eq_true c3
   clear c3
   simp only [Option.some.injEq, Prod.mk.injEq] at H
   obtain ⟨rfl, rfl, rfl, rfl⟩ := H
   obtain ⟨HGz4, hgz4⟩ := HI0.out
   have hcz4_0 := cellS145_0 HGz4
   have hcz4_1 := cellS145_1 HGz4
   have hcz4_2 := cellS145_2 HGz4
   have hfz4_0 := q9 HGz4 0
   have hfz4_1 := q9 HGz4 1
   have hfz4_2 := q9 HGz4 2
   clear HGz4 hgz4
   go_enter Tryz.func147, Tryz.ntmps147
   go_wp2
   repeat (go_quiet (fail); try go_wp2)
   go_ret
   exact ⟨(by first | rfl | (simp [qq, qp] <;> rfl) | (simp [*, qq, qp] <;> rfl)), (by repeat (first | (with_reducible first | exact HI0.out | apply IsS145.alloc | apply IsS145.drewN | apply IsS145.drew | apply IsS145.set_0 | apply IsS145.set_1 | apply IsS145.set_2) | exact HI0.out)), (by repeat (first | (with_reducible first | exact HB.out | apply qg | apply qa | apply qi | refine qw ?_ (IsS145.ge HI0.out)) | exact HB.out)), (by repeat (first | (with_reducible first | exact HK.out | apply KeepBut.set_ | apply keep_drewN | apply keep_drew | apply keep_alloc) | exact HK.out))⟩
  rw [if_neg c3] at H
  exact absurd H (by simp)
 rw [if_neg c2] at H
 exact absurd H (by simp)

end Go.Proofs.YtngmipfobcaojaaGreat.HA
end

-- YtngmipfobcaojaaGreatHA93
section
namespace Go.Proofs.YtngmipfobcaojaaGreat.HA
open Go.RowKit Go.Proofs.YtngmipfobcaojaaGreatW.PrintWords Go.Proofs.YtngmipfobcaojaaGreatW.PrintLast Go.Proofs.YtngmipfobcaojaaGreatW.PrintMore
attribute [local go_sem] q1k q1j q1s q1t q1a q19 q1h q1i

def octet_Cursor_Left.f (s0_0 : ByteArray) (s0_1 : Int) (s0_2 : Int) : Option (Int × ByteArray × Int × Int) := (octet_Cursor_Rest.f s0_0 s0_1 s0_2).bind fun bt534 => (some ((bt534.1.size : Int), bt534.2.1, bt534.2.2.1, bt534.2.2.2))
theorem z35_0 {p : Prop} (h : p := by repeat (first | (with_reducible first | exact HK.out | apply KeepBut.set_ | apply keep_drewN | apply keep_drew | apply keep_alloc) | exact HK.out)) : p := h
set_option maxHeartbeats 8000000 in
set_option maxRecDepth 100000 in
theorem octet_Cursor_Left.calls (g : Nat) (s0_0 : ByteArray) (s0_1 : Int) (s0_2 : Int) (r1 : Int) (r2 : ByteArray) (r3 : Int) (r4 : Int) (w0 w : World) (hI : IsS145 w0 w g s0_0 s0_1 s0_2) (hB : Below w0.heap.size w0 w) (h : octet_Cursor_Left.f s0_0 s0_1 s0_2 = some (r1, r2, r3, r4)) :
  Calls Tryz.prog 110 #[.pointer (some ⟨g, 0, none⟩)] w fun e w' => e = .returned (.int .i64 r1) ∧ IsS145 w0 w' g r2 r3 r4 ∧ Below w0.heap.size w0 w' ∧ KeepBut w w' g none := by
 have HI0 := Aside0.mk hI
 have HK := Aside0.mk (KeepBut.refl w g none)
 have HL := Aside0.mk hB.size
 clear hI
 have HW0 := Aside0.mk hB.size
 have HB := Aside0.mk hB
 clear hB
 have H : ((octet_Cursor_Rest.f s0_0 s0_1 s0_2).bind fun bt534 => (some ((bt534.1.size : Int), bt534.2.1, bt534.2.2.1, bt534.2.2.2))) = some (r1, r2, r3, r4) := h
 clear h
 replace H := Option.bind_eq_some_iff.mp H
 obtain ⟨⟨t534, t535, t536, t537⟩, A20, H⟩ := H
 replace H : (some ((t534.size : Int), t535, t536, t537)) = some (r1, r2, r3, r4) := H
 have A2 := Aside0.mk A20
 clear A20
 simp only [Option.some.injEq, Prod.mk.injEq] at H
 obtain ⟨rfl, rfl, rfl, rfl⟩ := H
 go_enter Tryz.func110, Tryz.ntmps110
 go_wp2_with (first | ((with_reducible refine ql (f := 147) rfl ?_); refine q1b (some 4) rfl rfl Tryz.func147 (by kernel_rfl) rfl #[.pointer (some ⟨g, 0, none⟩)] rfl (by (try simp only [List.map_toArray, List.map_cons, List.map_nil]); first | done | rfl | (simp only [List.length_drop, List.length_take]; rfl)) ?_; (with_reducible refine (octet_Cursor_Rest.calls g s0_0 s0_1 s0_2 t534 t535 t536 t537 w0 _ ?side1 ?side2 A2.out).mono ?_); (case side1 => repeat (first | (with_reducible first | exact HI0.out | apply IsS145.alloc | apply IsS145.drewN | apply IsS145.drew | apply IsS145.set_0 | apply IsS145.set_1 | apply IsS145.set_2) | exact HI0.out)); (case side2 => repeat (first | (with_reducible first | exact HB.out | apply qg | apply qa | apply qi | refine qw ?_ (IsS145.ge HI0.out)) | exact HB.out)); rintro e w3 ⟨rfl, hi, hb, hk⟩; refine ⟨_, rfl, ?_⟩; have n0_ := Aside0.mk (KeepBut.trans z35_0 hk (.inl rfl)); have n1_ := Aside0.mk (hb); have n2_ := Aside0.mk (hi); clear HK; clear HB; clear HI0; have HK := n0_; have HB := n1_; have HI0 := n2_; clear n0_ n1_ n2_; (try clear hb); (try clear hb2); (try clear hk); (try clear hi)))
 go_ret
 exact ⟨(by first | rfl | (simp [qq, qp] <;> rfl) | (simp [*, qq, qp] <;> rfl)), (by repeat (first | (with_reducible first | exact HI0.out | apply IsS145.alloc | apply IsS145.drewN | apply IsS145.drew | apply IsS145.set_0 | apply IsS145.set_1 | apply IsS145.set_2) | exact HI0.out)), (by repeat (first | (with_reducible first | exact HB.out | apply qg | apply qa | apply qi | refine qw ?_ (IsS145.ge HI0.out)) | exact HB.out)), z35_0⟩

end Go.Proofs.YtngmipfobcaojaaGreat.HA
end

-- YtngmipfobcaojaaGreatHA99
section
namespace Go.Proofs.YtngmipfobcaojaaGreat.HA
open Go.RowKit Go.Proofs.YtngmipfobcaojaaGreatW.PrintWords Go.Proofs.YtngmipfobcaojaaGreatW.PrintLast Go.Proofs.YtngmipfobcaojaaGreatW.PrintMore
attribute [local go_sem] q1k q1j q1s q1t q1a q19 q1h q1i

def octet_Cursor_Err.f (s0_0 : ByteArray) (s0_1 : Int) (s0_2 : Int) : Option (Int × ByteArray × Int × Int) := some (s0_2, s0_0, s0_1, s0_2)
set_option maxHeartbeats 8000000 in
set_option maxRecDepth 100000 in
theorem octet_Cursor_Err.calls (g : Nat) (s0_0 : ByteArray) (s0_1 : Int) (s0_2 : Int) (r1 : Int) (r2 : ByteArray) (r3 : Int) (r4 : Int) (w0 w : World) (hI : IsS145 w0 w g s0_0 s0_1 s0_2) (hB : Below w0.heap.size w0 w) (h : octet_Cursor_Err.f s0_0 s0_1 s0_2 = some (r1, r2, r3, r4)) :
  Calls Tryz.prog 112 #[.pointer (some ⟨g, 0, none⟩)] w fun e w' => e = .returned (.int .i64 r1) ∧ IsS145 w0 w' g r2 r3 r4 ∧ Below w0.heap.size w0 w' ∧ KeepBut w w' g none := by
 have HI0 := Aside0.mk hI
 have HK := Aside0.mk (KeepBut.refl w g none)
 have HL := Aside0.mk hB.size
 clear hI
 have HW0 := Aside0.mk hB.size
 have HB := Aside0.mk hB
 clear hB
 have H : (some (s0_2, s0_0, s0_1, s0_2)) = some (r1, r2, r3, r4) := h
 clear h
 simp only [Option.some.injEq, Prod.mk.injEq] at H
 obtain ⟨rfl, rfl, rfl, rfl⟩ := H
 obtain ⟨HGz2, hgz2⟩ := HI0.out
 have hcz2_0 := cellS145_0 HGz2
 have hcz2_1 := cellS145_1 HGz2
 have hcz2_2 := cellS145_2 HGz2
 have hfz2_0 := q9 HGz2 0
 have hfz2_1 := q9 HGz2 1
 have hfz2_2 := q9 HGz2 2
 clear HGz2 hgz2
 go_enter Tryz.func112, Tryz.ntmps112
 go_wp2
 go_ret
 exact ⟨(by first | rfl | (simp [qq, qp] <;> rfl) | (simp [*, qq, qp] <;> rfl)), (by repeat (first | (with_reducible first | exact HI0.out | apply IsS145.alloc | apply IsS145.drewN | apply IsS145.drew | apply IsS145.set_0 | apply IsS145.set_1 | apply IsS145.set_2) | exact HI0.out)), (by repeat (first | (with_reducible first | exact HB.out | apply qg | apply qa | apply qi | refine qw ?_ (IsS145.ge HI0.out)) | exact HB.out)), (by repeat (first | (with_reducible first | exact HK.out | apply KeepBut.set_ | apply keep_drewN | apply keep_drew | apply keep_alloc) | exact HK.out))⟩

end Go.Proofs.YtngmipfobcaojaaGreat.HA
end

-- YtngmipfobcaojaaGreatHAhGetLaw
section
namespace Go.Proofs.YtngmipfobcaojaaGreat.HA
open Go.RowKit Go.Proofs.YtngmipfobcaojaaGreatW.PrintWords Go.Proofs.YtngmipfobcaojaaGreatW.PrintLast Go.Proofs.YtngmipfobcaojaaGreatW.PrintMore
theorem w64g (n : Int) : -9223372036854775808 ≤ n → n ≤ 9223372036854775807 → wrap64 n = n := fun h1 h2 => by unfold wrap64; omega
def getF (x b : Int) : Int := Go.bits .or .u64 (IntKind.u64.wrap (x * 256)) (IntKind.u64.wrap b)
def lastS (s : ByteArray) : ByteArray := if s.size > 8 then s.extract (s.size - 8) s.size else s
def getS (s : ByteArray) : Int := (bytesOf (lastS s)).foldl getF 0
theorem get_l0 (s : ByteArray) (hs : s.size ≤ 8) : ∀ (d k i : Nat) (x : Int), i + d = s.size → octet_Get.l0 (k + d + 1) s x s.size i = some (((bytesOf s).drop i).foldl getF x) := by
  intro d
  induction d with
  | zero =>
    intro k i x hi
    rw [octet_Get.l0.eq_def]
    simp only []
    rw [if_neg (by omega), List.drop_of_length_le (by rw [bytesOf_length]; omega)]
    rfl
  | succ d ih =>
    intro k i x hi
    rw [show k + (d + 1) + 1 = (k + d + 1) + 1 by omega, octet_Get.l0.eq_def]
    simp only []
    rw [if_pos (by omega), if_pos (by omega), if_pos (by omega), w64g _ (by omega) (by omega), show (i : Int) + 1 = ((i + 1 : Nat) : Int) by omega, ih k (i + 1) _ (by omega)]
    have hl : i < (bytesOf s).length := by rw [bytesOf_length]; omega
    rw [List.drop_eq_getElem_cons hl, List.foldl_cons]
    have e : bt s (i : Int) = (bytesOf s)[i]'hl := by
      rw [← rd_bytesOf]
      unfold rd
      rw [List.getD_eq_getElem?_getD, Int.toNat_natCast, List.getElem?_eq_getElem hl]
      rfl
    rw [← e]
    rfl
theorem get_f (k : Nat) (s : ByteArray) (hk : 10 ≤ k) (hs : s.size ≤ 9000000000000000000) : octet_Get.f k s = some (getS s) := by
  have hj : ∀ s : ByteArray, s.size ≤ 8 → octet_Get.j0 k s = some ((bytesOf s).foldl getF 0) := by
    intro s hs
    obtain ⟨k, rfl⟩ : ∃ m, k = m + 1 := ⟨k - 1, by omega⟩
    rw [octet_Get.j0.eq_def]
    simp only []
    have := get_l0 s hs s.size (k - s.size - 1) 0 0 (by omega)
    rw [show k - s.size - 1 + s.size + 1 = k by omega, List.drop_zero] at this
    exact this
  unfold octet_Get.f getS lastS
  by_cases h : s.size > 8
  · have hw : wrap64 ((s.size : Int) - 8) = ((s.size - 8 : Nat) : Int) := by rw [w64g _ (by omega) (by omega)]; omega
    rw [if_pos (by omega), if_pos h, hw, if_pos (by omega), if_pos (by omega), Int.toNat_natCast]
    exact hj _ (by simp; omega)
  · rw [if_neg (by omega), if_neg h]
    exact hj s (by omega)
def takeS (text : ByteArray) (at_ err m : Int) : ByteArray × Int × Int :=
  if err = 0 then (if 0 ≤ m ∧ m ≤ text.size - at_ then (text.extract at_.toNat (at_ + m).toNat, at_ + m, 0) else (⟨#[]⟩, at_, 3)) else (⟨#[]⟩, at_, err)
theorem left_f (text : ByteArray) (at_ err : Int) (h0 : 0 ≤ at_) (h1 : at_ ≤ text.size) : octet_Cursor_Left.f text at_ err = some ((text.size : Int) - at_, text, at_, err) := by
  unfold octet_Cursor_Left.f octet_Cursor_Rest.f
  rw [if_pos h0, if_pos h1]
  simp
  omega
theorem rest_f (text : ByteArray) (at_ err : Int) (h0 : 0 ≤ at_) (h1 : at_ ≤ text.size) : octet_Cursor_Rest.f text at_ err = some (text.extract at_.toNat text.size, text, at_, err) := by
  unfold octet_Cursor_Rest.f
  rw [if_pos h0, if_pos h1]
theorem take_f (text : ByteArray) (at_ err m : Int) (h0 : 0 ≤ at_) (h1 : at_ ≤ text.size) (hs : text.size ≤ 4000000000000000000) :
    octet_Cursor_Take.f text at_ err m = some ((takeS text at_ err m).1, text, (takeS text at_ err m).2.1, (takeS text at_ err m).2.2) := by
  unfold octet_Cursor_Take.f octet_Cursor_ready.f octet_Cursor_has.f takeS
  simp only [Option.bind_some]
  by_cases he : err = 0
  · subst he
    simp only [beq_self_eq_true, if_true]
    have e : wrap64 ((text.size : Int) - at_) = (text.size : Int) - at_ := w64g _ (by omega) (by omega)
    rw [e]
    by_cases hm : m ≥ 0
    · rw [if_pos hm]
      simp only [Option.bind_some]
      by_cases hm2 : m ≤ (text.size : Int) - at_
      · have e2 : wrap64 (at_ + m) = at_ + m := w64g _ (by omega) (by omega)
        rw [decide_eq_true hm2, if_pos rfl, if_pos h0, e2, if_pos (by omega), if_pos (by omega), if_pos ⟨hm, hm2⟩]
      · rw [decide_eq_false hm2, if_neg (by decide), if_neg (fun q => hm2 q.2)]
    · rw [if_neg hm]
      simp only [Option.bind_some]
      rw [if_neg (by decide), if_neg (fun q => hm q.1)]
  · rw [beq_eq_false_iff_ne.2 he, if_neg (by decide), if_neg he]
theorem take_at (text : ByteArray) (at_ err m : Int) (h0 : 0 ≤ at_) (h1 : at_ ≤ text.size) : 0 ≤ (takeS text at_ err m).2.1 ∧ (takeS text at_ err m).2.1 ≤ text.size := by
  unfold takeS
  split
  · split
    · dsimp only; omega
    · exact ⟨h0, h1⟩
  · exact ⟨h0, h1⟩
theorem take_size (text : ByteArray) (at_ err m : Int) (h0 : 0 ≤ at_) (h1 : at_ ≤ text.size) : (takeS text at_ err m).1.size ≤ text.size := by
  unfold takeS
  split
  · split
    · simp; omega
    · exact Nat.zero_le _
  · exact Nat.zero_le _
theorem number_f (k : Nat) (text : ByteArray) (at_ err m : Int) (hk : 10 ≤ k) (h0 : 0 ≤ at_) (h1 : at_ ≤ text.size) (hs : text.size ≤ 4000000000000000000) :
    octet_Cursor_Number.f k text at_ err m = some (getS (takeS text at_ err m).1, text, (takeS text at_ err m).2.1, (takeS text at_ err m).2.2) := by
  unfold octet_Cursor_Number.f
  rw [take_f text at_ err m h0 h1 hs]
  simp only [Option.bind_some]
  rw [get_f k _ hk (by have := take_size text at_ err m h0 h1; omega)]
  rfl
end Go.Proofs.YtngmipfobcaojaaGreat.HA
end

-- YtngmipfobcaojaaGreatHA8
section
namespace Go.Proofs.YtngmipfobcaojaaGreat.HA
open Go.RowKit Go.Proofs.YtngmipfobcaojaaGreatW.PrintWords Go.Proofs.YtngmipfobcaojaaGreatW.PrintLast Go.Proofs.YtngmipfobcaojaaGreatW.PrintMore
attribute [local go_sem] q1k q1j q1s q1t q1a q19 q1h q1i

def prop_rule_has.f (a0_0 : Int) (a0_1 : Int) (a0_2 : Int) (a0_3 : Int) (a1 : Int) : Option (Bool) := if a1 ≥ 1 then (if a1 ≤ 16 then (if 0 ≤ (IntKind.u64.wrap (a1)) then (some ((Go.bits .and .i64 (shr .i64 a0_1 (IntKind.u64.wrap (a1))) 1) == 1)) else (none)) else (some false)) else (some false)
theorem z38_0 {p : Prop} (h : p := by repeat (first | (with_reducible first | exact HB.out | apply qg | apply qa | apply qi) | exact HB.out)) : p := h
theorem z38_1 {p : Prop} (h : p := by repeat (first | (with_reducible first | exact HB.out | apply qg | apply qa | apply qi | refine qw ?_ GE105.out) | exact HB.out)) : p := h
set_option maxHeartbeats 8000000 in
set_option maxRecDepth 100000 in
theorem prop_rule_has.calls (a0_0 : Int) (a0_1 : Int) (a0_2 : Int) (a0_3 : Int) (a1 : Int) (r : Bool) (w : World) (h : prop_rule_has.f a0_0 a0_1 a0_2 a0_3 a1 = some r) :
  Calls Tryz.prog 60 #[.agg #[.int .i64 a0_0, .int .i64 a0_1, .int .u32 a0_2, .int .u32 a0_3], .int .i64 a1] w fun e w' => e = .returned (.bool r) ∧ Below w.heap.size w w' := by
 have hu67 := Tryz.underlying67
 have HB := Aside0.mk (Below.refl w.heap.size w)
 have H : (if a1 ≥ 1 then (if a1 ≤ 16 then (if 0 ≤ (IntKind.u64.wrap (a1)) then (some ((Go.bits .and .i64 (shr .i64 a0_1 (IntKind.u64.wrap (a1))) 1) == 1)) else (none)) else (some false)) else (some false)) = some r := h
 clear h
 by_cases c3 : a1 ≥ 1
 ·rw [if_pos c3] at H
  have c3b0 : decide (1 ≤ a1) = true := decide_eq_true c3
  clear c3
  by_cases c4 : a1 ≤ 16
  ·rw [if_pos c4] at H
   have c4b0 : decide (a1 ≤ 16) = true := decide_eq_true c4
   clear c4
   obtain ⟨ji5, hji5⟩ : ∃ j_ : Int, (IntKind.u64.wrap (a1)) = j_ := ⟨_, rfl⟩
   replace H : (if 0 ≤ (ji5) then (some ((Go.bits .and .i64 (shr .i64 a0_1 (ji5)) 1) == 1)) else (none)) = some r := by first | (rw [hji5] at H; exact H) | (simp only [hji5] at H ⊢; exact H)
   by_cases c6 : 0 ≤ (ji5)
   ·rw [if_pos c6] at H
    have c6b0 := eq_true c6
    have c6b1 : decide (0 ≤ (ji5)) = true := decide_eq_true c6
    clear c6
    obtain ⟨ji7, hji7⟩ : ∃ j_ : Int, (shr .i64 a0_1 (ji5)) = j_ := ⟨_, rfl⟩
    replace H : (some ((Go.bits .and .i64 (ji7) 1) == 1)) = some r := by first | (rw [hji7] at H; exact H) | (simp only [hji7] at H ⊢; exact H)
    have hji7_ : (a0_1 / 2 ^ min (ji5).toNat 64) = ji7 := hji7
    have hji7z : (ji5) ≤ 64 → (a0_1 / 2 ^ (ji5).toNat) = ji7 := shr_small hji7
    obtain rfl := Option.some.inj H
    go_enter Tryz.func60, Tryz.ntmps60
    go_wp2_with (first | ((with_reducible refine q1c (N := 2) rfl ?_); refine q1r ?hg (N := 2) ?hd (cs := #[.int .i64 a0_0, .int .i64 a0_1, .int .u32 a0_2, .int .u32 a0_3]) (t := 67) ?hr ?_; (case hd => rfl); (case hg => rfl); (case hr => first | (go_simp; done) | (go_simp; rfl)); intro gb105 hg w8 hbox hb; have n0_ := Aside0.mk (qe z38_0 hb); have n1_ := Aside0.mk (hbox); have n2_ := Aside0.mk ((by rw [hg]; exact (qm z38_0) : w.heap.size ≤ gb105)); have n3_ := Aside0.mk ((by rw [hg]; exact (qm z38_0) : w.heap.size ≤ gb105)); clear HB; have HB := n0_; have BK105 := n1_; have GW105 := n2_; have GE105 := n3_; clear n0_ n1_ n2_ n3_; clear hb hbox hg; have hcz9_0 := zbc BK105 0 (.int .i64 a0_0); have hcz9_1 := zbc BK105 1 (.int .i64 a0_1); have hcz9_2 := zbc BK105 2 (.int .u32 a0_2); have hcz9_3 := zbc BK105 3 (.int .u32 a0_3); have hfz9_0 := q9 BK105.out 0; have hfz9_1 := q9 BK105.out 1; have hfz9_2 := q9 BK105.out 2; have hfz9_3 := q9 BK105.out 3))
    go_ret
    exact ⟨(by first | rfl | (simp [qq, qp] <;> rfl) | (simp only [← hji5, ← hji7]; first | rfl | (simp [qq, qp] <;> rfl)) | (simp [*, qq, qp] <;> rfl)), z38_1⟩
   rw [if_neg c6] at H
   exact absurd H (by simp)
  rw [if_neg c4] at H
  have c4b0 : decide (a1 ≤ 16) = false := decide_eq_false c4
  clear c4
  obtain rfl := Option.some.inj H
  go_enter Tryz.func60, Tryz.ntmps60
  go_wp2_with (first | ((with_reducible refine q1c (N := 2) rfl ?_); refine q1r ?hg (N := 2) ?hd (cs := #[.int .i64 a0_0, .int .i64 a0_1, .int .u32 a0_2, .int .u32 a0_3]) (t := 67) ?hr ?_; (case hd => rfl); (case hg => rfl); (case hr => first | (go_simp; done) | (go_simp; rfl)); intro gb105 hg w10 hbox hb; have n0_ := Aside0.mk (qe z38_0 hb); have n1_ := Aside0.mk (hbox); have n2_ := Aside0.mk ((by rw [hg]; exact (qm z38_0) : w.heap.size ≤ gb105)); have n3_ := Aside0.mk ((by rw [hg]; exact (qm z38_0) : w.heap.size ≤ gb105)); clear HB; have HB := n0_; have BK105 := n1_; have GW105 := n2_; have GE105 := n3_; clear n0_ n1_ n2_ n3_; clear hb hbox hg))
  go_ret
  exact ⟨(by first | rfl | (simp [qq, qp] <;> rfl) | (simp [*, qq, qp] <;> rfl)), z38_1⟩
 rw [if_neg c3] at H
 have c3b0 : decide (1 ≤ a1) = false := decide_eq_false c3
 clear c3
 obtain rfl := Option.some.inj H
 go_enter Tryz.func60, Tryz.ntmps60
 go_wp2_with (first | ((with_reducible refine q1c (N := 2) rfl ?_); refine q1r ?hg (N := 2) ?hd (cs := #[.int .i64 a0_0, .int .i64 a0_1, .int .u32 a0_2, .int .u32 a0_3]) (t := 67) ?hr ?_; (case hd => rfl); (case hg => rfl); (case hr => first | (go_simp; done) | (go_simp; rfl)); intro gb105 hg w11 hbox hb; have n0_ := Aside0.mk (qe z38_0 hb); have n1_ := Aside0.mk (hbox); have n2_ := Aside0.mk ((by rw [hg]; exact (qm z38_0) : w.heap.size ≤ gb105)); have n3_ := Aside0.mk ((by rw [hg]; exact (qm z38_0) : w.heap.size ≤ gb105)); clear HB; have HB := n0_; have BK105 := n1_; have GW105 := n2_; have GE105 := n3_; clear n0_ n1_ n2_ n3_; clear hb hbox hg))
 go_ret
 exact ⟨(by first | rfl | (simp [qq, qp] <;> rfl) | (simp [*, qq, qp] <;> rfl)), z38_1⟩

end Go.Proofs.YtngmipfobcaojaaGreat.HA
end

-- YtngmipfobcaojaaGreatHAhShape
section
namespace Go.Proofs.YtngmipfobcaojaaGreat.HA
open Go.RowKit Go.Proofs.YtngmipfobcaojaaGreatW.PrintWords Go.Proofs.YtngmipfobcaojaaGreatW.PrintLast Go.Proofs.YtngmipfobcaojaaGreatW.PrintMore

def prop_Shape.f (a0 : Int) : Option Int := some (ruleOf a0).1
set_option maxHeartbeats 1000000 in
set_option maxRecDepth 100000 in
theorem prop_Shape.calls (a0 : Int) (r : Int) (w : World) (h : prop_Shape.f a0 = some r) :
    Calls Tryz.prog 16 #[.int .i64 a0] w fun e w' => e = .returned (.int .i64 r) ∧ Below w.heap.size w w' := by
  obtain rfl := Option.some.inj h
  have hl := run_rule_lookup (w.alloc ruleObj) w.heap.size a0 (rules_heap w)
  unfold ruleVal at hl
  generalize ruleOf a0 = ru at *
  have hf : ∀ (a b c d : Value) (W : World), (Instr.field 67 (.agg #[a, b, c, d]) 0).run Tryz.prog W = .ok a W := fun _ _ _ _ _ => by kernel_rfl
  go_enter Tryz.func16, Tryz.ntmps16
  go_wp2_with (go_at_call 45; refine (prop_rules.calls0 _).mono ?_; rintro e w' ⟨rfl, rfl⟩)
  go_ret
  exact ⟨rfl, (Below.refl _ _).alloc (Nat.le_refl _) _⟩

def prop_May.f (a0 a1 : Int) : Option Bool := prop_rule_has.f (ruleOf a1).1 (ruleOf a1).2.1 (ruleOf a1).2.2.1 (ruleOf a1).2.2.2 a0
set_option maxHeartbeats 1000000 in
set_option maxRecDepth 100000 in
theorem prop_May.calls (a0 : Int) (a1 : Int) (r : Bool) (w : World) (h : prop_May.f a0 a1 = some r) :
    Calls Tryz.prog 18 #[.int .i64 a0, .int .i64 a1] w fun e w' => e = .returned (.bool r) ∧ Below w.heap.size w w' := by
  have hl := run_rule_lookup (w.alloc ruleObj) w.heap.size a1 (rules_heap w)
  have hc := prop_rule_has.calls (ruleOf a1).1 (ruleOf a1).2.1 (ruleOf a1).2.2.1 (ruleOf a1).2.2.2 a0 r (w.alloc ruleObj) h
  unfold ruleVal at hl
  clear h
  generalize ruleOf a1 = ru at *
  have hu := Tryz.underlying67
  go_enter Tryz.func18, Tryz.ntmps18
  go_wp2_with (first | (go_at_call 45; refine (prop_rules.calls0 _).mono ?_; rintro e w' ⟨rfl, rfl⟩) | (go_at_call 60; refine hc.mono ?_; rintro e w' ⟨rfl, hb⟩))
  go_ret
  exact ⟨rfl, ((Below.refl _ _).alloc (Nat.le_refl _) _).trans (hb.mono (by simp))⟩
end Go.Proofs.YtngmipfobcaojaaGreat.HA
end

-- YtngmipfobcaojaaGreatHAhBad
section
namespace Go.Proofs.YtngmipfobcaojaaGreat.HA
open Go.RowKit Go.Proofs.YtngmipfobcaojaaGreatW.PrintWords Go.Proofs.YtngmipfobcaojaaGreatW.PrintLast Go.Proofs.YtngmipfobcaojaaGreatW.PrintMore

def wholeB (s : ByteArray) : Bool := decide (3 ≤ s.size) && ((s.extract 0 3).toList == ([239, 191, 189] : List UInt8))

theorem whole_same (s : ByteArray) (w : World) : Calls Tryz.prog 156 #[.string s] w fun e w' => e = .returned (.bool (wholeB s)) ∧ w = w' := by
  by_cases h : 3 ≤ s.size
  · have h1 : decide (3 ≤ s.size) = true := decide_eq_true h
    have hfin : wholeB s = ((s.extract 0 3).toList == ([239, 191, 189] : List UInt8)) := by simp [wholeB, h]
    have Hfin := Aside0.mk hfin
    clear hfin
    go_enter Tryz.func156, Tryz.ntmps156
    go_wp2
    go_ret
    exact ⟨by rw [Hfin.out]; rfl, rfl⟩
  · have h1 : decide (3 ≤ s.size) = false := decide_eq_false h
    have hfin : wholeB s = false := by simp [wholeB, h]
    have Hfin := Aside0.mk hfin
    clear hfin
    go_enter Tryz.func156, Tryz.ntmps156
    go_wp2
    go_ret
    exact ⟨by rw [Hfin.out]; rfl, rfl⟩

def badAt (s : ByteArray) (pos : Nat) : Bool :=
  (Utf8.decode s pos).1 == 0 || ((Utf8.decode s pos).1 == 65533 && !wholeB (s.extract pos s.size))
def badTo (s : ByteArray) : Nat → Nat → Int
  | 0, _ => -1
  | b + 1, pos => if pos < s.size then (if badAt s pos then pos else badTo s b (pos + (Utf8.decode s pos).2)) else -1
def ustring_Bad.f (a0 : ByteArray) : Option Int := some (badTo a0 a0.size 0)
theorem width_pos (s : ByteArray) (pos : Nat) (h : pos < s.size) : 1 ≤ (Utf8.decode s pos).2 := by
  by_cases ha : (s[pos]'h).toNat < 128
  · rw [decode_ascii s pos h ha]
    exact Nat.le_refl _
  · exact (decode_high s pos h (by omega)).2
theorem badTo_end (s : ByteArray) (b pos : Nat) (h : ¬ pos < s.size) : badTo s b pos = -1 := by
  cases b with
  | zero => rfl
  | succ b => simp [badTo, h]
theorem decode_lt (s : ByteArray) (pos : Nat) : (Utf8.decode s pos).1 < 2097152 := by
  simp only [Utf8.decode]
  have hb : ∀ k, (s.get! (pos + k)).toNat < 256 := fun k => UInt8.toNat_lt _
  have h0 := hb 0; have h1 := hb 1; have h2 := hb 2; have h3 := hb 3
  repeat' split
  all_goals simp only [Utf8.runeError]
  all_goals omega
set_option maxHeartbeats 1000000 in
set_option maxRecDepth 100000 in
theorem ustring_Bad.calls0 (s : ByteArray) (w : World) :
    Calls Tryz.prog 136 #[.string s] w fun e w' => e = .returned (.int .i64 (badTo s s.size 0)) ∧ Below w.heap.size w w' := by
  go_enter Tryz.func136, Tryz.ntmps136
  go_wp2
  go_loopw [4] (fun _ w' => ∃ (pos b : Nat), w' = w.iter s pos ∧ Aside0 (badTo s b pos = badTo s s.size 0) ∧ s.size ≤ pos + b) (fun _ w' => s.size - w'.iterPos w.heap.size)
  case atStart => exact ⟨0, s.size, rfl, ⟨rfl⟩, by omega⟩
  case round =>
    obtain ⟨pos, b, rfl, hc, hb⟩ := hrel
    by_cases hp : pos < s.size
    · have hnx : ∀ ty, (Instr.next (.pointer (some ⟨w.heap.size, 0, none⟩)) true ty).run Tryz.prog (w.iter s pos) = _ := fun ty => run_next_any w s pos ty hp
      have hwd := width_pos s pos hp
      have hstep : badTo s (b - 1 + 1) pos = if pos < s.size then (if badAt s pos then (pos : Int) else badTo s (b - 1) (pos + (Utf8.decode s pos).2)) else -1 := rfl
      rw [if_pos hp, show b - 1 + 1 = b by omega, hc.out] at hstep
      have hba : badAt s pos = ((Utf8.decode s pos).1 == 0 || ((Utf8.decode s pos).1 == 65533 && !wholeB (s.extract pos s.size))) := rfl
      generalize hd : Utf8.decode s pos = d at *
      clear hd
      generalize hba' : badAt s pos = ba at *
      clear hba'
      by_cases c0 : d.1 = 0
      · have e0 : ((d.1 : Int) == 0) = true := by simp [c0]
        have hfin : badTo s s.size 0 = pos := by rw [hstep, hba]; simp [c0]
        have Hfin := Aside0.mk hfin
        clear hfin hstep hba c0 hwd hc
        go_wp2
        go_ret
        exact ⟨by rw [Hfin.out]; rfl, (Below.refl _ _).alloc (Nat.le_refl _) _⟩
      · have e0 : ((d.1 : Int) == 0) = false := by simp; omega
        by_cases c1 : d.1 = 65533
        · have e1 : ((d.1 : Int) == 65533) = true := by simp [c1]
          cases hw : wholeB (s.extract pos s.size) with
          | false =>
            have hfin : badTo s s.size 0 = pos := by rw [hstep, hba]; simp [c1, hw]
            have Hfin := Aside0.mk hfin
            have Hw := Aside0.mk hw
            clear hfin hstep hba c0 hwd hc c1 hw
            go_wp2_with (go_at_call 156; refine (whole_same _ _).mono ?_; rintro e w' ⟨rfl, rfl⟩; rw [Hw.out])
            go_ret
            exact ⟨by rw [Hfin.out]; rfl, (Below.refl _ _).alloc (Nat.le_refl _) _⟩
          | true =>
            have hfin : badTo s (b - 1) (pos + d.2) = badTo s s.size 0 := by rw [hstep, hba]; simp [c1, hw]
            have Hfin := Aside0.mk hfin
            have Hw := Aside0.mk hw
            clear hfin hstep hba c0 hc c1 hw
            go_wp2_with (go_at_call 156; refine (whole_same _ _).mono ?_; rintro e w' ⟨rfl, rfl⟩; rw [Hw.out])
            go_roundw
            case rel => exact ⟨pos + d.2, b - 1, rfl, Hfin, by omega⟩
            case measure => simp; omega
        · have e1 : ((d.1 : Int) == 65533) = false := by simp; omega
          have hfin : badTo s (b - 1) (pos + d.2) = badTo s s.size 0 := by rw [hstep, hba]; simp [c0, c1]
          have Hfin := Aside0.mk hfin
          clear hfin hstep hba c0 hc c1
          go_wp2
          go_roundw
          case rel => exact ⟨pos + d.2, b - 1, rfl, Hfin, by omega⟩
          case measure => simp; omega
    · have hnx : ∀ ty, (Instr.next (.pointer (some ⟨w.heap.size, 0, none⟩)) true ty).run Tryz.prog (w.iter s pos) = _ := fun ty => run_next_end w s pos ty hp
      have hfin : badTo s s.size 0 = -1 := by rw [← hc.out, badTo_end s b pos hp]
      have Hfin := Aside0.mk hfin
      clear hfin hc
      go_wp2
      go_ret
      exact ⟨by rw [Hfin.out]; rfl, (Below.refl _ _).alloc (Nat.le_refl _) _⟩
theorem ustring_Bad.calls (a0 : ByteArray) (r : Int) (w : World) (h : ustring_Bad.f a0 = some r) :
    Calls Tryz.prog 136 #[.string a0] w fun e w' => e = .returned (.int .i64 r) ∧ Below w.heap.size w w' := by
  obtain rfl := Option.some.inj h
  exact ustring_Bad.calls0 a0 w
end Go.Proofs.YtngmipfobcaojaaGreat.HA
end

-- YtngmipfobcaojaaGreatHA12
section
namespace Go.Proofs.YtngmipfobcaojaaGreat.HA
open Go.RowKit Go.Proofs.YtngmipfobcaojaaGreatW.PrintWords Go.Proofs.YtngmipfobcaojaaGreatW.PrintLast Go.Proofs.YtngmipfobcaojaaGreatW.PrintMore
attribute [local go_sem] q1k q1j q1s q1t q1a q19 q1h q1i

def ustring_Valid.f (a0 : ByteArray) : Option (Bool) := if (a0.size : Int) ≤ 65535 then ((ustring_Bad.f a0).bind fun t108 => (some (t108 == (-1)))) else (some false)
theorem z41_0 {p : Prop} (h : p := by repeat (first | (with_reducible first | exact HB.out | apply qg | apply qa | apply qi) | exact HB.out)) : p := h
set_option maxHeartbeats 8000000 in
set_option maxRecDepth 100000 in
theorem ustring_Valid.calls (a0 : ByteArray) (r : Bool) (w : World) (h : ustring_Valid.f a0 = some r) :
  Calls Tryz.prog 100 #[.string a0] w fun e w' => e = .returned (.bool r) ∧ Below w.heap.size w w' := by
 have HB := Aside0.mk (Below.refl w.heap.size w)
 have H : (if (a0.size : Int) ≤ 65535 then ((ustring_Bad.f a0).bind fun t108 => (some (t108 == (-1)))) else (some false)) = some r := h
 clear h
 by_cases c2 : (a0.size : Int) ≤ 65535
 ·rw [if_pos c2] at H
  have c2b0 : decide ((a0.size : Int) ≤ 65535) = true := decide_eq_true c2
  have c2b1 : decide (a0.size ≤ 65535) = true := decide_eq_true (by omega)
  clear c2
  replace H := Option.bind_eq_some_iff.mp H
  obtain ⟨t108, A30, H⟩ := H
  replace H : (some (t108 == (-1))) = some r := H
  have A3 := Aside0.mk A30
  clear A30
  obtain rfl := Option.some.inj H
  go_enter Tryz.func100, Tryz.ntmps100
  go_wp2_with (first | (go_at_call 136; (with_reducible refine (ustring_Bad.calls a0 t108 _ A3.out).mono ?_); rintro e w4 ⟨rfl, hb⟩; have n0_ := Aside0.mk (qe z41_0 hb); clear HB; have HB := n0_; clear n0_; (try clear hb); (try clear hb2); (try clear hk); (try clear hi)))
  go_ret
  exact ⟨(by first | rfl | (simp [qq, qp] <;> rfl) | (simp [*, qq, qp] <;> rfl)), z41_0⟩
 rw [if_neg c2] at H
 have c2b0 : decide ((a0.size : Int) ≤ 65535) = false := decide_eq_false c2
 have c2b1 : decide (a0.size ≤ 65535) = false := decide_eq_false (by omega)
 clear c2
 obtain rfl := Option.some.inj H
 go_enter Tryz.func100, Tryz.ntmps100
 go_wp2
 go_ret
 exact ⟨(by first | rfl | (simp [qq, qp] <;> rfl) | (simp [*, qq, qp] <;> rfl)), z41_0⟩

end Go.Proofs.YtngmipfobcaojaaGreat.HA
end

-- YtngmipfobcaojaaGreatHA13
section
namespace Go.Proofs.YtngmipfobcaojaaGreat.HA
open Go.RowKit Go.Proofs.YtngmipfobcaojaaGreatW.PrintWords Go.Proofs.YtngmipfobcaojaaGreatW.PrintLast Go.Proofs.YtngmipfobcaojaaGreatW.PrintMore
attribute [local go_sem] q1k q1j q1s q1t q1a q19 q1h q1i

def topic_text.f (a0 : ByteArray) : Option (Bool) := if a0.toList = ([] : List UInt8) then (some false) else ((ustring_Valid.f a0).bind fun t109 => (some t109))
theorem z42_0 {p : Prop} (h : p := by repeat (first | (with_reducible first | exact HB.out | apply qg | apply qa | apply qi) | exact HB.out)) : p := h
set_option maxHeartbeats 8000000 in
set_option maxRecDepth 100000 in
theorem topic_text.calls (a0 : ByteArray) (r : Bool) (w : World) (h : topic_text.f a0 = some r) :
  Calls Tryz.prog 137 #[.string a0] w fun e w' => e = .returned (.bool r) ∧ Below w.heap.size w w' := by
 have HB := Aside0.mk (Below.refl w.heap.size w)
 have H : (if a0.toList = ([] : List UInt8) then (some false) else ((ustring_Valid.f a0).bind fun t109 => (some t109))) = some r := h
 clear h
 by_cases c2 : a0.toList = ([] : List UInt8)
 ·rw [if_pos c2] at H
  have c2b0 : (a0.toList == ([] : List UInt8)) = true := beq_iff_eq.mpr c2
  have c2b1 : (a0.toList != ([] : List UInt8)) = false := bne_eq_false_iff_eq.mpr c2
  clear c2
  obtain rfl := Option.some.inj H
  go_enter Tryz.func137, Tryz.ntmps137
  go_wp2
  go_ret
  exact ⟨(by first | rfl | (simp [qq, qp] <;> rfl) | (simp [*, qq, qp] <;> rfl)), z42_0⟩
 rw [if_neg c2] at H
 have c2b0 : (a0.toList == ([] : List UInt8)) = false := beq_eq_false_iff_ne.mpr c2
 have c2b1 : (a0.toList != ([] : List UInt8)) = true := bne_iff_ne.mpr c2
 replace H := Option.bind_eq_some_iff.mp H
 obtain ⟨t109, A30, H⟩ := H
 replace H : (some t109) = some r := H
 have A3 := Aside0.mk A30
 clear A30
 obtain rfl := Option.some.inj H
 go_enter Tryz.func137, Tryz.ntmps137
 go_wp2_with (first | (go_at_call 100; (with_reducible refine (ustring_Valid.calls a0 t109 _ A3.out).mono ?_); rintro e w4 ⟨rfl, hb⟩; have n0_ := Aside0.mk (qe z42_0 hb); clear HB; have HB := n0_; clear n0_; (try clear hb); (try clear hb2); (try clear hk); (try clear hi)))
 go_ret
 exact ⟨(by first | rfl | (simp [qq, qp] <;> rfl) | (simp [*, qq, qp] <;> rfl)), z42_0⟩

end Go.Proofs.YtngmipfobcaojaaGreat.HA
end

-- YtngmipfobcaojaaGreatShelf
section
namespace Go.Proofs
open Go.Shelf
def Tryz.lays119_ren : Go.Shelf.Ren := ⟨fun | 119 => 176 | n => n, fun | 21 => 21 | 4 => 4 | n => n, fun | n => n⟩
theorem Tryz.lays119 : Go.Proofs.Lays.n119 Tryz.prog Tryz.lays119_ren := {
  mixed := by kernel_rfl
  f119 := Tryz.func176.trans (congrArg some (by kernel_rfl))
  t4 := Tryz.underlying4
  a4 := Tryz.isAgg4
  z4 := Tryz.sizeOf4
  v4 := Tryz.zeroValue4
  t21 := Tryz.underlying21
  a21 := Tryz.isAgg21
  z21 := Tryz.sizeOf21
  v21 := Tryz.zeroValue21 }
theorem Tryz.utf8_ValidRune (r : Int) (w : World) :
    Calls Tryz.prog 176 #[.int .i32 r] w fun e w' => e = .returned (.bool (Lib.validRune r)) ∧ w' = w := Any.utf8_ValidRune Tryz.lays119 r w
def Tryz.lays137_ren : Go.Shelf.Ren := ⟨fun | 137 => 175 | 217 => 179 | 266 => 180 | n => n, fun | 9 => 9 | 5 => 5 | 3 => 3 | n => n, fun | n => n⟩
theorem Tryz.lays137 : Go.Proofs.Lays.n137 Tryz.prog Tryz.lays137_ren := {
  mixed := by kernel_rfl
  f137 := Tryz.func175.trans (congrArg some (by kernel_rfl))
  f217 := Tryz.func179.trans (congrArg some (by kernel_rfl))
  f266 := Tryz.func180.trans (congrArg some (by kernel_rfl))
  t3 := Tryz.underlying3
  a3 := Tryz.isAgg3
  z3 := Tryz.sizeOf3
  v3 := Tryz.zeroValue3
  t5 := Tryz.underlying5
  a5 := Tryz.isAgg5
  z5 := Tryz.sizeOf5
  v5 := Tryz.zeroValue5
  t9 := Tryz.underlying9
  a9 := Tryz.isAgg9
  z9 := Tryz.sizeOf9
  v9 := Tryz.zeroValue9 }
open Go.RowKit in
theorem Tryz.strings_IndexByte (s : ByteArray) (c : Int) (w : World) :
    Calls Tryz.prog 175 #[.string s, .int .u8 c] w fun e w' => e = .returned (.int .i64 (Lib.indexByte s.data.toList c.toNat.toUInt8)) ∧ w' = w := Any.strings_IndexByte Tryz.lays137 s c w
def Tryz.lays152_ren : Go.Shelf.Ren := ⟨fun | 152 => 171 | 137 => 175 | 119 => 176 | 224 => 177 | 225 => 178 | 217 => 179 | 266 => 180 | n => n, fun | 9 => 9 | 21 => 21 | 3 => 3 | 4 => 4 | 5 => 5 | 0 => 0 | 46 => 92 | n => n, fun | n => n⟩
theorem Tryz.lays152 : Go.Proofs.Lays.n152 Tryz.prog Tryz.lays152_ren := {
  mixed := by kernel_rfl
  f119 := Tryz.func176.trans (congrArg some (by kernel_rfl))
  f137 := Tryz.func175.trans (congrArg some (by kernel_rfl))
  f152 := Tryz.func171.trans (congrArg some (by kernel_rfl))
  f217 := Tryz.func179.trans (congrArg some (by kernel_rfl))
  f224 := Tryz.func177.trans (congrArg some (by kernel_rfl))
  f225 := Tryz.func178.trans (congrArg some (by kernel_rfl))
  f266 := Tryz.func180.trans (congrArg some (by kernel_rfl))
  t0 := Tryz.underlying0
  a0 := Tryz.isAgg0
  z0 := Tryz.sizeOf0
  v0 := Tryz.zeroValue0
  t3 := Tryz.underlying3
  a3 := Tryz.isAgg3
  z3 := Tryz.sizeOf3
  v3 := Tryz.zeroValue3
  t4 := Tryz.underlying4
  a4 := Tryz.isAgg4
  z4 := Tryz.sizeOf4
  v4 := Tryz.zeroValue4
  t5 := Tryz.underlying5
  a5 := Tryz.isAgg5
  z5 := Tryz.sizeOf5
  v5 := Tryz.zeroValue5
  t9 := Tryz.underlying9
  a9 := Tryz.isAgg9
  z9 := Tryz.sizeOf9
  v9 := Tryz.zeroValue9
  t21 := Tryz.underlying21
  a21 := Tryz.isAgg21
  z21 := Tryz.sizeOf21
  v21 := Tryz.zeroValue21
  t46 := Tryz.underlying92
  a46 := Tryz.isAgg92
  z46 := Tryz.sizeOf92
  v46 := Tryz.zeroValue92 }
open Go.RowKit Go.Lib in
theorem Tryz.strings_IndexRune_ascii (s : ByteArray) (r : Int) (w : World) (h0 : 0 ≤ r) (h1 : r < 128) :
    Calls Tryz.prog 171 #[.string s, .int .i32 r] w fun e w' => e = .returned (.int .i64 (Lib.indexByte s.data.toList r.toNat.toUInt8)) ∧ w' = w := Any.strings_IndexRune_ascii Tryz.lays152 s r w h0 h1
def Tryz.lays226_ren : Go.Shelf.Ren := ⟨fun | 226 => 172 | n => n, fun | 3 => 3 | 4 => 4 | n => n, fun | n => n⟩
theorem Tryz.lays226 : Go.Proofs.Lays.n226 Tryz.prog Tryz.lays226_ren := {
  mixed := by kernel_rfl
  f226 := Tryz.func172.trans (congrArg some (by kernel_rfl))
  t3 := Tryz.underlying3
  a3 := Tryz.isAgg3
  z3 := Tryz.sizeOf3
  v3 := Tryz.zeroValue3
  t4 := Tryz.underlying4
  a4 := Tryz.isAgg4
  z4 := Tryz.sizeOf4
  v4 := Tryz.zeroValue4 }
open Go.RowKit Go.Lib in
theorem Tryz.strings_shouldUseASCIISet (n : Int) (w : World) :
    Calls Tryz.prog 172 #[.int .i64 n] w fun e w' => e = .returned (.bool (decide (8 < n))) ∧ w' = w := Any.strings_shouldUseASCIISet Tryz.lays226 n w
def Tryz.lays153_ren : Go.Shelf.Ren := ⟨fun | 153 => 157 | 152 => 171 | 226 => 172 | 227 => 173 | 228 => 174 | 137 => 175 | 119 => 176 | 224 => 177 | 225 => 178 | 217 => 179 | 266 => 180 | n => n, fun | 9 => 9 | 3 => 3 | 4 => 4 | 5 => 5 | 21 => 21 | 117 => 161 | 116 => 160 | 0 => 0 | 46 => 92 | 124 => 166 | n => n, fun | n => n⟩
theorem Tryz.lays153 : Go.Proofs.Lays.n153 Tryz.prog Tryz.lays153_ren := {
  mixed := by kernel_rfl
  f119 := Tryz.func176.trans (congrArg some (by kernel_rfl))
  f137 := Tryz.func175.trans (congrArg some (by kernel_rfl))
  f152 := Tryz.func171.trans (congrArg some (by kernel_rfl))
  f153 := Tryz.func157.trans (congrArg some (by kernel_rfl))
  f217 := Tryz.func179.trans (congrArg some (by kernel_rfl))
  f224 := Tryz.func177.trans (congrArg some (by kernel_rfl))
  f225 := Tryz.func178.trans (congrArg some (by kernel_rfl))
  f226 := Tryz.func172.trans (congrArg some (by kernel_rfl))
  f227 := Tryz.func173.trans (congrArg some (by kernel_rfl))
  f228 := Tryz.func174.trans (congrArg some (by kernel_rfl))
  f266 := Tryz.func180.trans (congrArg some (by kernel_rfl))
  t0 := Tryz.underlying0
  a0 := Tryz.isAgg0
  z0 := Tryz.sizeOf0
  v0 := Tryz.zeroValue0
  t3 := Tryz.underlying3
  a3 := Tryz.isAgg3
  z3 := Tryz.sizeOf3
  v3 := Tryz.zeroValue3
  t4 := Tryz.underlying4
  a4 := Tryz.isAgg4
  z4 := Tryz.sizeOf4
  v4 := Tryz.zeroValue4
  t5 := Tryz.underlying5
  a5 := Tryz.isAgg5
  z5 := Tryz.sizeOf5
  v5 := Tryz.zeroValue5
  t9 := Tryz.underlying9
  a9 := Tryz.isAgg9
  z9 := Tryz.sizeOf9
  v9 := Tryz.zeroValue9
  t21 := Tryz.underlying21
  a21 := Tryz.isAgg21
  z21 := Tryz.sizeOf21
  v21 := Tryz.zeroValue21
  t46 := Tryz.underlying92
  a46 := Tryz.isAgg92
  z46 := Tryz.sizeOf92
  v46 := Tryz.zeroValue92
  t116 := Tryz.underlying160
  a116 := Tryz.isAgg160
  z116 := Tryz.sizeOf160
  t117 := Tryz.underlying161
  a117 := Tryz.isAgg161
  z117 := Tryz.sizeOf161
  v117 := Tryz.zeroValue161
  t124 := Tryz.underlying166
  a124 := Tryz.isAgg166
  z124 := Tryz.sizeOf166
  v124 := Tryz.zeroValue166 }
open Go.RowKit Go.Lib in
theorem Tryz.strings_IndexAny_long (hv116 : ∀ w, (zeroValue 160).run Tryz.prog w = .ok (.agg (Array.replicate 256 (.bool false))) w) (s chars : ByteArray) (w : World) (h2 : 2 ≤ chars.size) (h8 : 8 < s.size) (hs : s.size < 4294967281) (hcs : chars.size < 4294967281) (hascii : ∀ (j : Nat) b, chars.data.toList[j]? = some b → b.toNat < 128) :
    Calls Tryz.prog 157 #[.string s, .string chars] w fun e w' => e = .returned (.int .i64 (Lib.indexAny s.data.toList chars.data.toList)) ∧ w' = ((w.alloc (.cells (Lib.setCells chars.data.toList) 160)).alloc (.cells (Lib.setCells chars.data.toList) 160)) := Any.strings_IndexAny_long Tryz.lays153 hv116 (by kernel_rfl) s chars w h2 h8 hs hcs hascii
def Tryz.lays150_ren : Go.Shelf.Ren := ⟨fun | 150 => 138 | 153 => 157 | 152 => 171 | 226 => 172 | 227 => 173 | 228 => 174 | 137 => 175 | 119 => 176 | 224 => 177 | 225 => 178 | 217 => 179 | 266 => 180 | n => n, fun | 9 => 9 | 4 => 4 | 3 => 3 | 5 => 5 | 21 => 21 | 117 => 161 | 116 => 160 | 0 => 0 | 46 => 92 | 124 => 166 | n => n, fun | n => n⟩
theorem Tryz.lays150 : Go.Proofs.Lays.n150 Tryz.prog Tryz.lays150_ren := {
  mixed := by kernel_rfl
  f119 := Tryz.func176.trans (congrArg some (by kernel_rfl))
  f137 := Tryz.func175.trans (congrArg some (by kernel_rfl))
  f150 := Tryz.func138.trans (congrArg some (by kernel_rfl))
  f152 := Tryz.func171.trans (congrArg some (by kernel_rfl))
  f153 := Tryz.func157.trans (congrArg some (by kernel_rfl))
  f217 := Tryz.func179.trans (congrArg some (by kernel_rfl))
  f224 := Tryz.func177.trans (congrArg some (by kernel_rfl))
  f225 := Tryz.func178.trans (congrArg some (by kernel_rfl))
  f226 := Tryz.func172.trans (congrArg some (by kernel_rfl))
  f227 := Tryz.func173.trans (congrArg some (by kernel_rfl))
  f228 := Tryz.func174.trans (congrArg some (by kernel_rfl))
  f266 := Tryz.func180.trans (congrArg some (by kernel_rfl))
  t0 := Tryz.underlying0
  a0 := Tryz.isAgg0
  z0 := Tryz.sizeOf0
  v0 := Tryz.zeroValue0
  t3 := Tryz.underlying3
  a3 := Tryz.isAgg3
  z3 := Tryz.sizeOf3
  v3 := Tryz.zeroValue3
  t4 := Tryz.underlying4
  a4 := Tryz.isAgg4
  z4 := Tryz.sizeOf4
  v4 := Tryz.zeroValue4
  t5 := Tryz.underlying5
  a5 := Tryz.isAgg5
  z5 := Tryz.sizeOf5
  v5 := Tryz.zeroValue5
  t9 := Tryz.underlying9
  a9 := Tryz.isAgg9
  z9 := Tryz.sizeOf9
  v9 := Tryz.zeroValue9
  t21 := Tryz.underlying21
  a21 := Tryz.isAgg21
  z21 := Tryz.sizeOf21
  v21 := Tryz.zeroValue21
  t46 := Tryz.underlying92
  a46 := Tryz.isAgg92
  z46 := Tryz.sizeOf92
  v46 := Tryz.zeroValue92
  t116 := Tryz.underlying160
  a116 := Tryz.isAgg160
  z116 := Tryz.sizeOf160
  t117 := Tryz.underlying161
  a117 := Tryz.isAgg161
  z117 := Tryz.sizeOf161
  v117 := Tryz.zeroValue161
  t124 := Tryz.underlying166
  a124 := Tryz.isAgg166
  z124 := Tryz.sizeOf166
  v124 := Tryz.zeroValue166 }
open Go.RowKit Go.Lib in
theorem Tryz.strings_ContainsAny (hv116 : ∀ w, (zeroValue 160).run Tryz.prog w = .ok (.agg (Array.replicate 256 (.bool false))) w) (s chars : ByteArray) (w : World) (hs : s.size < 4294967281) (hcs : chars.size < 4294967281) (has : ∀ (j : Nat) b, s.data.toList[j]? = some b → b.toNat < 128) (hac : ∀ (j : Nat) b, chars.data.toList[j]? = some b → b.toNat < 128) :
    Calls Tryz.prog 138 #[.string s, .string chars] w fun e w' => e = .returned (.bool (Lib.containsAny s.data.toList chars.data.toList)) ∧ Below w.heap.size w w' := Any.strings_ContainsAny Tryz.lays150 hv116 (by kernel_rfl) s chars w hs hcs has hac
end Go.Proofs
end

-- YtngmipfobcaojaaGreatHAhAny
section
namespace Go.Proofs.YtngmipfobcaojaaGreat.HA
open Go.RowKit Go.Proofs.YtngmipfobcaojaaGreatW.PrintWords Go.Proofs.YtngmipfobcaojaaGreatW.PrintLast Go.Proofs.YtngmipfobcaojaaGreatW.PrintMore

def ph : ByteArray := ⟨#[43, 35]⟩

set_option maxHeartbeats 2000000 in
set_option maxRecDepth 100000 in
theorem indexRune_err (w : World) : Calls Tryz.prog 171 #[.string ph, .int .i32 65533] w fun e w' => e = .returned (.int .i64 (-1)) ∧ w' = w.iter ph 2 := by
  have hp : ph.size = 2 := rfl
  have d0 : Utf8.decode ph 0 = (43, 1) := by decide
  have d1 : Utf8.decode ph 1 = (35, 1) := by decide
  have hn0 : ∀ ty, (Instr.next (.pointer (some ⟨w.heap.size, 0, none⟩)) true ty).run Tryz.prog (w.iter ph 0) = _ := fun ty => run_next_any w ph 0 ty (by decide)
  have hn1 : ∀ ty, (Instr.next (.pointer (some ⟨w.heap.size, 0, none⟩)) true ty).run Tryz.prog (w.iter ph 1) = _ := fun ty => run_next_any w ph 1 ty (by decide)
  have hn2 : ∀ ty, (Instr.next (.pointer (some ⟨w.heap.size, 0, none⟩)) true ty).run Tryz.prog (w.iter ph 2) = _ := fun ty => run_next_end w ph 2 ty (by decide)
  rw [d0] at hn0
  rw [d1] at hn1
  have H0 := Aside0.mk hn0
  have H1 := Aside0.mk hn1
  have H2 := Aside0.mk hn2
  clear hp d0 d1 hn0 hn1 hn2
  go_enter Tryz.func171, Tryz.ntmps171
  go_wp2
  go_loopw [5] (fun _ w' => ∃ pos : Nat, pos ≤ 2 ∧ w' = w.iter ph pos) (fun _ w' => 2 - w'.iterPos w.heap.size)
  case atStart => exact ⟨0, by omega, rfl⟩
  case round =>
    obtain ⟨pos, hpos, rfl⟩ := hrel
    obtain rfl | rfl | rfl : pos = 0 ∨ pos = 1 ∨ pos = 2 := by omega
    · have hnx := H0.out
      clear H0 H1 H2
      go_wp2
      go_roundw
      case rel => exact ⟨1, by omega, rfl⟩
      case measure => simp
    · have hnx := H1.out
      clear H0 H1 H2
      go_wp2
      go_roundw
      case rel => exact ⟨2, by omega, rfl⟩
      case measure => simp
    · have hnx := H2.out
      clear H0 H1 H2
      go_wp2
      go_ret
      exact ⟨rfl, rfl⟩

theorem encode_two (c : Nat) (h1 : 128 ≤ c) (h2 : c < 2048) : ∃ b0 b1 : UInt8, Utf8.encode c = ⟨#[b0, b1]⟩ ∧ 128 ≤ b1.toNat := by
  refine ⟨UInt8.ofNat (0xC0 + c / 64), UInt8.ofNat (0x80 + c % 64), ?_, ?_⟩
  · have hv : Utf8.valid (c : Int) = true := by simp [Utf8.valid]; omega
    unfold Utf8.encode
    simp only [hv, if_true, Int.toNat_natCast]
    rw [if_neg (by omega), if_pos (by omega)]
  · simp [UInt8.toNat_ofNat']; omega
theorem encode_more (c : Nat) (h1 : 2048 ≤ c) : 3 ≤ (Utf8.encode c).size := by
  unfold Utf8.encode
  have hc : ∀ q : Bool, 2048 ≤ (if q = true then ((c : Int)).toNat else Utf8.runeError) := by
    intro q; cases q <;> simp [Utf8.runeError]; omega
  have := hc (Utf8.valid c)
  simp only
  generalize (if Utf8.valid (c : Int) = true then ((c : Int)).toNat else Utf8.runeError) = d at *
  rw [if_neg (by omega), if_neg (by omega)]
  split <;> simp [ByteArray.size]

theorem indexByte_nil (b : Int) (w : World) : Calls Tryz.prog 175 #[.string ⟨#[]⟩, .int .u8 b] w fun e w' => e = .returned (.int .i64 (-1)) ∧ w' = w :=
  (Tryz.strings_IndexByte _ _ _).mono fun _ _ ⟨h1, h2⟩ => ⟨by rw [h1]; rfl, h2⟩
set_option maxHeartbeats 4000000 in
set_option maxRecDepth 100000 in
theorem indexRune_high (c : Nat) (w : World) (h1 : 128 ≤ c) (h2 : c < 2097152) (h3 : c ≠ 65533) :
    Calls Tryz.prog 171 #[.string ph, .int .i32 c] w fun e w' => e = .returned (.int .i64 (-1)) ∧ ∃ n, w' = w.drewN n := by
  have e1 : decide ((0 : Int) ≤ (c : Int)) = true := by simp
  have e2 : decide ((c : Int) < 128) = false := by simp; omega
  have e3 : ((c : Int) == 65533) = false := by simp; omega
  cases hv : Lib.validRune (c : Int) with
  | false =>
    have Hv := Aside0.mk hv
    clear hv h3
    go_enter Tryz.func171, Tryz.ntmps171
    go_wp2_with (go_at_call 176; refine (Tryz.utf8_ValidRune _ _).mono ?_; rintro e w' ⟨rfl, hw⟩; rw [hw, Hv.out])
    go_ret
    exact ⟨rfl, 0, rfl⟩
  | true =>
    have Hv := Aside0.mk hv
    by_cases hc : c < 2048
    · obtain ⟨b0, b1, he, hb⟩ := encode_two c h1 hc
      have He := Aside0.mk he
      have hne : ((35 : Int) != (b1.toNat : Int)) = true := by rw [bne_iff_ne]; omega
      clear hv h3 he
      go_enter Tryz.func171, Tryz.ntmps171
      go_wp2_with (go_at_call 176; refine (Tryz.utf8_ValidRune _ _).mono ?_; rintro e w' ⟨rfl, hw⟩; rw [hw, Hv.out])
      go_step3
      go_wp2
      rw [He.out, show wrap64 ((((⟨#[b0, b1]⟩ : ByteArray).size : Nat) : Int) - 1) = 1 from by unfold wrap64; simp [ByteArray.size]]
      go_loop [9] (fun i => i = .int .i64 1) (fun _ => 0)
      case atStart => rfl
      case round =>
        obtain rfl := hrel
        have hl : decide ((1 : Int) < (ph.size : Int)) = true := rfl
        have hi1 : ∀ w, (Instr.index 9 (.string ph) (.int .i64 1)).run Tryz.prog w = .ok (.int .u8 35) w := fun _ => by kernel_rfl
        have hi2 : ∀ w, (Instr.index 9 (.string ⟨#[b0, b1]⟩) (.int .i64 1)).run Tryz.prog w = .ok (.int .u8 b1.toNat) w := fun _ => by kernel_rfl
        go_wp2
        go_step3
        go_wp2
        go_quiet (fail)
        generalize hw2 : w.drewN nq = w2
        have Hw2 := Aside0.mk hw2
        clear hw2
        have hs2 : ∀ w, (Instr.slice 9 (.string ph) (some (.int .i64 2)) none none).run Tryz.prog w = .ok (.string ⟨#[]⟩) w := fun _ => by kernel_rfl
        have hwr : IntKind.i64.wrap 2 = 2 := by decide
        go_wp2
        go_quiet ((go_at_call 175; refine Calls.quiet_of_same (indexByte_nil _ _)))
        go_wp2
        simp +zetaDelta only [Exit.noGoto_ret, Exit.inBlock, Exit.then]
        go_ret
        exact ⟨rfl, _, by rw [← Hw2.out, World.drewN_drewN]⟩
    · have he := encode_more c (by omega)
      have he2 : (Utf8.encode (c : Int)).size ≤ 4 := by
        unfold Utf8.encode
        simp only
        repeat' split
        all_goals simp [ByteArray.size]
      have ew : wrap64 ((((Utf8.encode (c : Int)).size : Nat) : Int) - 1) = (((Utf8.encode (c : Int)).size : Nat) : Int) - 1 := by
        unfold wrap64; omega
      have Ew := Aside0.mk ew
      clear hv h3 ew
      go_enter Tryz.func171, Tryz.ntmps171
      go_wp2_with (go_at_call 176; refine (Tryz.utf8_ValidRune _ _).mono ?_; rintro e w' ⟨rfl, hw⟩; rw [hw, Hv.out])
      go_step3
      go_wp2
      generalize (Utf8.encode (c : Int)) = en at *
      (try rw [Ew.out])
      go_loop [9] (fun i => i = .int .i64 ((en.size : Int) - 1)) (fun _ => 0)
      case atStart => rfl
      case round =>
        obtain rfl := hrel
        have hl : decide ((en.size : Int) - 1 < (ph.size : Int)) = false := by
          have : ph.size = 2 := rfl
          rw [this]; simp; omega
        go_wp2
        (try rw [Exit.noGoto_ret])
        go_ret
        exact ⟨rfl, 0, rfl⟩

def wildIn (s : ByteArray) : Bool := s.data.toList.contains 43 || s.data.toList.contains 35
set_option maxHeartbeats 4000000 in
set_option maxRecDepth 100000 in
theorem indexRune_any (c : Nat) (w : World) (h2 : c < 2097152) :
    Calls Tryz.prog 171 #[.string ph, .int .i32 c] w fun e w' => e = .returned (.int .i64 (if c = 43 then 0 else if c = 35 then 1 else -1)) ∧ Below w.heap.size w w' := by
  by_cases h1 : c < 128
  · have hx : ∀ x : Fin 128, Lib.indexByte ph.data.toList ((((x.val : Nat) : Int)).toNat.toUInt8) = (if x.val = 43 then 0 else if x.val = 35 then 1 else -1) := by decide
    refine (Tryz.strings_IndexRune_ascii ph c w (by omega) (by omega)).mono fun e w' ⟨he, hw⟩ => ⟨?_, by rw [hw]; exact Below.refl _ _⟩
    rw [he, hx ⟨c, h1⟩]
  · have hr : (if c = 43 then (0 : Int) else if c = 35 then 1 else -1) = -1 := by rw [if_neg (by omega), if_neg (by omega)]
    rw [hr]
    by_cases h3 : c = 65533
    · subst h3
      exact (indexRune_err w).mono fun e w' ⟨he, hw⟩ => ⟨he, by rw [hw]; exact (Below.refl _ _).alloc (Nat.le_refl _) _⟩
    · exact (indexRune_high c w (by omega) h2 h3).mono fun e w' ⟨he, n, hw⟩ => ⟨he, by rw [hw]; exact (Drawn0.mk ⟨n, rfl⟩).below⟩

theorem get!_at (s : ByteArray) (i : Nat) (h : i < s.size) : s.get! i = s[i]'h := by
  show s.get! i = _
  simp [ByteArray.get!, getElem!_pos, h]
  rfl
theorem decode_skip (s : ByteArray) (pos : Nat) (h : pos < s.size) (h1 : (Utf8.decode s pos).1 ≠ 43) (h2 : (Utf8.decode s pos).1 ≠ 35) :
    ∀ j, pos ≤ j → j < pos + (Utf8.decode s pos).2 → ∀ b, s.data.toList[j]? = some b → b ≠ 43 ∧ b ≠ 35 := by
  by_cases ha : (s[pos]'h).toNat < 128
  · rw [decode_ascii s pos h ha] at h1 h2 ⊢
    intro j hj1 hj2 b hb
    obtain rfl : j = pos := by simp at hj2; omega
    have hb2 : s[j]'h = b := by
      have := Lib.data_getElem? s j h
      rw [hb] at this; exact (Option.some.inj this).symm
    rw [hb2] at h1 h2
    exact ⟨fun e => h1 (by rw [e]; rfl), fun e => h2 (by rw [e]; rfl)⟩
  · have key : ∀ j, pos ≤ j → j < pos + (Utf8.decode s pos).2 → 128 ≤ (s.get! j).toNat := by
      have h0 : 128 ≤ (s.get! pos).toNat := by rw [get!_at s pos h]; omega
      have one : ∀ j, pos ≤ j → j < pos + 1 → 128 ≤ (s.get! j).toNat := fun j a b => by
        obtain rfl : j = pos := by omega
        exact h0
      simp only [Utf8.decode, Nat.add_zero]
      rw [if_neg (by omega)]
      split
      · rename_i hc
        simp only [Bool.and_eq_true, beq_iff_eq] at hc
        split
        · intro j a b
          obtain rfl | rfl : j = pos ∨ j = pos + 1 := by simp at b; omega
          · exact h0
          · omega
        · exact one
      · split
        · rename_i hc
          simp only [Bool.and_eq_true, beq_iff_eq] at hc
          split
          · intro j a b
            obtain rfl | rfl | rfl : j = pos ∨ j = pos + 1 ∨ j = pos + 2 := by simp at b; omega
            · exact h0
            · omega
            · omega
          · exact one
        · split
          · rename_i hc
            simp only [Bool.and_eq_true, beq_iff_eq] at hc
            split
            · intro j a b
              obtain rfl | rfl | rfl | rfl : j = pos ∨ j = pos + 1 ∨ j = pos + 2 ∨ j = pos + 3 := by simp at b; omega
              · exact h0
              · omega
              · omega
              · omega
            · exact one
          · exact one
    intro j hj1 hj2 b hb
    have hk := key j hj1 hj2
    have hjs : j < s.size := by
      have := (List.getElem?_eq_some_iff.1 hb).1
      simpa using this
    have hb2 : s.get! j = b := by
      rw [get!_at s j hjs]
      have := Lib.data_getElem? s j hjs
      rw [hb] at this; exact (Option.some.inj this).symm
    rw [hb2] at hk
    exact ⟨fun e => by rw [e] at hk; exact absurd hk (by decide), fun e => by rw [e] at hk; exact absurd hk (by decide)⟩
theorem decode_hit (s : ByteArray) (pos : Nat) (h : pos < s.size) (x : Nat) (h1 : (Utf8.decode s pos).1 = x) (hx : x < 128) : (s[pos]'h).toNat = x := by
  by_cases ha : (s[pos]'h).toNat < 128
  · rw [decode_ascii s pos h ha] at h1; exact h1
  · exfalso
    have h0 : 128 ≤ (s.get! pos).toNat := by rw [get!_at s pos h]; omega
    have : 128 ≤ (Utf8.decode s pos).1 := by
      simp only [Utf8.decode, Nat.add_zero]
      rw [if_neg (by omega)]
      repeat' split
      all_goals first | (simp [Utf8.runeError]; done) | (rename_i hc; simp at hc; simp; omega) | (rename_i hc _; simp at hc; simp; omega)
    omega

def NoWild (s : ByteArray) (i : Nat) : Prop := ∀ j, j < i → ∀ b, s.data.toList[j]? = some b → b ≠ 43 ∧ b ≠ 35
theorem NoWild.done {s : ByteArray} {i : Nat} (h : NoWild s i) (hi : s.size ≤ i) : wildIn s = false := by
  have key : ∀ x ∈ s.data.toList, x ≠ 43 ∧ x ≠ 35 := fun x hx => by
    obtain ⟨j, hj, hjx⟩ := List.getElem_of_mem hx
    exact h j (by have : j < s.size := by simpa using hj
                  omega) x (by rw [List.getElem?_eq_getElem hj, hjx])
  unfold wildIn
  rw [Bool.or_eq_false_iff]
  constructor <;> rw [Bool.eq_false_iff] <;> intro hc <;> rw [List.contains_iff_mem] at hc
  · exact (key _ hc).1 rfl
  · exact (key _ hc).2 rfl
theorem NoWild.skip {s : ByteArray} {pos : Nat} (h : NoWild s pos) (hp : pos < s.size) (h1 : (Utf8.decode s pos).1 ≠ 43) (h2 : (Utf8.decode s pos).1 ≠ 35) :
    NoWild s (pos + (Utf8.decode s pos).2) := fun j hj b hb => by
  by_cases hlt : j < pos
  · exact h j hlt b hb
  · exact decode_skip s pos hp h1 h2 j (by omega) hj b hb
theorem wild_hit (s : ByteArray) (pos : Nat) (h : pos < s.size) (h1 : (Utf8.decode s pos).1 = 43 ∨ (Utf8.decode s pos).1 = 35) : wildIn s = true := by
  have hm : (s[pos]'h) ∈ s.data.toList := by
    have := Lib.data_getElem? s pos h
    exact List.mem_of_getElem? this
  unfold wildIn
  rw [Bool.or_eq_true]
  rcases h1 with h1 | h1
  · left
    have := decode_hit s pos h 43 h1 (by decide)
    have e : s[pos]'h = 43 := UInt8.toNat_inj.1 (by rw [this]; rfl)
    rw [e] at hm; simpa using hm
  · right
    have := decode_hit s pos h 35 h1 (by decide)
    have e : s[pos]'h = 35 := UInt8.toNat_inj.1 (by rw [this]; rfl)
    rw [e] at hm; simpa using hm
def AnyRes (s : ByteArray) (e : Ending) : Prop := ∃ i : Int, e = .returned (.int .i64 i) ∧ decide (0 ≤ i) = wildIn s
theorem any_list (l : List UInt8) : decide (0 ≤ Lib.indexAny l [43, 35]) = (l.contains 43 || l.contains 35) := by
  induction l with
  | nil => rfl
  | cons b l ih =>
    have hg := Lib.indexAny_ge [43, 35] l
    have e0 : Lib.indexAny (b :: l) [43, 35] = if (b == 43 || b == 35) = true then 0 else if Lib.indexAny l [43, 35] == -1 then -1 else Lib.indexAny l [43, 35] + 1 := by
      rw [Lib.indexAny]; simp
    have e1 : ((b :: l).contains 43 || (b :: l).contains 35) = ((b == 43 || b == 35) || (l.contains 43 || l.contains 35)) := by
      rw [List.contains_cons, List.contains_cons, Bool.beq_comm (a := (43 : UInt8)), Bool.beq_comm (a := (35 : UInt8))]
      cases (b == 43) <;> cases (b == 35) <;> simp
    rw [e0, e1, ← ih]
    cases (b == 43 || b == 35)
    · by_cases h : Lib.indexAny l [43, 35] = -1
      · simp [h]
      · have : (Lib.indexAny l [43, 35] == -1) = false := by simp [h]
        rw [this]
        have a : 0 ≤ Lib.indexAny l [43, 35] := by omega
        simp only [Bool.false_eq_true, if_false, Bool.false_or]
        rw [decide_eq_true a, decide_eq_true (by omega)]
    · simp
set_option maxHeartbeats 4000000 in
set_option maxRecDepth 100000 in
theorem indexAny_short (s : ByteArray) (w : World) (h8 : s.size ≤ 8) :
    Calls Tryz.prog 157 #[.string s, .string ph] w fun e w' => AnyRes s e ∧ Below w.heap.size w w' := by
  have hemp : ph.toList.isEmpty = false := by rw [Lib.toList_data]; rfl
  have hn1 : ((ph.size : Int) == 1) = false := rfl
  have h8z : decide ((8 : Int) < (s.size : Int)) = false := decide_eq_false (by omega)
  have H8 := Aside0.mk h8z
  clear h8z
  go_enter Tryz.func157, Tryz.ntmps157
  go_wp2_with (go_at_call 172; refine (Tryz.strings_shouldUseASCIISet _ _).mono ?_; rintro e w' ⟨rfl, hw⟩; rw [hw, H8.out])
  go_loopg [9, 10] s.size (fun gf _ _ wx => ∃ pos : Nat, wx.heap[w.heap.size]? = some (.stringIter s pos) ∧ Below w.heap.size w wx ∧ Aside0 (NoWild s pos) ∧ s.size ≤ pos + gf)
  case atStart => exact ⟨0, World.iter_heap w s 0, (Below.refl _ w).alloc (Nat.le_refl _) _, ⟨fun j hj => absurd hj (by omega)⟩, by omega⟩
  case round =>
    obtain ⟨pos, hit, hbw, hno, hfu⟩ := hrel
    by_cases hps : pos < s.size
    · obtain ⟨g', rfl⟩ : ∃ g', gk = g' + 1 := ⟨gk - 1, by omega⟩
      have hnx : ∀ ty, (Instr.next (.pointer (some ⟨w.heap.size, 0, none⟩)) true ty).run Tryz.prog wr = _ := fun ty => Lib.run_next_any_at wr w.heap.size s pos ty hit hps
      have hwd := width_pos s pos hps
      have hskip := Aside0.mk (hno.out.skip hps)
      have hhit := Aside0.mk (wild_hit s pos hps)
      obtain ⟨R, hR⟩ : ∃ R, (Utf8.decode s pos).1 = R := ⟨_, rfl⟩
      obtain ⟨K, hK⟩ : ∃ K, (Utf8.decode s pos).2 = K := ⟨_, rfl⟩
      have hRl : R < 2097152 := by rw [← hR]; exact decode_lt s pos
      rw [hR, hK] at hnx hskip
      rw [hR] at hhit
      rw [hK] at hwd
      have hit2 := Lib.iterAt_heap wr w.heap.size s pos (pos + K) hit
      have hbw2 := Lib.below_iterAt hbw (k := w.heap.size) (Nat.le_refl _) s (pos + K)
      obtain ⟨W, hWd⟩ : ∃ W, wr.iterAt w.heap.size s (pos + K) = W := ⟨_, rfl⟩
      rw [hWd] at hnx hit2 hbw2
      have hltW : w.heap.size < W.heap.size := (Array.getElem?_eq_some_iff.1 hit2).1
      have cS := indexRune_any R W hRl
      clear hno hR hK hWd hit hbw
      by_cases h43 : R = 43 ∨ R = 35
      · have hw := hhit.out h43
        obtain ⟨z, hz, hz2⟩ : ∃ z : Int, (if R = 43 then (0 : Int) else if R = 35 then 1 else -1) = z ∧ 0 ≤ z := ⟨_, rfl, by split <;> (try split) <;> omega⟩
        rw [hz] at cS
        have Hw := Aside0.mk hw
        clear hw hz hhit hskip h43
        have hz3 : decide (0 ≤ z) = true := decide_eq_true hz2
        go_wp2_with (go_at_call 171; refine cS.mono ?_; rintro e W' ⟨rfl, hbc⟩)
        go_ret
        exact ⟨⟨_, rfl, by rw [Hw.out]; simp⟩, (hbw2.trans (hbc.mono hbw2.size))⟩
      · have hn := hskip.out (fun e => h43 (.inl e)) (fun e => h43 (.inr e))
        have hz : (if R = 43 then (0 : Int) else if R = 35 then 1 else -1) = -1 := by rw [if_neg (fun e => h43 (.inl e)), if_neg (fun e => h43 (.inr e))]
        rw [hz] at cS
        have Hn := Aside0.mk hn
        clear hn hz hhit hskip h43
        go_wp2_with (go_at_call 171; refine cS.mono ?_; rintro e W' ⟨rfl, hbc⟩)
        go_roundg g'
        case measure => omega
        case rel => exact ⟨pos + K, (hbc.block _ hltW).trans hit2, (hbw2.trans (hbc.mono hbw2.size)), Hn, by omega⟩
    · have hnx : ∀ ty, (Instr.next (.pointer (some ⟨w.heap.size, 0, none⟩)) true ty).run Tryz.prog wr = _ := fun ty => Lib.run_next_end_at wr w.heap.size s pos ty hit hps
      have hd := hno.out.done (by omega)
      have Hd := Aside0.mk hd
      clear hd hno
      go_wp2
      go_ret
      exact ⟨⟨_, rfl, by rw [Hd.out]; simp⟩, hbw⟩

theorem indexAny_ph (s : ByteArray) (w : World) (hs : s.size < 4294967281) :
    Calls Tryz.prog 157 #[.string s, .string ph] w fun e w' => AnyRes s e ∧ Below w.heap.size w w' := by
  by_cases h8 : s.size ≤ 8
  · exact indexAny_short s w h8
  · have hp : ph.data.toList = [43, 35] := rfl
    have hpz : ph.size = 2 := rfl
    have hi := Tryz.strings_IndexAny_long (zero_of_info (P := Tryz.prog) (t := 160) (n := 256) (by kernel_rfl)).1 s ph w (by rw [hpz]; omega) (by omega) hs (by rw [hpz]; omega) (by
      intro j b hb
      rw [hp] at hb
      rcases j with _ | _ | j
      · simp at hb; subst hb; decide
      · simp at hb; subst hb; decide
      · simp at hb)
    refine hi.mono fun e w' ⟨he, hw⟩ => ⟨⟨_, he, ?_⟩, by rw [hw]; exact ((Below.refl _ _).alloc (Nat.le_refl _) _).alloc (by simp) _⟩
    rw [hp]; exact any_list _

def strings_ContainsAny.f (a0 a1 : ByteArray) : Option Bool := if a1 = ph then (if a0.size < 4294967281 then some (wildIn a0) else none) else none
set_option maxHeartbeats 4000000 in
set_option maxRecDepth 100000 in
theorem strings_ContainsAny.calls (a0 : ByteArray) (a1 : ByteArray) (r : Bool) (w : World) (h : strings_ContainsAny.f a0 a1 = some r) :
    Calls Tryz.prog 138 #[.string a0, .string a1] w fun e w' => e = .returned (.bool r) ∧ Below w.heap.size w w' := by
  unfold strings_ContainsAny.f at h
  by_cases h1 : a1 = ph
  · subst h1
    rw [if_pos rfl] at h
    by_cases h2 : a0.size < 4294967281
    · rw [if_pos h2] at h
      have hr := Option.some.inj h
      have c := indexAny_ph a0 w h2
      have Hr := Aside0.mk hr
      clear h hr
      go_enter Tryz.func138, Tryz.ntmps138
      go_wp2_with (go_at_call 157; refine c.mono ?_; rintro e w' ⟨⟨i, rfl, hi⟩, hb⟩; have Hi := Aside0.mk hi; clear hi)
      go_ret
      exact ⟨by rw [← Hr.out, ← Hi.out]; rfl, hb⟩
    · rw [if_neg h2] at h; exact absurd h (by simp)
  · rw [if_neg h1] at h; exact absurd h (by simp)
end Go.Proofs.YtngmipfobcaojaaGreat.HA
end

-- YtngmipfobcaojaaGreatHA26
section
namespace Go.Proofs.YtngmipfobcaojaaGreat.HA
open Go.RowKit Go.Proofs.YtngmipfobcaojaaGreatW.PrintWords Go.Proofs.YtngmipfobcaojaaGreatW.PrintLast Go.Proofs.YtngmipfobcaojaaGreatW.PrintMore
attribute [local go_sem] q1k q1j q1s q1t q1a q19 q1h q1i

def topic_Name.f (a0 : ByteArray) : Option (Bool) := (topic_text.f a0).bind fun t110 => (if t110 = true then ((strings_ContainsAny.f a0 (⟨#[43, 35]⟩ : ByteArray)).bind fun t111 => (some (!t111))) else (some false))
theorem z45_0 {p : Prop} (h : p := by repeat (first | (with_reducible first | exact HB.out | apply qg | apply qa | apply qi) | exact HB.out)) : p := h
theorem z45_1 {p : Prop} (h : p := by (try simp only [List.map_toArray, List.map_cons, List.map_nil]); first | done | rfl | (simp only [List.length_drop, List.length_take]; rfl)) : p := h
set_option maxHeartbeats 8000000 in
set_option maxRecDepth 100000 in
theorem topic_Name.calls (a0 : ByteArray) (r : Bool) (w : World) (h : topic_Name.f a0 = some r) :
  Calls Tryz.prog 101 #[.string a0] w fun e w' => e = .returned (.bool r) ∧ Below w.heap.size w w' := by
 have HB := Aside0.mk (Below.refl w.heap.size w)
 have H : ((topic_text.f a0).bind fun t110 => (if t110 = true then ((strings_ContainsAny.f a0 (⟨#[43, 35]⟩ : ByteArray)).bind fun t111 => (some (!t111))) else (some false))) = some r := h
 clear h
 replace H := Option.bind_eq_some_iff.mp H
 obtain ⟨t110, A20, H⟩ := H
 replace H : (if t110 = true then ((strings_ContainsAny.f a0 (⟨#[43, 35]⟩ : ByteArray)).bind fun t111 => (some (!t111))) else (some false)) = some r := H
 have A2 := Aside0.mk A20
 clear A20
 by_cases c3 : t110 = true
 ·subst c3
  rw [if_pos rfl] at H
  replace H := Option.bind_eq_some_iff.mp H
  obtain ⟨t111, A40, H⟩ := H
  replace H : (some (!t111)) = some r := H
  have A4 := Aside0.mk A40
  clear A40
  obtain rfl := Option.some.inj H
  go_enter Tryz.func101, Tryz.ntmps101
  go_wp2_with (first | ((with_reducible refine ql (f := 137) rfl ?_); refine q1b (some 4) rfl rfl Tryz.func137 (by kernel_rfl) rfl #[.string a0] rfl z45_1 ?_; (with_reducible refine (topic_text.calls a0 true _ A2.out).mono ?_); rintro e w5 ⟨rfl, hb⟩; refine ⟨_, rfl, ?_⟩; have n0_ := Aside0.mk (qe z45_0 hb); clear HB; have HB := n0_; clear n0_; (try clear hb); (try clear hb2); (try clear hk); (try clear hi)) | (go_at_call 138; (with_reducible refine (strings_ContainsAny.calls a0 (⟨#[43, 35]⟩ : ByteArray) t111 _ A4.out).mono ?_); rintro e w6 ⟨rfl, hb⟩; have n0_ := Aside0.mk (qe z45_0 hb); clear HB; have HB := n0_; clear n0_; (try clear hb); (try clear hb2); (try clear hk); (try clear hi)))
  go_ret
  exact ⟨(by first | rfl | (simp [qq, qp] <;> rfl) | (simp [*, qq, qp] <;> rfl)), z45_0⟩
 replace c3 := Bool.eq_false_iff.mpr c3
 subst c3
 rw [if_neg (show ¬ (false = true) by decide)] at H
 obtain rfl := Option.some.inj H
 go_enter Tryz.func101, Tryz.ntmps101
 go_wp2_with (first | ((with_reducible refine ql (f := 137) rfl ?_); refine q1b (some 4) rfl rfl Tryz.func137 (by kernel_rfl) rfl #[.string a0] rfl z45_1 ?_; (with_reducible refine (topic_text.calls a0 false _ A2.out).mono ?_); rintro e w7 ⟨rfl, hb⟩; refine ⟨_, rfl, ?_⟩; have n0_ := Aside0.mk (qe z45_0 hb); clear HB; have HB := n0_; clear n0_; (try clear hb); (try clear hb2); (try clear hk); (try clear hi)))
 go_ret
 exact ⟨(by first | rfl | (simp [qq, qp] <;> rfl) | (simp [*, qq, qp] <;> rfl)), z45_0⟩

end Go.Proofs.YtngmipfobcaojaaGreat.HA
end

-- YtngmipfobcaojaaGreatHA9
section
namespace Go.Proofs.YtngmipfobcaojaaGreat.HA
open Go.RowKit Go.Proofs.YtngmipfobcaojaaGreatW.PrintWords Go.Proofs.YtngmipfobcaojaaGreatW.PrintLast Go.Proofs.YtngmipfobcaojaaGreatW.PrintMore
attribute [local go_sem] q1k q1j q1s q1t q1a q19 q1h q1i

def prop_checkNumber.j0 : Nat → Bool → Int → Int → Int → Int → Int → Int → ByteArray → ByteArray → Option (Int)
 | 0, _, _, _, _, _, _, _, _, _ => none
 | k + 1, x12, x107000, x107001, x107002, x107003, x108000, x108001, x108002, x108003 => if x12 = true then (some 2) else (if x108001 < x107002 then (some 9) else (if x108001 > x107003 then (some 9) else (some 0)))
def prop_checkNumber.f (k : Nat) (a0_0 : Int) (a0_1 : Int) (a0_2 : Int) (a0_3 : Int) (a1_0 : Int) (a1_1 : Int) (a1_2 : ByteArray) (a1_3 : ByteArray) : Option (Int) := if a1_2.toList = ([] : List UInt8) then (prop_checkNumber.j0 k (a1_3.toList != ([] : List UInt8)) a0_0 a0_1 a0_2 a0_3 a1_0 a1_1 a1_2 a1_3) else (prop_checkNumber.j0 k true a0_0 a0_1 a0_2 a0_3 a1_0 a1_1 a1_2 a1_3)
theorem z46_0 {p : Prop} (h : p := by repeat (first | (with_reducible first | exact HB.out | apply qg | apply qa | apply qi | refine qw ?_ GE106.out | refine qw ?_ GE107.out) | exact HB.out)) : p := h
theorem z46_1 {p : Prop} (h : p := by (with_reducible repeat (first | refine qd ?_ _ | refine qf ?_ | refine qc ?_ _)); exact BK106.out) : p := h
theorem z46_2 {p : Prop} (h : p := by first | rfl | (simp [qq, qp] <;> rfl) | (simp [*, qq, qp] <;> rfl)) : p := h
theorem z46_3 {p : Prop} (h : p := by repeat (first | (with_reducible first | exact HB.out | apply qg | apply qa | apply qi) | exact HB.out)) : p := h
theorem z46_4 {p : Prop} (h : p := by repeat (first | (with_reducible first | exact HB.out | apply qg | apply qa | apply qi | refine qw ?_ GE106.out) | exact HB.out)) : p := h
theorem z46_5 {p : Prop} (h : p := by first | rfl | (simp; done) | (simp [*]; done) | (simp; exact qh _) | exact qh _ | (simp; exact (qh _).symm) | (simp; exact q15 _)) : p := h
theorem z46_6 {p : Prop} (h : p := by (with_reducible repeat (first | refine qd ?_ _ | refine qf ?_ | refine qc ?_ _)); exact BK107.out) : p := h
set_option maxHeartbeats 8000000 in
set_option maxRecDepth 100000 in
theorem prop_checkNumber.calls (k : Nat) (a0_0 : Int) (a0_1 : Int) (a0_2 : Int) (a0_3 : Int) (a1_0 : Int) (a1_1 : Int) (a1_2 : ByteArray) (a1_3 : ByteArray) (r : Int) (w : World) (h : prop_checkNumber.f k a0_0 a0_1 a0_2 a0_3 a1_0 a1_1 a1_2 a1_3 = some r) :
  Calls Tryz.prog 99 #[.agg #[.int .i64 a0_0, .int .i64 a0_1, .int .u32 a0_2, .int .u32 a0_3], .agg #[.int .i64 a1_0, .int .u32 a1_1, .string a1_2, .string a1_3]] w fun e w' => e = .returned (.int .i64 r) ∧ Below w.heap.size w w' := by
 have hu67 := Tryz.underlying67
 have hu24 := Tryz.underlying24
 have HB := Aside0.mk (Below.refl w.heap.size w)
 have H : (if a1_2.toList = ([] : List UInt8) then (prop_checkNumber.j0 k (a1_3.toList != ([] : List UInt8)) a0_0 a0_1 a0_2 a0_3 a1_0 a1_1 a1_2 a1_3) else (prop_checkNumber.j0 k true a0_0 a0_1 a0_2 a0_3 a1_0 a1_1 a1_2 a1_3)) = some r := h
 clear h
 have HC3 := Aside0.mk H
 clear H
 go_enter Tryz.func99, Tryz.ntmps99
 go_upto_region 1 with (first | ((with_reducible refine q1c (N := 2) rfl ?_); refine q1r ?hg (N := 2) ?hd (cs := #[.int .i64 a0_0, .int .i64 a0_1, .int .u32 a0_2, .int .u32 a0_3]) (t := 67) ?hr ?_; (case hd => rfl); (case hg => rfl); (case hr => first | (go_simp; done) | (go_simp; rfl)); intro gb106 hg w4 hbox hb; have n0_ := Aside0.mk (qe z46_3 hb); have n1_ := Aside0.mk (hbox); have n2_ := Aside0.mk ((by rw [hg]; exact (qm z46_3) : w.heap.size ≤ gb106)); have n3_ := Aside0.mk ((by rw [hg]; exact (qm z46_3) : w.heap.size ≤ gb106)); clear HB; have HB := n0_; have BK106 := n1_; have GW106 := n2_; have GE106 := n3_; clear n0_ n1_ n2_ n3_; clear hb hbox hg) | ((with_reducible refine q1c (N := 3) rfl ?_); refine q1r ?hg (N := 3) ?hd (cs := #[.int .i64 a1_0, .int .u32 a1_1, .string a1_2, .string a1_3]) (t := 24) ?hr ?_; (case hd => rfl); (case hg => rfl); (case hr => first | (go_simp; done) | (go_simp; rfl)); intro gb107 hg w5 hbox hb; have n0_ := Aside0.mk (qo (g := gb106) (o := .cells #[.int .i64 a0_0, .int .i64 a0_1, .int .u32 a0_2, .int .u32 a0_3] 67 (0, 0)) z46_1 hb); have n1_ := Aside0.mk (qe z46_4 hb); have n2_ := Aside0.mk (hbox); have n3_ := Aside0.mk ((by rw [hg]; exact (qm z46_4) : w.heap.size ≤ gb107)); have n4_ := Aside0.mk ((by rw [hg]; exact (qm z46_4) : w.heap.size ≤ gb107)); have n5_ := Aside0.mk ((by rw [hg]; exact Nat.ne_of_lt (blk_lt (g := gb106) (o := .cells #[.int .i64 a0_0, .int .i64 a0_1, .int .u32 a0_2, .int .u32 a0_3] 67 (0, 0)) z46_1) : gb106 ≠ gb107)); have n6_ := Aside0.mk ((by rw [hg]; exact Nat.ne_of_gt (blk_lt (g := gb106) (o := .cells #[.int .i64 a0_0, .int .i64 a0_1, .int .u32 a0_2, .int .u32 a0_3] 67 (0, 0)) z46_1) : gb107 ≠ gb106)); clear BK106; clear HB; have BK106 := n0_; have HB := n1_; have BK107 := n2_; have GW107 := n3_; have GE107 := n4_; have NB106_107 := n5_; have NB107_106 := n6_; clear n0_ n1_ n2_ n3_ n4_ n5_ n6_; clear hb hbox hg))
 (try simp only [Act.put, List.setIfInBounds_toArray, List.set_cons_zero, List.set_cons_succ])
 go_cut [12] (fun v12 wc => ∃ (kq : Nat) (x12_2 : Bool), v12 = .bool x12_2 ∧ Aside0 (prop_checkNumber.j0 kq x12_2 a0_0 a0_1 a0_2 a0_3 a1_0 a1_1 a1_2 a1_3 = some r) ∧ Aside0 (kq ≤ k) ∧ Aside0 (wc.heap[gb106]? = some (.cells #[.int .i64 a0_0, .int .i64 a0_1, .int .u32 a0_2, .int .u32 a0_3] 67 (0, 0))) ∧ Aside0 (wc.heap[gb107]? = some (.cells #[.int .i64 a1_0, .int .u32 a1_1, .string a1_2, .string a1_3] 24 (0, 0))) ∧ Aside0 (Below w.heap.size w wc))
 case first =>
  have H := HC3.out
  clear HC3
  by_cases c6 : a1_2.toList = ([] : List UInt8)
  ·rw [if_pos c6] at H
   have c6b0 : (a1_2.toList == ([] : List UInt8)) = true := beq_iff_eq.mpr c6
   have c6b1 : (a1_2.toList != ([] : List UInt8)) = false := bne_eq_false_iff_eq.mpr c6
   clear c6
   (first | rw [c6b0] | (simp only [i64_w, i32_w]; rw [c6b0]) | skip)
   have H' := Aside0.mk H
   clear H
   have hnb7 := NB107_106.out
   have hnc7 := NB106_107.out
   have hcz8_0 := zbc BK107 0 (.int .i64 a1_0)
   have hcz8_1 := zbc BK107 1 (.int .u32 a1_1)
   have hcz8_2 := zbc BK107 2 (.string a1_2)
   have hcz8_3 := zbc BK107 3 (.string a1_3)
   have hfz8_0 := q9 BK107.out 0
   have hfz8_1 := q9 BK107.out 1
   have hfz8_2 := q9 BK107.out 2
   have hfz8_3 := q9 BK107.out 3
   go_wp2
   go_meet
   case rel => exact ⟨_, ((a1_3.toList != ([] : List UInt8))), z46_5, H', ⟨(by first | omega | exact Nat.le_refl _)⟩, ⟨z46_1⟩, ⟨z46_6⟩, ⟨z46_0⟩⟩
  rw [if_neg c6] at H
  have c6b0 : (a1_2.toList == ([] : List UInt8)) = false := beq_eq_false_iff_ne.mpr c6
  have c6b1 : (a1_2.toList != ([] : List UInt8)) = true := bne_iff_ne.mpr c6
  (first | rw [c6b0] | (simp only [i64_w, i32_w]; rw [c6b0]) | skip)
  have H' := Aside0.mk H
  clear H
  have hnb9 := NB107_106.out
  have hnc9 := NB106_107.out
  have hcz10_0 := zbc BK107 0 (.int .i64 a1_0)
  have hcz10_1 := zbc BK107 1 (.int .u32 a1_1)
  have hcz10_2 := zbc BK107 2 (.string a1_2)
  have hcz10_3 := zbc BK107 3 (.string a1_3)
  have hfz10_0 := q9 BK107.out 0
  have hfz10_1 := q9 BK107.out 1
  have hfz10_2 := q9 BK107.out 2
  have hfz10_3 := q9 BK107.out 3
  go_wp2
  go_meet
  case rel => exact ⟨_, (true), z46_5, H', ⟨(by first | omega | exact Nat.le_refl _)⟩, ⟨z46_1⟩, ⟨z46_6⟩, ⟨z46_0⟩⟩
 case rest =>
  clear HC3
  obtain ⟨kq, x12_2, rfl, HA, HJ2, BK106, BK107, HB⟩ := hcut
  cases kq with
  | zero => exact absurd HA.out (by simp [prop_checkNumber.j0])
  | succ kj2 =>
   have H := HA.out
   clear HA
   simp only [prop_checkNumber.j0] at H
   by_cases c11 : x12_2 = true
   ·subst c11
    rw [if_pos rfl] at H
    obtain rfl := Option.some.inj H
    go_wp2
    go_ret
    exact ⟨z46_2, z46_0⟩
   replace c11 := Bool.eq_false_iff.mpr c11
   subst c11
   rw [if_neg (show ¬ (false = true) by decide)] at H
   by_cases c12 : a1_1 < a0_2
   ·rw [if_pos c12] at H
    have c12b0 : decide (a1_1 < a0_2) = true := decide_eq_true c12
    clear c12
    obtain rfl := Option.some.inj H
    have hnb13 := NB107_106.out
    have hnc13 := NB106_107.out
    have hcz14_0 := zbc BK107 0 (.int .i64 a1_0)
    have hcz14_1 := zbc BK107 1 (.int .u32 a1_1)
    have hcz14_2 := zbc BK107 2 (.string a1_2)
    have hcz14_3 := zbc BK107 3 (.string a1_3)
    have hfz14_0 := q9 BK107.out 0
    have hfz14_1 := q9 BK107.out 1
    have hfz14_2 := q9 BK107.out 2
    have hfz14_3 := q9 BK107.out 3
    have hcz15_0 := zbc BK106 0 (.int .i64 a0_0)
    have hcz15_1 := zbc BK106 1 (.int .i64 a0_1)
    have hcz15_2 := zbc BK106 2 (.int .u32 a0_2)
    have hcz15_3 := zbc BK106 3 (.int .u32 a0_3)
    have hfz15_0 := q9 BK106.out 0
    have hfz15_1 := q9 BK106.out 1
    have hfz15_2 := q9 BK106.out 2
    have hfz15_3 := q9 BK106.out 3
    go_wp2
    go_ret
    exact ⟨z46_2, z46_0⟩
   rw [if_neg c12] at H
   have c12b0 : decide (a1_1 < a0_2) = false := decide_eq_false c12
   clear c12
   by_cases c16 : a1_1 > a0_3
   ·rw [if_pos c16] at H
    have c16b0 : decide (a0_3 < a1_1) = true := decide_eq_true c16
    clear c16
    obtain rfl := Option.some.inj H
    have hnb17 := NB107_106.out
    have hnc17 := NB106_107.out
    have hcz18_0 := zbc BK107 0 (.int .i64 a1_0)
    have hcz18_1 := zbc BK107 1 (.int .u32 a1_1)
    have hcz18_2 := zbc BK107 2 (.string a1_2)
    have hcz18_3 := zbc BK107 3 (.string a1_3)
    have hfz18_0 := q9 BK107.out 0
    have hfz18_1 := q9 BK107.out 1
    have hfz18_2 := q9 BK107.out 2
    have hfz18_3 := q9 BK107.out 3
    have hcz19_0 := zbc BK106 0 (.int .i64 a0_0)
    have hcz19_1 := zbc BK106 1 (.int .i64 a0_1)
    have hcz19_2 := zbc BK106 2 (.int .u32 a0_2)
    have hcz19_3 := zbc BK106 3 (.int .u32 a0_3)
    have hfz19_0 := q9 BK106.out 0
    have hfz19_1 := q9 BK106.out 1
    have hfz19_2 := q9 BK106.out 2
    have hfz19_3 := q9 BK106.out 3
    go_wp2
    go_ret
    exact ⟨z46_2, z46_0⟩
   rw [if_neg c16] at H
   have c16b0 : decide (a0_3 < a1_1) = false := decide_eq_false c16
   clear c16
   obtain rfl := Option.some.inj H
   have hnb20 := NB107_106.out
   have hnc20 := NB106_107.out
   have hcz21_0 := zbc BK107 0 (.int .i64 a1_0)
   have hcz21_1 := zbc BK107 1 (.int .u32 a1_1)
   have hcz21_2 := zbc BK107 2 (.string a1_2)
   have hcz21_3 := zbc BK107 3 (.string a1_3)
   have hfz21_0 := q9 BK107.out 0
   have hfz21_1 := q9 BK107.out 1
   have hfz21_2 := q9 BK107.out 2
   have hfz21_3 := q9 BK107.out 3
   have hcz22_0 := zbc BK106 0 (.int .i64 a0_0)
   have hcz22_1 := zbc BK106 1 (.int .i64 a0_1)
   have hcz22_2 := zbc BK106 2 (.int .u32 a0_2)
   have hcz22_3 := zbc BK106 3 (.int .u32 a0_3)
   have hfz22_0 := q9 BK106.out 0
   have hfz22_1 := q9 BK106.out 1
   have hfz22_2 := q9 BK106.out 2
   have hfz22_3 := q9 BK106.out 3
   go_wp2
   go_ret
   exact ⟨z46_2, z46_0⟩

end Go.Proofs.YtngmipfobcaojaaGreat.HA
end

-- YtngmipfobcaojaaGreatHA27
section
namespace Go.Proofs.YtngmipfobcaojaaGreat.HA
open Go.RowKit Go.Proofs.YtngmipfobcaojaaGreatW.PrintWords Go.Proofs.YtngmipfobcaojaaGreatW.PrintLast Go.Proofs.YtngmipfobcaojaaGreatW.PrintMore
attribute [local go_sem] q1k q1j q1s q1t q1a q19 q1h q1i

mutual
def prop_check.j0 : Nat → Bool → Int → Int → Int → Int → Int → Int → ByteArray → ByteArray → Option (Int)
 | 0, _, _, _, _, _, _, _, _, _ => none
 | k + 1, x19, x113000, x113001, x113002, x113003, x114000, x114001, x114002, x114003 => if x19 = true then (some 2) else (if x113000 = 6 then (if (x114002.size : Int) > 65535 then (some 2) else (some 0)) else ((ustring_Valid.f x114002).bind fun t116 => (if t116 = true then ((ustring_Valid.f x114003).bind fun t117 => (prop_check.j1 k (!t117) x114000 x114001 x114002 x114003)) else (prop_check.j1 k true x114000 x114001 x114002 x114003))))
def prop_check.j1 : Nat → Bool → Int → Int → ByteArray → ByteArray → Option (Int)
 | 0, _, _, _, _, _ => none
 | k + 1, x41, x114000, x114001, x114002, x114003 => if x41 = true then (some 6) else (if x114000 = 8 then ((topic_Name.f x114002).bind fun t118 => (if t118 = true then (some 0) else (some 9))) else (some 0))
end
def prop_check.f (k : Nat) (a0_0 : Int) (a0_1 : Int) (a0_2 : Int) (a0_3 : Int) (a1 : Int) (a2_0 : Int) (a2_1 : Int) (a2_2 : ByteArray) (a2_3 : ByteArray) : Option (Int) := (prop_rule_has.f a0_0 a0_1 a0_2 a0_3 a1).bind fun t114 => (if t114 = true then (if a0_0 ≤ 4 then ((prop_checkNumber.f k a0_0 a0_1 a0_2 a0_3 a2_0 a2_1 a2_2 a2_3).bind fun t115 => (some t115)) else (if a2_1 = 0 then (if a2_3.toList = ([] : List UInt8) then (prop_check.j0 k false a0_0 a0_1 a0_2 a0_3 a2_0 a2_1 a2_2 a2_3) else (prop_check.j0 k (a0_0 != 7) a0_0 a0_1 a0_2 a0_3 a2_0 a2_1 a2_2 a2_3)) else (prop_check.j0 k true a0_0 a0_1 a0_2 a0_3 a2_0 a2_1 a2_2 a2_3))) else (some 9))
theorem z47_0 {p : Prop} (h : p := by (with_reducible repeat (first | refine qd ?_ _ | refine qf ?_ | refine qc ?_ _)); exact BK112.out) : p := h
theorem z47_1 {p : Prop} (h : p := by repeat (first | (with_reducible first | exact HB.out | apply qg | apply qa | apply qi | refine qw ?_ GE112.out | refine qw ?_ GE113.out) | exact HB.out)) : p := h
theorem z47_2 {p : Prop} (h : p := by (with_reducible repeat (first | refine qd ?_ _ | refine qf ?_ | refine qc ?_ _)); exact BK113.out) : p := h
theorem z47_3 {p : Prop} (h : p := by repeat (first | (with_reducible first | exact HB.out | apply qg | apply qa | apply qi) | exact HB.out)) : p := h
theorem z47_4 {p : Prop} (h : p := by repeat (first | (with_reducible first | exact HB.out | apply qg | apply qa | apply qi | refine qw ?_ GE112.out) | exact HB.out)) : p := h
theorem z47_5 {p : Prop} (h : p := by first | rfl | (simp [qq, qp] <;> rfl) | (simp [*, qq, qp] <;> rfl)) : p := h
theorem z47_6 {p : Prop} (h : p := by (try simp only [List.map_toArray, List.map_cons, List.map_nil]); first | done | rfl | (simp only [List.length_drop, List.length_take]; rfl)) : p := h
theorem z47_7 {p : Prop} (h : p := by first | rfl | (simp; done) | (simp [*]; done) | (simp; exact qh _) | exact qh _ | (simp; exact (qh _).symm) | (simp; exact q15 _)) : p := h
set_option maxHeartbeats 8000000 in
set_option maxRecDepth 100000 in
theorem prop_check.calls (k : Nat) (a0_0 : Int) (a0_1 : Int) (a0_2 : Int) (a0_3 : Int) (a1 : Int) (a2_0 : Int) (a2_1 : Int) (a2_2 : ByteArray) (a2_3 : ByteArray) (r : Int) (w : World) (h : prop_check.f k a0_0 a0_1 a0_2 a0_3 a1 a2_0 a2_1 a2_2 a2_3 = some r) :
  Calls Tryz.prog 46 #[.agg #[.int .i64 a0_0, .int .i64 a0_1, .int .u32 a0_2, .int .u32 a0_3], .int .i64 a1, .agg #[.int .i64 a2_0, .int .u32 a2_1, .string a2_2, .string a2_3]] w fun e w' => e = .returned (.int .i64 r) ∧ Below w.heap.size w w' := by
 have hu67 := Tryz.underlying67
 have hu24 := Tryz.underlying24
 have HB := Aside0.mk (Below.refl w.heap.size w)
 have H : ((prop_rule_has.f a0_0 a0_1 a0_2 a0_3 a1).bind fun t114 => (if t114 = true then (if a0_0 ≤ 4 then ((prop_checkNumber.f k a0_0 a0_1 a0_2 a0_3 a2_0 a2_1 a2_2 a2_3).bind fun t115 => (some t115)) else (if a2_1 = 0 then (if a2_3.toList = ([] : List UInt8) then (prop_check.j0 k false a0_0 a0_1 a0_2 a0_3 a2_0 a2_1 a2_2 a2_3) else (prop_check.j0 k (a0_0 != 7) a0_0 a0_1 a0_2 a0_3 a2_0 a2_1 a2_2 a2_3)) else (prop_check.j0 k true a0_0 a0_1 a0_2 a0_3 a2_0 a2_1 a2_2 a2_3))) else (some 9))) = some r := h
 clear h
 replace H := Option.bind_eq_some_iff.mp H
 obtain ⟨t114, A40, H⟩ := H
 replace H : (if t114 = true then (if a0_0 ≤ 4 then ((prop_checkNumber.f k a0_0 a0_1 a0_2 a0_3 a2_0 a2_1 a2_2 a2_3).bind fun t115 => (some t115)) else (if a2_1 = 0 then (if a2_3.toList = ([] : List UInt8) then (prop_check.j0 k false a0_0 a0_1 a0_2 a0_3 a2_0 a2_1 a2_2 a2_3) else (prop_check.j0 k (a0_0 != 7) a0_0 a0_1 a0_2 a0_3 a2_0 a2_1 a2_2 a2_3)) else (prop_check.j0 k true a0_0 a0_1 a0_2 a0_3 a2_0 a2_1 a2_2 a2_3))) else (some 9)) = some r := H
 have A4 := Aside0.mk A40
 clear A40
 by_cases c5 : t114 = true
 ·subst c5
  rw [if_pos rfl] at H
  by_cases c6 : a0_0 ≤ 4
  ·rw [if_pos c6] at H
   have c6b0 : decide (a0_0 ≤ 4) = true := decide_eq_true c6
   clear c6
   replace H := Option.bind_eq_some_iff.mp H
   obtain ⟨t115, A70, H⟩ := H
   replace H : (some t115) = some r := H
   have A7 := Aside0.mk A70
   clear A70
   obtain rfl := Option.some.inj H
   go_enter Tryz.func46, Tryz.ntmps46
   go_wp2_with (first | ((with_reducible refine q1c (N := 3) rfl ?_); refine q1r ?hg (N := 3) ?hd (cs := #[.int .i64 a0_0, .int .i64 a0_1, .int .u32 a0_2, .int .u32 a0_3]) (t := 67) ?hr ?_; (case hd => rfl); (case hg => rfl); (case hr => first | (go_simp; done) | (go_simp; rfl)); intro gb112 hg w8 hbox hb; have n0_ := Aside0.mk (qe z47_3 hb); have n1_ := Aside0.mk (hbox); have n2_ := Aside0.mk ((by rw [hg]; exact (qm z47_3) : w.heap.size ≤ gb112)); have n3_ := Aside0.mk ((by rw [hg]; exact (qm z47_3) : w.heap.size ≤ gb112)); clear HB; have HB := n0_; have BK112 := n1_; have GW112 := n2_; have GE112 := n3_; clear n0_ n1_ n2_ n3_; clear hb hbox hg) | ((with_reducible refine q1c (N := 5) rfl ?_); refine q1r ?hg (N := 5) ?hd (cs := #[.int .i64 a2_0, .int .u32 a2_1, .string a2_2, .string a2_3]) (t := 24) ?hr ?_; (case hd => rfl); (case hg => rfl); (case hr => first | (go_simp; done) | (go_simp; rfl)); intro gb113 hg w9 hbox hb; have n0_ := Aside0.mk (qo (g := gb112) (o := .cells #[.int .i64 a0_0, .int .i64 a0_1, .int .u32 a0_2, .int .u32 a0_3] 67 (0, 0)) z47_0 hb); have n1_ := Aside0.mk (qe z47_4 hb); have n2_ := Aside0.mk (hbox); have n3_ := Aside0.mk ((by rw [hg]; exact (qm z47_4) : w.heap.size ≤ gb113)); have n4_ := Aside0.mk ((by rw [hg]; exact (qm z47_4) : w.heap.size ≤ gb113)); have n5_ := Aside0.mk ((by rw [hg]; exact Nat.ne_of_lt (blk_lt (g := gb112) (o := .cells #[.int .i64 a0_0, .int .i64 a0_1, .int .u32 a0_2, .int .u32 a0_3] 67 (0, 0)) z47_0) : gb112 ≠ gb113)); have n6_ := Aside0.mk ((by rw [hg]; exact Nat.ne_of_gt (blk_lt (g := gb112) (o := .cells #[.int .i64 a0_0, .int .i64 a0_1, .int .u32 a0_2, .int .u32 a0_3] 67 (0, 0)) z47_0) : gb113 ≠ gb112)); clear BK112; clear HB; have BK112 := n0_; have HB := n1_; have BK113 := n2_; have GW113 := n3_; have GE113 := n4_; have NB112_113 := n5_; have NB113_112 := n6_; clear n0_ n1_ n2_ n3_ n4_ n5_ n6_; clear hb hbox hg; have hnb10 := NB112_113.out; have hnc10 := NB113_112.out; have hcz11_0 := zbc BK112 0 (.int .i64 a0_0); have hcz11_1 := zbc BK112 1 (.int .i64 a0_1); have hcz11_2 := zbc BK112 2 (.int .u32 a0_2); have hcz11_3 := zbc BK112 3 (.int .u32 a0_3); have hfz11_0 := q9 BK112.out 0; have hfz11_1 := q9 BK112.out 1; have hfz11_2 := q9 BK112.out 2; have hfz11_3 := q9 BK112.out 3) | ((with_reducible refine ql (f := 60) rfl ?_); refine q1b (some 10) rfl rfl Tryz.func60 (by kernel_rfl) rfl #[.agg #[.int .i64 a0_0, .int .i64 a0_1, .int .u32 a0_2, .int .u32 a0_3], .int .i64 a1] rfl z47_6 ?_; (with_reducible refine (prop_rule_has.calls a0_0 a0_1 a0_2 a0_3 a1 true _ A4.out).mono ?_); rintro e w12 ⟨rfl, hb⟩; refine ⟨_, rfl, ?_⟩; have n0_ := Aside0.mk (qo (g := gb112) (o := .cells #[.int .i64 a0_0, .int .i64 a0_1, .int .u32 a0_2, .int .u32 a0_3] 67 (0, 0)) z47_0 hb); have n1_ := Aside0.mk (qo (g := gb113) (o := .cells #[.int .i64 a2_0, .int .u32 a2_1, .string a2_2, .string a2_3] 24 (0, 0)) z47_2 hb); have n2_ := Aside0.mk (qe z47_1 hb); clear BK112; clear BK113; clear HB; have BK112 := n0_; have BK113 := n1_; have HB := n2_; clear n0_ n1_ n2_; (try clear hb); (try clear hb2); (try clear hk); (try clear hi); have hcz13_0 := zbc BK112 0 (.int .i64 a0_0); have hcz13_1 := zbc BK112 1 (.int .i64 a0_1); have hcz13_2 := zbc BK112 2 (.int .u32 a0_2); have hcz13_3 := zbc BK112 3 (.int .u32 a0_3); have hfz13_0 := q9 BK112.out 0; have hfz13_1 := q9 BK112.out 1; have hfz13_2 := q9 BK112.out 2; have hfz13_3 := q9 BK112.out 3; have hcz14_0 := zbc BK113 0 (.int .i64 a2_0); have hcz14_1 := zbc BK113 1 (.int .u32 a2_1); have hcz14_2 := zbc BK113 2 (.string a2_2); have hcz14_3 := zbc BK113 3 (.string a2_3); have hfz14_0 := q9 BK113.out 0; have hfz14_1 := q9 BK113.out 1; have hfz14_2 := q9 BK113.out 2; have hfz14_3 := q9 BK113.out 3) | ((with_reducible refine ql (f := 99) rfl ?_); refine q1b (some 18) rfl rfl Tryz.func99 (by kernel_rfl) rfl #[.agg #[.int .i64 a0_0, .int .i64 a0_1, .int .u32 a0_2, .int .u32 a0_3], .agg #[.int .i64 a2_0, .int .u32 a2_1, .string a2_2, .string a2_3]] rfl z47_6 ?_; (with_reducible refine (prop_checkNumber.calls k a0_0 a0_1 a0_2 a0_3 a2_0 a2_1 a2_2 a2_3 t115 _ A7.out).mono ?_); rintro e w15 ⟨rfl, hb⟩; refine ⟨_, rfl, ?_⟩; have n0_ := Aside0.mk (qo (g := gb112) (o := .cells #[.int .i64 a0_0, .int .i64 a0_1, .int .u32 a0_2, .int .u32 a0_3] 67 (0, 0)) z47_0 hb); have n1_ := Aside0.mk (qo (g := gb113) (o := .cells #[.int .i64 a2_0, .int .u32 a2_1, .string a2_2, .string a2_3] 24 (0, 0)) z47_2 hb); have n2_ := Aside0.mk (qe z47_1 hb); clear BK112; clear BK113; clear HB; have BK112 := n0_; have BK113 := n1_; have HB := n2_; clear n0_ n1_ n2_; (try clear hb); (try clear hb2); (try clear hk); (try clear hi)))
   go_ret
   exact ⟨z47_5, z47_1⟩
  rw [if_neg c6] at H
  have c6b0 : decide (a0_0 ≤ 4) = false := decide_eq_false c6
  clear c6
  have HC16 := Aside0.mk H
  clear H
  go_enter Tryz.func46, Tryz.ntmps46
  go_upto_region 5 with (first | ((with_reducible refine q1c (N := 3) rfl ?_); refine q1r ?hg (N := 3) ?hd (cs := #[.int .i64 a0_0, .int .i64 a0_1, .int .u32 a0_2, .int .u32 a0_3]) (t := 67) ?hr ?_; (case hd => rfl); (case hg => rfl); (case hr => first | (go_simp; done) | (go_simp; rfl)); intro gb112 hg w17 hbox hb; have n0_ := Aside0.mk (qe z47_3 hb); have n1_ := Aside0.mk (hbox); have n2_ := Aside0.mk ((by rw [hg]; exact (qm z47_3) : w.heap.size ≤ gb112)); have n3_ := Aside0.mk ((by rw [hg]; exact (qm z47_3) : w.heap.size ≤ gb112)); clear HB; have HB := n0_; have BK112 := n1_; have GW112 := n2_; have GE112 := n3_; clear n0_ n1_ n2_ n3_; clear hb hbox hg) | ((with_reducible refine q1c (N := 5) rfl ?_); refine q1r ?hg (N := 5) ?hd (cs := #[.int .i64 a2_0, .int .u32 a2_1, .string a2_2, .string a2_3]) (t := 24) ?hr ?_; (case hd => rfl); (case hg => rfl); (case hr => first | (go_simp; done) | (go_simp; rfl)); intro gb113 hg w18 hbox hb; have n0_ := Aside0.mk (qo (g := gb112) (o := .cells #[.int .i64 a0_0, .int .i64 a0_1, .int .u32 a0_2, .int .u32 a0_3] 67 (0, 0)) z47_0 hb); have n1_ := Aside0.mk (qe z47_4 hb); have n2_ := Aside0.mk (hbox); have n3_ := Aside0.mk ((by rw [hg]; exact (qm z47_4) : w.heap.size ≤ gb113)); have n4_ := Aside0.mk ((by rw [hg]; exact (qm z47_4) : w.heap.size ≤ gb113)); have n5_ := Aside0.mk ((by rw [hg]; exact Nat.ne_of_lt (blk_lt (g := gb112) (o := .cells #[.int .i64 a0_0, .int .i64 a0_1, .int .u32 a0_2, .int .u32 a0_3] 67 (0, 0)) z47_0) : gb112 ≠ gb113)); have n6_ := Aside0.mk ((by rw [hg]; exact Nat.ne_of_gt (blk_lt (g := gb112) (o := .cells #[.int .i64 a0_0, .int .i64 a0_1, .int .u32 a0_2, .int .u32 a0_3] 67 (0, 0)) z47_0) : gb113 ≠ gb112)); clear BK112; clear HB; have BK112 := n0_; have HB := n1_; have BK113 := n2_; have GW113 := n3_; have GE113 := n4_; have NB112_113 := n5_; have NB113_112 := n6_; clear n0_ n1_ n2_ n3_ n4_ n5_ n6_; clear hb hbox hg; have hnb19 := NB112_113.out; have hnc19 := NB113_112.out; have hcz20_0 := zbc BK112 0 (.int .i64 a0_0); have hcz20_1 := zbc BK112 1 (.int .i64 a0_1); have hcz20_2 := zbc BK112 2 (.int .u32 a0_2); have hcz20_3 := zbc BK112 3 (.int .u32 a0_3); have hfz20_0 := q9 BK112.out 0; have hfz20_1 := q9 BK112.out 1; have hfz20_2 := q9 BK112.out 2; have hfz20_3 := q9 BK112.out 3) | ((with_reducible refine ql (f := 60) rfl ?_); refine q1b (some 10) rfl rfl Tryz.func60 (by kernel_rfl) rfl #[.agg #[.int .i64 a0_0, .int .i64 a0_1, .int .u32 a0_2, .int .u32 a0_3], .int .i64 a1] rfl z47_6 ?_; (with_reducible refine (prop_rule_has.calls a0_0 a0_1 a0_2 a0_3 a1 true _ A4.out).mono ?_); rintro e w21 ⟨rfl, hb⟩; refine ⟨_, rfl, ?_⟩; have n0_ := Aside0.mk (qo (g := gb112) (o := .cells #[.int .i64 a0_0, .int .i64 a0_1, .int .u32 a0_2, .int .u32 a0_3] 67 (0, 0)) z47_0 hb); have n1_ := Aside0.mk (qo (g := gb113) (o := .cells #[.int .i64 a2_0, .int .u32 a2_1, .string a2_2, .string a2_3] 24 (0, 0)) z47_2 hb); have n2_ := Aside0.mk (qe z47_1 hb); clear BK112; clear BK113; clear HB; have BK112 := n0_; have BK113 := n1_; have HB := n2_; clear n0_ n1_ n2_; (try clear hb); (try clear hb2); (try clear hk); (try clear hi); have hcz22_0 := zbc BK112 0 (.int .i64 a0_0); have hcz22_1 := zbc BK112 1 (.int .i64 a0_1); have hcz22_2 := zbc BK112 2 (.int .u32 a0_2); have hcz22_3 := zbc BK112 3 (.int .u32 a0_3); have hfz22_0 := q9 BK112.out 0; have hfz22_1 := q9 BK112.out 1; have hfz22_2 := q9 BK112.out 2; have hfz22_3 := q9 BK112.out 3))
  (try simp only [Act.put, List.setIfInBounds_toArray, List.set_cons_zero, List.set_cons_succ])
  go_cut [19] (fun v19 wc => ∃ (kq : Nat) (x19_15 : Bool), v19 = .bool x19_15 ∧ Aside0 (prop_check.j0 kq x19_15 a0_0 a0_1 a0_2 a0_3 a2_0 a2_1 a2_2 a2_3 = some r) ∧ Aside0 (kq ≤ k) ∧ Aside0 (wc.heap[gb112]? = some (.cells #[.int .i64 a0_0, .int .i64 a0_1, .int .u32 a0_2, .int .u32 a0_3] 67 (0, 0))) ∧ Aside0 (wc.heap[gb113]? = some (.cells #[.int .i64 a2_0, .int .u32 a2_1, .string a2_2, .string a2_3] 24 (0, 0))) ∧ Aside0 (Below w.heap.size w wc))
  case first =>
   have H := HC16.out
   clear HC16
   by_cases c23 : a2_1 = 0
   ·rw [if_pos c23] at H
    have c23b0 : (a2_1 == 0) = true := beq_iff_eq.mpr c23
    have c23b1 : (a2_1 != 0) = false := bne_eq_false_iff_eq.mpr c23
    clear c23
    (first | rw [c23b0] | (simp only [i64_w, i32_w]; rw [c23b0]) | skip)
    by_cases c24 : a2_3.toList = ([] : List UInt8)
    ·rw [if_pos c24] at H
     have c24b0 : (a2_3.toList == ([] : List UInt8)) = true := beq_iff_eq.mpr c24
     have c24b1 : (a2_3.toList != ([] : List UInt8)) = false := bne_eq_false_iff_eq.mpr c24
     clear c24
     have H' := Aside0.mk H
     clear H
     have hnb25 := NB113_112.out
     have hnc25 := NB112_113.out
     have hcz26_0 := zbc BK113 0 (.int .i64 a2_0)
     have hcz26_1 := zbc BK113 1 (.int .u32 a2_1)
     have hcz26_2 := zbc BK113 2 (.string a2_2)
     have hcz26_3 := zbc BK113 3 (.string a2_3)
     have hfz26_0 := q9 BK113.out 0
     have hfz26_1 := q9 BK113.out 1
     have hfz26_2 := q9 BK113.out 2
     have hfz26_3 := q9 BK113.out 3
     go_wp2
     go_meet
     case rel => exact ⟨_, (false), z47_7, H', ⟨(by first | omega | exact Nat.le_refl _)⟩, ⟨z47_0⟩, ⟨z47_2⟩, ⟨z47_1⟩⟩
    rw [if_neg c24] at H
    have c24b0 : (a2_3.toList == ([] : List UInt8)) = false := beq_eq_false_iff_ne.mpr c24
    have c24b1 : (a2_3.toList != ([] : List UInt8)) = true := bne_iff_ne.mpr c24
    have H' := Aside0.mk H
    clear H
    have hnb27 := NB113_112.out
    have hnc27 := NB112_113.out
    have hcz28_0 := zbc BK113 0 (.int .i64 a2_0)
    have hcz28_1 := zbc BK113 1 (.int .u32 a2_1)
    have hcz28_2 := zbc BK113 2 (.string a2_2)
    have hcz28_3 := zbc BK113 3 (.string a2_3)
    have hfz28_0 := q9 BK113.out 0
    have hfz28_1 := q9 BK113.out 1
    have hfz28_2 := q9 BK113.out 2
    have hfz28_3 := q9 BK113.out 3
    have hcz29_0 := zbc BK112 0 (.int .i64 a0_0)
    have hcz29_1 := zbc BK112 1 (.int .i64 a0_1)
    have hcz29_2 := zbc BK112 2 (.int .u32 a0_2)
    have hcz29_3 := zbc BK112 3 (.int .u32 a0_3)
    have hfz29_0 := q9 BK112.out 0
    have hfz29_1 := q9 BK112.out 1
    have hfz29_2 := q9 BK112.out 2
    have hfz29_3 := q9 BK112.out 3
    go_wp2
    go_meet
    case rel => exact ⟨_, ((a0_0 != 7)), z47_7, H', ⟨(by first | omega | exact Nat.le_refl _)⟩, ⟨z47_0⟩, ⟨z47_2⟩, ⟨z47_1⟩⟩
   rw [if_neg c23] at H
   have c23b0 : (a2_1 == 0) = false := beq_eq_false_iff_ne.mpr c23
   have c23b1 : (a2_1 != 0) = true := bne_iff_ne.mpr c23
   (first | rw [c23b0] | (simp only [i64_w, i32_w]; rw [c23b0]) | skip)
   have H' := Aside0.mk H
   clear H
   have hnb30 := NB113_112.out
   have hnc30 := NB112_113.out
   have hcz31_0 := zbc BK113 0 (.int .i64 a2_0)
   have hcz31_1 := zbc BK113 1 (.int .u32 a2_1)
   have hcz31_2 := zbc BK113 2 (.string a2_2)
   have hcz31_3 := zbc BK113 3 (.string a2_3)
   have hfz31_0 := q9 BK113.out 0
   have hfz31_1 := q9 BK113.out 1
   have hfz31_2 := q9 BK113.out 2
   have hfz31_3 := q9 BK113.out 3
   go_wp2
   go_meet
   case rel => exact ⟨_, (true), z47_7, H', ⟨(by first | omega | exact Nat.le_refl _)⟩, ⟨z47_0⟩, ⟨z47_2⟩, ⟨z47_1⟩⟩
  case rest =>
   clear HC16
   clear c6b0 hcz20_0 hcz20_1 hcz20_2 hcz20_3 hcz22_0 hcz22_1 hcz22_2 hcz22_3 hfz20_0 hfz20_1 hfz20_2 hfz20_3 hfz22_0 hfz22_1 hfz22_2 hfz22_3
   obtain ⟨kq, x19_15, rfl, HA, HJ15, BK112, BK113, HB⟩ := hcut
   cases kq with
   | zero => exact absurd HA.out (by simp [prop_check.j0])
   | succ kj15 =>
    have H := HA.out
    clear HA
    simp only [prop_check.j0] at H
    by_cases c32 : x19_15 = true
    ·subst c32
     rw [if_pos rfl] at H
     obtain rfl := Option.some.inj H
     go_wp2
     go_ret
     exact ⟨z47_5, z47_1⟩
    replace c32 := Bool.eq_false_iff.mpr c32
    subst c32
    rw [if_neg (show ¬ (false = true) by decide)] at H
    by_cases c33 : a0_0 = 6
    ·rw [if_pos c33] at H
     have c33b0 : (a0_0 == 6) = true := beq_iff_eq.mpr c33
     have c33b1 : (a0_0 != 6) = false := bne_eq_false_iff_eq.mpr c33
     clear c33
     by_cases c34 : (a2_2.size : Int) > 65535
     ·rw [if_pos c34] at H
      have c34b0 : decide (65535 < (a2_2.size : Int)) = true := decide_eq_true c34
      have c34b1 : decide (65535 < a2_2.size) = true := decide_eq_true (by omega)
      clear c34
      obtain rfl := Option.some.inj H
      have hnb35 := NB112_113.out
      have hnc35 := NB113_112.out
      have hcz36_0 := zbc BK112 0 (.int .i64 a0_0)
      have hcz36_1 := zbc BK112 1 (.int .i64 a0_1)
      have hcz36_2 := zbc BK112 2 (.int .u32 a0_2)
      have hcz36_3 := zbc BK112 3 (.int .u32 a0_3)
      have hfz36_0 := q9 BK112.out 0
      have hfz36_1 := q9 BK112.out 1
      have hfz36_2 := q9 BK112.out 2
      have hfz36_3 := q9 BK112.out 3
      have hcz37_0 := zbc BK113 0 (.int .i64 a2_0)
      have hcz37_1 := zbc BK113 1 (.int .u32 a2_1)
      have hcz37_2 := zbc BK113 2 (.string a2_2)
      have hcz37_3 := zbc BK113 3 (.string a2_3)
      have hfz37_0 := q9 BK113.out 0
      have hfz37_1 := q9 BK113.out 1
      have hfz37_2 := q9 BK113.out 2
      have hfz37_3 := q9 BK113.out 3
      go_wp2
      go_ret
      exact ⟨z47_5, z47_1⟩
     rw [if_neg c34] at H
     have c34b0 : decide (65535 < (a2_2.size : Int)) = false := decide_eq_false c34
     have c34b1 : decide (65535 < a2_2.size) = false := decide_eq_false (by omega)
     clear c34
     obtain rfl := Option.some.inj H
     have hnb38 := NB112_113.out
     have hnc38 := NB113_112.out
     have hcz39_0 := zbc BK112 0 (.int .i64 a0_0)
     have hcz39_1 := zbc BK112 1 (.int .i64 a0_1)
     have hcz39_2 := zbc BK112 2 (.int .u32 a0_2)
     have hcz39_3 := zbc BK112 3 (.int .u32 a0_3)
     have hfz39_0 := q9 BK112.out 0
     have hfz39_1 := q9 BK112.out 1
     have hfz39_2 := q9 BK112.out 2
     have hfz39_3 := q9 BK112.out 3
     have hcz40_0 := zbc BK113 0 (.int .i64 a2_0)
     have hcz40_1 := zbc BK113 1 (.int .u32 a2_1)
     have hcz40_2 := zbc BK113 2 (.string a2_2)
     have hcz40_3 := zbc BK113 3 (.string a2_3)
     have hfz40_0 := q9 BK113.out 0
     have hfz40_1 := q9 BK113.out 1
     have hfz40_2 := q9 BK113.out 2
     have hfz40_3 := q9 BK113.out 3
     go_wp2
     go_ret
     exact ⟨z47_5, z47_1⟩
    rw [if_neg c33] at H
    have c33b0 : (a0_0 == 6) = false := beq_eq_false_iff_ne.mpr c33
    have c33b1 : (a0_0 != 6) = true := bne_iff_ne.mpr c33
    have HC41 := Aside0.mk H
    clear H
    have hnb42 := NB112_113.out
    have hnc42 := NB113_112.out
    have hcz43_0 := zbc BK112 0 (.int .i64 a0_0)
    have hcz43_1 := zbc BK112 1 (.int .i64 a0_1)
    have hcz43_2 := zbc BK112 2 (.int .u32 a0_2)
    have hcz43_3 := zbc BK112 3 (.int .u32 a0_3)
    have hfz43_0 := q9 BK112.out 0
    have hfz43_1 := q9 BK112.out 1
    have hfz43_2 := q9 BK112.out 2
    have hfz43_3 := q9 BK112.out 3
    go_upto_region 10 with (fail)
    go_cut [41] (fun v41 wc => ∃ (kq : Nat) (x41_40 : Bool), v41 = .bool x41_40 ∧ Aside0 (prop_check.j1 kq x41_40 a2_0 a2_1 a2_2 a2_3 = some r) ∧ Aside0 (kq ≤ kj15) ∧ Aside0 (wc.heap[gb112]? = some (.cells #[.int .i64 a0_0, .int .i64 a0_1, .int .u32 a0_2, .int .u32 a0_3] 67 (0, 0))) ∧ Aside0 (wc.heap[gb113]? = some (.cells #[.int .i64 a2_0, .int .u32 a2_1, .string a2_2, .string a2_3] 24 (0, 0))) ∧ Aside0 (Below w.heap.size w wc))
    case first =>
     have H := HC41.out
     clear HC41
     replace H := Option.bind_eq_some_iff.mp H
     obtain ⟨t116, A440, H⟩ := H
     replace H : (if t116 = true then ((ustring_Valid.f a2_3).bind fun t117 => (prop_check.j1 kj15 (!t117) a2_0 a2_1 a2_2 a2_3)) else (prop_check.j1 kj15 true a2_0 a2_1 a2_2 a2_3)) = some r := H
     have A44 := Aside0.mk A440
     clear A440
     by_cases c45 : t116 = true
     ·subst c45
      rw [if_pos rfl] at H
      replace H := Option.bind_eq_some_iff.mp H
      obtain ⟨t117, A460, H⟩ := H
      replace H : (prop_check.j1 kj15 (!t117) a2_0 a2_1 a2_2 a2_3) = some r := H
      have A46 := Aside0.mk A460
      clear A460
      have H' := Aside0.mk H
      clear H
      have hnb47 := NB113_112.out
      have hnc47 := NB112_113.out
      have hcz48_0 := zbc BK113 0 (.int .i64 a2_0)
      have hcz48_1 := zbc BK113 1 (.int .u32 a2_1)
      have hcz48_2 := zbc BK113 2 (.string a2_2)
      have hcz48_3 := zbc BK113 3 (.string a2_3)
      have hfz48_0 := q9 BK113.out 0
      have hfz48_1 := q9 BK113.out 1
      have hfz48_2 := q9 BK113.out 2
      have hfz48_3 := q9 BK113.out 3
      go_wp2_with (first | ((with_reducible refine ql (f := 100) rfl ?_); refine q1b (some 44) rfl rfl Tryz.func100 (by kernel_rfl) rfl #[.string a2_2] rfl z47_6 ?_; (with_reducible refine (ustring_Valid.calls a2_2 true _ A44.out).mono ?_); rintro e w49 ⟨rfl, hb⟩; refine ⟨_, rfl, ?_⟩; have n0_ := Aside0.mk (qo (g := gb112) (o := .cells #[.int .i64 a0_0, .int .i64 a0_1, .int .u32 a0_2, .int .u32 a0_3] 67 (0, 0)) z47_0 hb); have n1_ := Aside0.mk (qo (g := gb113) (o := .cells #[.int .i64 a2_0, .int .u32 a2_1, .string a2_2, .string a2_3] 24 (0, 0)) z47_2 hb); have n2_ := Aside0.mk (qe z47_1 hb); clear BK112; clear BK113; clear HB; have BK112 := n0_; have BK113 := n1_; have HB := n2_; clear n0_ n1_ n2_; (try clear hb); (try clear hb2); (try clear hk); (try clear hi); have hcz50_0 := zbc BK113 0 (.int .i64 a2_0); have hcz50_1 := zbc BK113 1 (.int .u32 a2_1); have hcz50_2 := zbc BK113 2 (.string a2_2); have hcz50_3 := zbc BK113 3 (.string a2_3); have hfz50_0 := q9 BK113.out 0; have hfz50_1 := q9 BK113.out 1; have hfz50_2 := q9 BK113.out 2; have hfz50_3 := q9 BK113.out 3) | (go_at_call 100; (with_reducible refine (ustring_Valid.calls a2_3 t117 _ A46.out).mono ?_); rintro e w51 ⟨rfl, hb⟩; have n0_ := Aside0.mk (qo (g := gb112) (o := .cells #[.int .i64 a0_0, .int .i64 a0_1, .int .u32 a0_2, .int .u32 a0_3] 67 (0, 0)) z47_0 hb); have n1_ := Aside0.mk (qo (g := gb113) (o := .cells #[.int .i64 a2_0, .int .u32 a2_1, .string a2_2, .string a2_3] 24 (0, 0)) z47_2 hb); have n2_ := Aside0.mk (qe z47_1 hb); clear BK112; clear BK113; clear HB; have BK112 := n0_; have BK113 := n1_; have HB := n2_; clear n0_ n1_ n2_; (try clear hb); (try clear hb2); (try clear hk); (try clear hi)))
      go_meet
      case rel => exact ⟨_, (!t117), z47_7, H', ⟨(by have := HJ15.out; first | omega | exact Nat.le_refl _)⟩, ⟨z47_0⟩, ⟨z47_2⟩, ⟨z47_1⟩⟩
     replace c45 := Bool.eq_false_iff.mpr c45
     subst c45
     rw [if_neg (show ¬ (false = true) by decide)] at H
     have H' := Aside0.mk H
     clear H
     have hnb52 := NB113_112.out
     have hnc52 := NB112_113.out
     have hcz53_0 := zbc BK113 0 (.int .i64 a2_0)
     have hcz53_1 := zbc BK113 1 (.int .u32 a2_1)
     have hcz53_2 := zbc BK113 2 (.string a2_2)
     have hcz53_3 := zbc BK113 3 (.string a2_3)
     have hfz53_0 := q9 BK113.out 0
     have hfz53_1 := q9 BK113.out 1
     have hfz53_2 := q9 BK113.out 2
     have hfz53_3 := q9 BK113.out 3
     go_wp2_with (first | ((with_reducible refine ql (f := 100) rfl ?_); refine q1b (some 44) rfl rfl Tryz.func100 (by kernel_rfl) rfl #[.string a2_2] rfl z47_6 ?_; (with_reducible refine (ustring_Valid.calls a2_2 false _ A44.out).mono ?_); rintro e w54 ⟨rfl, hb⟩; refine ⟨_, rfl, ?_⟩; have n0_ := Aside0.mk (qo (g := gb112) (o := .cells #[.int .i64 a0_0, .int .i64 a0_1, .int .u32 a0_2, .int .u32 a0_3] 67 (0, 0)) z47_0 hb); have n1_ := Aside0.mk (qo (g := gb113) (o := .cells #[.int .i64 a2_0, .int .u32 a2_1, .string a2_2, .string a2_3] 24 (0, 0)) z47_2 hb); have n2_ := Aside0.mk (qe z47_1 hb); clear BK112; clear BK113; clear HB; have BK112 := n0_; have BK113 := n1_; have HB := n2_; clear n0_ n1_ n2_; (try clear hb); (try clear hb2); (try clear hk); (try clear hi)))
     go_meet
     case rel => exact ⟨_, (true), z47_7, H', ⟨(by have := HJ15.out; first | omega | exact Nat.le_refl _)⟩, ⟨z47_0⟩, ⟨z47_2⟩, ⟨z47_1⟩⟩
    case rest =>
     clear HC41
     clear c33 c33b0 c33b1 hcz43_0 hcz43_1 hcz43_2 hcz43_3 hfz43_0 hfz43_1 hfz43_2 hfz43_3
     obtain ⟨kq, x41_40, rfl, HA, HJ40, BK112, BK113, HB⟩ := hcut
     cases kq with
     | zero => exact absurd HA.out (by simp [prop_check.j1])
     | succ kj40 =>
      have H := HA.out
      clear HA
      simp only [prop_check.j1] at H
      by_cases c55 : x41_40 = true
      ·subst c55
       rw [if_pos rfl] at H
       obtain rfl := Option.some.inj H
       go_wp2
       go_ret
       exact ⟨z47_5, z47_1⟩
      replace c55 := Bool.eq_false_iff.mpr c55
      subst c55
      rw [if_neg (show ¬ (false = true) by decide)] at H
      by_cases c56 : a2_0 = 8
      ·rw [if_pos c56] at H
       have c56b0 : (a2_0 == 8) = true := beq_iff_eq.mpr c56
       have c56b1 : (a2_0 != 8) = false := bne_eq_false_iff_eq.mpr c56
       clear c56
       replace H := Option.bind_eq_some_iff.mp H
       obtain ⟨t118, A570, H⟩ := H
       replace H : (if t118 = true then (some 0) else (some 9)) = some r := H
       have A57 := Aside0.mk A570
       clear A570
       by_cases c58 : t118 = true
       ·subst c58
        rw [if_pos rfl] at H
        obtain rfl := Option.some.inj H
        have hnb59 := NB113_112.out
        have hnc59 := NB112_113.out
        have hcz60_0 := zbc BK113 0 (.int .i64 a2_0)
        have hcz60_1 := zbc BK113 1 (.int .u32 a2_1)
        have hcz60_2 := zbc BK113 2 (.string a2_2)
        have hcz60_3 := zbc BK113 3 (.string a2_3)
        have hfz60_0 := q9 BK113.out 0
        have hfz60_1 := q9 BK113.out 1
        have hfz60_2 := q9 BK113.out 2
        have hfz60_3 := q9 BK113.out 3
        go_wp2_with (first | (go_at_call 101; (with_reducible refine (topic_Name.calls a2_2 true _ A57.out).mono ?_); rintro e w61 ⟨rfl, hb⟩; have n0_ := Aside0.mk (qo (g := gb112) (o := .cells #[.int .i64 a0_0, .int .i64 a0_1, .int .u32 a0_2, .int .u32 a0_3] 67 (0, 0)) z47_0 hb); have n1_ := Aside0.mk (qo (g := gb113) (o := .cells #[.int .i64 a2_0, .int .u32 a2_1, .string a2_2, .string a2_3] 24 (0, 0)) z47_2 hb); have n2_ := Aside0.mk (qe z47_1 hb); clear BK112; clear BK113; clear HB; have BK112 := n0_; have BK113 := n1_; have HB := n2_; clear n0_ n1_ n2_; (try clear hb); (try clear hb2); (try clear hk); (try clear hi)))
        go_ret
        exact ⟨z47_5, z47_1⟩
       replace c58 := Bool.eq_false_iff.mpr c58
       subst c58
       rw [if_neg (show ¬ (false = true) by decide)] at H
       obtain rfl := Option.some.inj H
       have hnb62 := NB113_112.out
       have hnc62 := NB112_113.out
       have hcz63_0 := zbc BK113 0 (.int .i64 a2_0)
       have hcz63_1 := zbc BK113 1 (.int .u32 a2_1)
       have hcz63_2 := zbc BK113 2 (.string a2_2)
       have hcz63_3 := zbc BK113 3 (.string a2_3)
       have hfz63_0 := q9 BK113.out 0
       have hfz63_1 := q9 BK113.out 1
       have hfz63_2 := q9 BK113.out 2
       have hfz63_3 := q9 BK113.out 3
       go_wp2_with (first | (go_at_call 101; (with_reducible refine (topic_Name.calls a2_2 false _ A57.out).mono ?_); rintro e w64 ⟨rfl, hb⟩; have n0_ := Aside0.mk (qo (g := gb112) (o := .cells #[.int .i64 a0_0, .int .i64 a0_1, .int .u32 a0_2, .int .u32 a0_3] 67 (0, 0)) z47_0 hb); have n1_ := Aside0.mk (qo (g := gb113) (o := .cells #[.int .i64 a2_0, .int .u32 a2_1, .string a2_2, .string a2_3] 24 (0, 0)) z47_2 hb); have n2_ := Aside0.mk (qe z47_1 hb); clear BK112; clear BK113; clear HB; have BK112 := n0_; have BK113 := n1_; have HB := n2_; clear n0_ n1_ n2_; (try clear hb); (try clear hb2); (try clear hk); (try clear hi)))
       go_ret
       exact ⟨z47_5, z47_1⟩
      rw [if_neg c56] at H
      have c56b0 : (a2_0 == 8) = false := beq_eq_false_iff_ne.mpr c56
      have c56b1 : (a2_0 != 8) = true := bne_iff_ne.mpr c56
      obtain rfl := Option.some.inj H
      have hnb65 := NB113_112.out
      have hnc65 := NB112_113.out
      have hcz66_0 := zbc BK113 0 (.int .i64 a2_0)
      have hcz66_1 := zbc BK113 1 (.int .u32 a2_1)
      have hcz66_2 := zbc BK113 2 (.string a2_2)
      have hcz66_3 := zbc BK113 3 (.string a2_3)
      have hfz66_0 := q9 BK113.out 0
      have hfz66_1 := q9 BK113.out 1
      have hfz66_2 := q9 BK113.out 2
      have hfz66_3 := q9 BK113.out 3
      go_wp2
      go_ret
      exact ⟨z47_5, z47_1⟩
 replace c5 := Bool.eq_false_iff.mpr c5
 subst c5
 rw [if_neg (show ¬ (false = true) by decide)] at H
 obtain rfl := Option.some.inj H
 go_enter Tryz.func46, Tryz.ntmps46
 go_wp2_with (first | ((with_reducible refine q1c (N := 3) rfl ?_); refine q1r ?hg (N := 3) ?hd (cs := #[.int .i64 a0_0, .int .i64 a0_1, .int .u32 a0_2, .int .u32 a0_3]) (t := 67) ?hr ?_; (case hd => rfl); (case hg => rfl); (case hr => first | (go_simp; done) | (go_simp; rfl)); intro gb112 hg w67 hbox hb; have n0_ := Aside0.mk (qe z47_3 hb); have n1_ := Aside0.mk (hbox); have n2_ := Aside0.mk ((by rw [hg]; exact (qm z47_3) : w.heap.size ≤ gb112)); have n3_ := Aside0.mk ((by rw [hg]; exact (qm z47_3) : w.heap.size ≤ gb112)); clear HB; have HB := n0_; have BK112 := n1_; have GW112 := n2_; have GE112 := n3_; clear n0_ n1_ n2_ n3_; clear hb hbox hg) | ((with_reducible refine q1c (N := 5) rfl ?_); refine q1r ?hg (N := 5) ?hd (cs := #[.int .i64 a2_0, .int .u32 a2_1, .string a2_2, .string a2_3]) (t := 24) ?hr ?_; (case hd => rfl); (case hg => rfl); (case hr => first | (go_simp; done) | (go_simp; rfl)); intro gb113 hg w68 hbox hb; have n0_ := Aside0.mk (qo (g := gb112) (o := .cells #[.int .i64 a0_0, .int .i64 a0_1, .int .u32 a0_2, .int .u32 a0_3] 67 (0, 0)) z47_0 hb); have n1_ := Aside0.mk (qe z47_4 hb); have n2_ := Aside0.mk (hbox); have n3_ := Aside0.mk ((by rw [hg]; exact (qm z47_4) : w.heap.size ≤ gb113)); have n4_ := Aside0.mk ((by rw [hg]; exact (qm z47_4) : w.heap.size ≤ gb113)); have n5_ := Aside0.mk ((by rw [hg]; exact Nat.ne_of_lt (blk_lt (g := gb112) (o := .cells #[.int .i64 a0_0, .int .i64 a0_1, .int .u32 a0_2, .int .u32 a0_3] 67 (0, 0)) z47_0) : gb112 ≠ gb113)); have n6_ := Aside0.mk ((by rw [hg]; exact Nat.ne_of_gt (blk_lt (g := gb112) (o := .cells #[.int .i64 a0_0, .int .i64 a0_1, .int .u32 a0_2, .int .u32 a0_3] 67 (0, 0)) z47_0) : gb113 ≠ gb112)); clear BK112; clear HB; have BK112 := n0_; have HB := n1_; have BK113 := n2_; have GW113 := n3_; have GE113 := n4_; have NB112_113 := n5_; have NB113_112 := n6_; clear n0_ n1_ n2_ n3_ n4_ n5_ n6_; clear hb hbox hg; have hnb69 := NB112_113.out; have hnc69 := NB113_112.out; have hcz70_0 := zbc BK112 0 (.int .i64 a0_0); have hcz70_1 := zbc BK112 1 (.int .i64 a0_1); have hcz70_2 := zbc BK112 2 (.int .u32 a0_2); have hcz70_3 := zbc BK112 3 (.int .u32 a0_3); have hfz70_0 := q9 BK112.out 0; have hfz70_1 := q9 BK112.out 1; have hfz70_2 := q9 BK112.out 2; have hfz70_3 := q9 BK112.out 3) | ((with_reducible refine ql (f := 60) rfl ?_); refine q1b (some 10) rfl rfl Tryz.func60 (by kernel_rfl) rfl #[.agg #[.int .i64 a0_0, .int .i64 a0_1, .int .u32 a0_2, .int .u32 a0_3], .int .i64 a1] rfl z47_6 ?_; (with_reducible refine (prop_rule_has.calls a0_0 a0_1 a0_2 a0_3 a1 false _ A4.out).mono ?_); rintro e w71 ⟨rfl, hb⟩; refine ⟨_, rfl, ?_⟩; have n0_ := Aside0.mk (qo (g := gb112) (o := .cells #[.int .i64 a0_0, .int .i64 a0_1, .int .u32 a0_2, .int .u32 a0_3] 67 (0, 0)) z47_0 hb); have n1_ := Aside0.mk (qo (g := gb113) (o := .cells #[.int .i64 a2_0, .int .u32 a2_1, .string a2_2, .string a2_3] 24 (0, 0)) z47_2 hb); have n2_ := Aside0.mk (qe z47_1 hb); clear BK112; clear BK113; clear HB; have BK112 := n0_; have BK113 := n1_; have HB := n2_; clear n0_ n1_ n2_; (try clear hb); (try clear hb2); (try clear hk); (try clear hi)))
 go_ret
 exact ⟨z47_5, z47_1⟩

end Go.Proofs.YtngmipfobcaojaaGreat.HA
end

-- YtngmipfobcaojaaGreatHAhSpec1
section
namespace Go.Proofs.YtngmipfobcaojaaGreat.HA
open Go.RowKit Go.Proofs.YtngmipfobcaojaaGreatW.PrintWords Go.Proofs.YtngmipfobcaojaaGreatW.PrintLast Go.Proofs.YtngmipfobcaojaaGreatW.PrintMore

def validS (s : ByteArray) : Bool := decide ((s.size : Int) ≤ 65535) && (badTo s s.size 0 == -1)
def nameS (s : ByteArray) : Bool := !(s.toList == []) && validS s && !wildIn s
def hasS (ru : Int × Int × Int × Int) (kind : Int) : Bool :=
  decide (1 ≤ kind) && decide (kind ≤ 16) && (Go.bits .and .i64 (shr .i64 ru.2.1 (IntKind.u64.wrap kind)) 1 == 1)
def checkS (ru : Int × Int × Int × Int) (kind : Int) (p : S24) : Int :=
  if hasS ru kind = false then 9
  else if ru.1 ≤ 4 then (if ¬ p.f2.toList = [] ∨ ¬ p.f3.toList = [] then 2 else if p.f1 < ru.2.2.1 ∨ p.f1 > ru.2.2.2 then 9 else 0)
  else if ¬ p.f1 = 0 ∨ (¬ p.f3.toList = [] ∧ ¬ ru.1 = 7) then 2
  else if ru.1 = 6 then (if (p.f2.size : Int) > 65535 then 2 else 0)
  else if validS p.f2 = false ∨ validS p.f3 = false then 6
  else if p.f0 = 8 ∧ nameS p.f2 = false then 9 else 0

theorem valid_f (s : ByteArray) : ustring_Valid.f s = some (validS s) := by
  unfold ustring_Valid.f validS ustring_Bad.f
  by_cases h : (s.size : Int) ≤ 65535 <;> simp [h]
theorem valid_size {s : ByteArray} (h : validS s = true) : s.size ≤ 65535 := by
  unfold validS at h
  simp only [Bool.and_eq_true, decide_eq_true_eq] at h
  omega
theorem name_f (s : ByteArray) : topic_Name.f s = some (nameS s) := by
  unfold topic_Name.f topic_text.f nameS
  rw [valid_f]
  by_cases h : s.toList = []
  · simp [h]
  · rw [if_neg h]
    cases hv : validS s with
    | false => simp
    | true =>
      have := valid_size hv
      have he : (s.toList == []) = false := by simpa using h
      simp only [Option.bind_some, strings_ContainsAny.f, ph, if_true]
      rw [if_pos (by omega)]
      simp [he]
theorem has_f (a0 a1 a2 a3 kind : Int) : prop_rule_has.f a0 a1 a2 a3 kind = some (hasS (a0, a1, a2, a3) kind) := by
  unfold prop_rule_has.f hasS
  by_cases h1 : 1 ≤ kind
  · by_cases h2 : kind ≤ 16
    · have : IntKind.u64.wrap kind = kind := by rw [IntKind.wrap_u64]; omega
      rw [if_pos h1, if_pos h2, if_pos (by rw [this]; omega)]
      simp [h1, h2]
    · rw [if_pos h1, if_neg h2]; simp [h1, h2]
  · rw [if_neg (by omega)]; simp [h1]
theorem checkNumber_f (k : Nat) (ru : Int × Int × Int × Int) (p : S24) :
    prop_checkNumber.f (k + 1) ru.1 ru.2.1 ru.2.2.1 ru.2.2.2 p.f0 p.f1 p.f2 p.f3 = some (if ¬ p.f2.toList = [] ∨ ¬ p.f3.toList = [] then 2 else if p.f1 < ru.2.2.1 ∨ p.f1 > ru.2.2.2 then 9 else 0) := by
  unfold prop_checkNumber.f
  simp only [prop_checkNumber.j0]
  by_cases h1 : p.f2.toList = []
  · rw [if_pos h1]
    by_cases h2 : p.f3.toList = []
    · simp only [h1, h2]
      by_cases h3 : p.f1 < ru.2.2.1
      · simp [h3]
      · by_cases h4 : p.f1 > ru.2.2.2 <;> simp [h3, h4]
    · simp [h1, h2]
  · simp [h1]
theorem check_f (k : Nat) (ru : Int × Int × Int × Int) (kind : Int) (p : S24) :
    prop_check.f (k + 2) ru.1 ru.2.1 ru.2.2.1 ru.2.2.2 kind p.f0 p.f1 p.f2 p.f3 = some (checkS ru kind p) := by
  unfold prop_check.f checkS
  rw [has_f]
  simp only [Option.bind_some, prop_check.j0, prop_check.j1, checkNumber_f, valid_f, name_f]
  cases hasS ru kind with
  | false => simp
  | true =>
    simp only [if_true, Bool.true_eq_false, if_false]
    by_cases h1 : ru.1 ≤ 4
    · rw [if_pos h1, if_pos h1]
    · rw [if_neg h1, if_neg h1]
      by_cases h2 : p.f1 = 0
      · by_cases h3 : p.f3.toList = []
        · by_cases h6 : ru.1 = 6
          · by_cases h7 : (p.f2.size : Int) > 65535 <;> simp [h2, h3, h6, h7]
          · cases hv2 : validS p.f2 <;> cases hv3 : validS p.f3 <;> by_cases h8 : p.f0 = 8 <;> cases hn : nameS p.f2 <;> simp [h2, h3, h6, h8, hn]
        · by_cases h7 : ru.1 = 7
          · cases hv2 : validS p.f2 <;> cases hv3 : validS p.f3 <;> by_cases h8 : p.f0 = 8 <;> cases hn : nameS p.f2 <;> simp [h2, h3, h7, h8, hn]
          · simp [h2, h3, h7]
      · simp [h2]
end Go.Proofs.YtngmipfobcaojaaGreat.HA
end

-- YtngmipfobcaojaaGreatHAhVarRead
section
namespace Go.Proofs.YtngmipfobcaojaaGreat.HA
open Go.RowKit Go.Proofs.YtngmipfobcaojaaGreatW.PrintWords Go.Proofs.YtngmipfobcaojaaGreatW.PrintLast Go.Proofs.YtngmipfobcaojaaGreatW.PrintMore
theorem w64v (n : Int) : -9223372036854775808 ≤ n → n ≤ 9223372036854775807 → wrap64 n = n := fun h1 h2 => by unfold wrap64; omega
def byN (s : ByteArray) (i : Nat) : Nat := (bt s (i : Int)).toNat
theorem byN_eq (s : ByteArray) (i : Nat) : bt s (i : Int) = (byN s i : Int) ∧ byN s i < 256 := by
  have := bt_range s (i : Int)
  unfold byN
  omega
def rdV (s : ByteArray) : Nat → Nat → Nat → Nat → Int × Int × Int
  | 0, _, _, _ => (0, 0, 5)
  | d + 1, i, acc, M =>
    if s.size ≤ i then (0, 0, 3)
    else if byN s i < 128 then (if 0 < i ∧ byN s i = 0 then (0, 0, 5) else (((acc + byN s i * M : Nat) : Int), ((i + 1 : Nat) : Int), 0))
    else rdV s d (i + 1) (acc + (byN s i % 128) * M) (M * 128)
theorem and127 : ∀ b : Fin 256, Go.bits .and .u8 ((b.val : Nat) : Int) 127 = ((b.val % 128 : Nat) : Int) := by decide +kernel
theorem and128 : ∀ b : Fin 256, (Go.bits .and .u8 ((b.val : Nat) : Int) 128 = 0 ↔ b.val < 128) := by decide +kernel
theorem push_n (acc i M b : Nat) (hb : b < 256) (hi : (i = 0 ∧ M = 1) ∨ (i = 1 ∧ M = 128) ∨ (i = 2 ∧ M = 16384) ∨ (i = 3 ∧ M = 2097152)) (ha : acc < 268435456) :
    pushN acc i b = ((acc + b % 128 * M : Nat) : Int) := by
  unfold pushN
  rw [and127 ⟨b, hb⟩]
  have hm : b % 128 < 128 := Nat.mod_lt _ (by omega)
  have hp : ∀ j : Nat, j ≤ 3 → (IntKind.u64.wrap (wrap64 (7 * (j : Int)))).toNat = 7 * j := by
    intro j hj
    rw [w64v _ (by omega) (by omega), IntKind.wrap_u64]
    omega
  rcases hi with ⟨rfl, rfl⟩ | ⟨rfl, rfl⟩ | ⟨rfl, rfl⟩ | ⟨rfl, rfl⟩
  · rw [hp 0 (by omega), show min (7 * 0) 64 = 0 from rfl, w64v ((b % 128 : Nat) : Int) (by omega) (by omega), w64v (((b % 128 : Nat) : Int) * 2 ^ 0) (by omega) (by omega), w64v _ (by omega) (by omega)]
    omega
  · rw [hp 1 (by omega), show min (7 * 1) 64 = 7 from rfl, w64v ((b % 128 : Nat) : Int) (by omega) (by omega), w64v (((b % 128 : Nat) : Int) * 2 ^ 7) (by omega) (by omega), w64v _ (by omega) (by omega)]
    omega
  · rw [hp 2 (by omega), show min (7 * 2) 64 = 14 from rfl, w64v ((b % 128 : Nat) : Int) (by omega) (by omega), w64v (((b % 128 : Nat) : Int) * 2 ^ 14) (by omega) (by omega), w64v _ (by omega) (by omega)]
    omega
  · rw [hp 3 (by omega), show min (7 * 3) 64 = 21 from rfl, w64v ((b % 128 : Nat) : Int) (by omega) (by omega), w64v (((b % 128 : Nat) : Int) * 2 ^ 21) (by omega) (by omega), w64v _ (by omega) (by omega)]
    omega
theorem varread_l0 (s : ByteArray) : ∀ (d k i acc M : Nat), i + d = 4 → d < k → 0 < d → ((i = 0 ∧ M = 1) ∨ (i = 1 ∧ M = 128) ∨ (i = 2 ∧ M = 16384) ∨ (i = 3 ∧ M = 2097152)) → acc < M →
    varint_Read.l0 k s s.size i acc i false false = some (rdV s d i acc M) := by
  intro d
  induction d with
  | zero => intro k i acc M _ _ h; omega
  | succ d ih =>
    intro k i acc M hd hk _ hi ha
    obtain ⟨k, rfl⟩ : ∃ m, k = m + 1 := ⟨k - 1, by omega⟩
    rw [varint_Read.l0.eq_def, rdV]
    simp only []
    by_cases hs : s.size ≤ i
    · rw [if_neg (by omega), if_pos hs]
    rw [if_pos (by omega), if_pos (by omega), if_pos (by omega), if_neg hs]
    obtain ⟨e, hb⟩ := byN_eq s i
    rw [e]
    generalize byN s i = b at *
    unfold varint_Reader_Push.f
    rw [push_n acc i M b hb hi (by omega), w64v ((i : Int) + 1) (by omega) (by omega)]
    have hm : b % 128 < 128 := Nat.mod_lt _ (by omega)
    simp only [Bool.or_self, Bool.false_eq_true, if_false]
    by_cases h8 : b < 128
    · have q := (and128 ⟨b, hb⟩).2 h8
      simp only [] at q
      rw [if_neg (fun x => x q), if_pos h8]
      by_cases hz : b = 0
      · subst hz
        rw [if_pos (show ((0 : Nat) : Int) = 0 from rfl)]
        by_cases h0 : 0 < i
        · rw [if_pos (show (i : Int) + 1 > 1 by omega), if_pos ⟨h0, rfl⟩]
          simp
        · rw [if_neg (show ¬ (i : Int) + 1 > 1 by omega), if_neg (fun x => h0 x.1)]
          simp
      · rw [if_neg (show ¬ (b : Int) = 0 by omega), if_neg (fun x => hz x.2)]
        have : b % 128 = b := Nat.mod_eq_of_lt h8
        rw [this]
        simp
    · have q : ¬ Go.bits .and .u8 ((b : Nat) : Int) 128 = 0 := fun x => h8 ((and128 ⟨b, hb⟩).1 x)
      rw [if_pos q, if_neg h8]
      by_cases h3 : i = 3
      · subst h3
        obtain rfl : d = 0 := by omega
        rw [if_pos (by decide)]
        simp [rdV]
      · rw [if_neg (show ¬ (i : Int) + 1 = 4 by omega)]
        simp only [Option.bind_some, if_true, Bool.false_eq_true, if_false]
        rw [show (i : Int) + 1 = ((i + 1 : Nat) : Int) by omega]
        exact ih k (i + 1) _ (M * 128) (by omega) (by omega) (by omega) (by omega) (by
          rcases hi with ⟨rfl, rfl⟩ | ⟨rfl, rfl⟩ | ⟨rfl, rfl⟩ | ⟨rfl, rfl⟩ <;> omega)
def readVarS (s : ByteArray) : Int × Int × Int := rdV s 4 0 0 1
theorem varread_f (k : Nat) (s : ByteArray) (hk : 4 < k) : varint_Read.f k s = some (readVarS s) := by
  unfold varint_Read.f varint_New.f
  exact varread_l0 s 4 k 0 0 1 rfl hk (by omega) (Or.inl ⟨rfl, rfl⟩) (by omega)
theorem rdV_size (s : ByteArray) : ∀ (d i acc M : Nat), 0 ≤ (rdV s d i acc M).2.1 ∧ (rdV s d i acc M).2.1 ≤ s.size := by
  intro d
  induction d with
  | zero => intro i acc M; simp [rdV]
  | succ d ih =>
    intro i acc M
    rw [rdV]
    split
    · simp
    · split
      · split
        · simp
        · dsimp only; omega
      · exact ih _ _ _
theorem readVar_size (s : ByteArray) : 0 ≤ (readVarS s).2.1 ∧ (readVarS s).2.1 ≤ s.size := rdV_size s 4 0 0 1
end Go.Proofs.YtngmipfobcaojaaGreat.HA
end
