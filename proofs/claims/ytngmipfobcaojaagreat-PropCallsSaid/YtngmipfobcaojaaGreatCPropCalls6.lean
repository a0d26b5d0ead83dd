/- For every kind, id, property, list of properties and bytes, the law polyglotlaw05.PropCalls returns true; no condition but that the arguments are Go values. -/
import Derived.Test.YtngmipfobcaojaaGreatCPropCalls1
import Derived.Test.YtngmipfobcaojaaGreatCPropCalls2
import Derived.Test.YtngmipfobcaojaaGreatCPropCalls3
import Derived.Laws.Bits128
import Derived.Laws.Bits64b
import Derived.Test.YtngmipfobcaojaaGreatCPropCalls4
import Derived.Test.YtngmipfobcaojaaGreatCPropCalls5
import Derived.Lib.SmallJoins
import Derived.Deep.Slices
import Derived.DataReads
import Derived.ChangeArms
import Derived.Test.YtngmipfobcaojaaGreatRows
import Derived.WalkKit
import Derived.ProofKit
import Derived.OpenShut
import Derived.ShutString
import Derived.ChangeOld
import Derived.Below
import Derived.SizedLaws
set_option linter.unusedVariables false
set_option linter.unusedSimpArgs false
-- YtngmipfobcaojaaGreatHAhRef3
section
namespace Go.Proofs.YtngmipfobcaojaaGreat.HA
open Go.RowKit Go.Proofs.YtngmipfobcaojaaGreatW.PrintWords Go.Proofs.YtngmipfobcaojaaGreatW.PrintLast Go.Proofs.YtngmipfobcaojaaGreatW.PrintMore

def gI (s : ByteArray) (i : Nat) : Int := ((s.get! i).toNat : Int)
theorem gI_range (s : ByteArray) (i : Nat) : 0 ≤ gI s i ∧ gI s i < 256 := by
  have := UInt8.toNat_lt (s.get! i)
  unfold gI
  omega
theorem get!_in (s : ByteArray) (i : Nat) (h : i < s.size) : s.get! i = s[i]'h := by
  show s.data[i]! = s.data[i]'h
  exact getElem!_pos s.data i h
theorem bt_gI (s : ByteArray) (i : Nat) (h : i < s.size) : bt s (i : Int) = gI s i := by
  unfold bt gI
  rw [dif_pos (by simpa using h), get!_in s i h]
  simp
def goesOn (s : ByteArray) (i : Nat) : Bool := decide (i < s.size) && (decide (128 ≤ gI s i) && decide (gI s i ≤ 191))
theorem wrap_id {n : Int} (h1 : -9223372036854775808 ≤ n) (h2 : n ≤ 9223372036854775807) : wrap64 n = n := by
  unfold wrap64; omega
theorem more_f (s : ByteArray) (i : Nat) : polyglotref03_more.f s (i : Int) = some (if goesOn s i = true then (gI s i - 128, true) else (0, false)) := by
  unfold polyglotref03_more.f goesOn
  have hr := gI_range s i
  by_cases h : i < s.size
  · rw [if_neg (by omega), if_pos (by omega), if_pos (by omega), bt_gI s i h]
    by_cases h1 : gI s i < 128
    · rw [if_pos h1, if_neg (by simp; omega)]
    · by_cases h2 : gI s i > 191
      · rw [if_neg h1, if_pos h2, if_neg (by simp; omega)]
      · rw [if_neg h1, if_neg h2, if_pos (by simp; omega), wrap_id (n := gI s i) (by omega) (by omega), wrap_id (by omega) (by omega)]
  · rw [if_pos (by omega), if_neg (by simp; omega)]
def finP (n z least : Int) : Int × Int := if n < least ∨ n > 1114111 ∨ (n ≥ 55296 ∧ n ≤ 57343) then (0, 0) else (n, z)
theorem l0_end (k : Nat) (s : ByteArray) (pos n z least : Int) : qr.l0 (k + 1) s pos n z least z = some (finP n z least) := by
  rw [qr.l0.eq_def]
  simp only [finP, Int.lt_irrefl, if_false]
  repeat' split
  all_goals first | rfl | (exfalso; omega)
theorem l0_step (k : Nat) (s : ByteArray) (pos j : Nat) (n z least : Int) (hj : (j : Int) < z) (hz : z ≤ 4) (hs : pos < 4294967296) (hn : 0 ≤ n ∧ n < 4194304) :
    qr.l0 (k + 1) s pos n z least j =
      if goesOn s (pos + j) = true then qr.l0 k s pos (64 * n + (gI s (pos + j) - 128)) z least ((j + 1 : Nat) : Int) else some (0, 0) := by
  rw [qr.l0.eq_def]
  have hr := gI_range s (pos + j)
  simp only [hj, if_true]
  rw [wrap_id (n := (pos : Int) + (j : Int)) (by omega) (by omega), show (pos : Int) + (j : Int) = ((pos + j : Nat) : Int) by omega, more_f]
  by_cases h : goesOn s (pos + j) = true
  · simp only [h, if_true, Option.bind_some]
    rw [wrap_id (n := 64 * n) (by omega) (by omega), wrap_id (n := 64 * n + _) (by omega) (by omega), wrap_id (n := (j : Int) + 1) (by omega) (by omega)]
    rfl
  · simp [h]
def ptP (s : ByteArray) (p : Nat) : Int × Int :=
  if gI s p < 128 then (gI s p, 1)
  else if 192 ≤ gI s p ∧ gI s p < 224 then (if goesOn s (p + 1) = true then finP (64 * (gI s p - 192) + (gI s (p + 1) - 128)) 2 128 else (0, 0))
  else if 224 ≤ gI s p ∧ gI s p < 240 then (if goesOn s (p + 1) = true then (if goesOn s (p + 2) = true then finP (64 * (64 * (gI s p - 224) + (gI s (p + 1) - 128)) + (gI s (p + 2) - 128)) 3 2048 else (0, 0)) else (0, 0))
  else if 240 ≤ gI s p ∧ gI s p < 248 then (if goesOn s (p + 1) = true then (if goesOn s (p + 2) = true then (if goesOn s (p + 3) = true then finP (64 * (64 * (64 * (gI s p - 240) + (gI s (p + 1) - 128)) + (gI s (p + 2) - 128)) + (gI s (p + 3) - 128)) 4 65536 else (0, 0)) else (0, 0)) else (0, 0))
  else (0, 0)
theorem j2_f (k : Nat) (s : ByteArray) (p : Nat) (n z least : Int) : qr.j2 (k + 1) s p n z least = qr.l0 k s p n z least 1 := by
  rw [qr.j2.eq_def]
theorem point_f (k : Nat) (s : ByteArray) (p : Nat) (h : p < s.size) (hs : s.size < 4294967296) : qr.f (k + 8) s p = some (ptP s p) := by
  unfold qr.f ptP
  have hr := gI_range s p
  have r1 := gI_range s (p + 1)
  have r2 := gI_range s (p + 2)
  have r3 := gI_range s (p + 3)
  have hp : p < 4294967296 := by omega
  rw [if_pos (by omega), if_pos (by omega), bt_gI s p h, wrap_id (n := gI s p) (by omega) (by omega)]
  by_cases h1 : gI s p < 128
  · rw [if_pos h1, if_pos h1]
  rw [if_neg h1, if_neg h1]
  have e1 : (1 : Int) = ((1 : Nat) : Int) := rfl
  by_cases h2 : 192 ≤ gI s p ∧ gI s p < 224
  · rw [if_pos h2.1, if_pos h2, qr.j0.eq_def]
    simp only [h2.2, decide_true, if_true]
    rw [wrap_id (by omega) (by omega), j2_f, e1, l0_step _ _ _ _ _ _ _ (by omega) (by omega) hp (by omega)]; simp only [Nat.reduceAdd]
    by_cases g1 : goesOn s (p + 1) = true
    · rw [if_pos g1, if_pos g1]; exact l0_end _ _ _ _ _ _
    · rw [if_neg g1, if_neg g1]
  rw [if_neg h2]
  by_cases h3 : 224 ≤ gI s p ∧ gI s p < 240
  · rw [if_pos (show gI s p ≥ 192 by omega), if_pos h3, qr.j0.eq_def]
    simp only [show ¬ gI s p < 224 by omega, decide_false, show gI s p ≥ 224 by omega, if_true, Bool.false_eq_true, if_false]
    rw [qr.j1.eq_def]
    simp only [h3.2, decide_true, if_true]
    rw [wrap_id (by omega) (by omega), j2_f, e1, l0_step _ _ _ _ _ _ _ (by omega) (by omega) hp (by omega)]; simp only [Nat.reduceAdd]
    by_cases g1 : goesOn s (p + 1) = true
    · rw [if_pos g1, if_pos g1]
      have q1 := of_decide_eq_true (Bool.and_eq_true_iff.mp (Bool.and_eq_true_iff.mp g1).2).1
      have q2 := of_decide_eq_true (Bool.and_eq_true_iff.mp (Bool.and_eq_true_iff.mp g1).2).2
      rw [l0_step _ _ _ _ _ _ _ (by omega) (by omega) hp (by omega)]; simp only [Nat.reduceAdd]
      by_cases g2 : goesOn s (p + 2) = true
      · rw [if_pos g2, if_pos g2]; exact l0_end _ _ _ _ _ _
      · rw [if_neg g2, if_neg g2]
    · rw [if_neg g1, if_neg g1]
  rw [if_neg h3]
  by_cases h4 : 240 ≤ gI s p ∧ gI s p < 248
  · rw [if_pos (show gI s p ≥ 192 by omega), if_pos h4, qr.j0.eq_def]
    simp only [show ¬ gI s p < 224 by omega, decide_false, show gI s p ≥ 224 by omega, if_true, Bool.false_eq_true, if_false]
    rw [qr.j1.eq_def]
    simp only [show ¬ gI s p < 240 by omega, decide_false, show gI s p ≥ 240 by omega, h4.2, if_true, Bool.false_eq_true, if_false]
    rw [wrap_id (by omega) (by omega), j2_f, e1, l0_step _ _ _ _ _ _ _ (by omega) (by omega) hp (by omega)]; simp only [Nat.reduceAdd]
    by_cases g1 : goesOn s (p + 1) = true
    · rw [if_pos g1, if_pos g1]
      have q1 := of_decide_eq_true (Bool.and_eq_true_iff.mp (Bool.and_eq_true_iff.mp g1).2).1
      have q2 := of_decide_eq_true (Bool.and_eq_true_iff.mp (Bool.and_eq_true_iff.mp g1).2).2
      rw [l0_step _ _ _ _ _ _ _ (by omega) (by omega) hp (by omega)]; simp only [Nat.reduceAdd]
      by_cases g2 : goesOn s (p + 2) = true
      · rw [if_pos g2, if_pos g2]
        have u1 := of_decide_eq_true (Bool.and_eq_true_iff.mp (Bool.and_eq_true_iff.mp g2).2).1
        have u2 := of_decide_eq_true (Bool.and_eq_true_iff.mp (Bool.and_eq_true_iff.mp g2).2).2
        rw [l0_step _ _ _ _ _ _ _ (by omega) (by omega) hp (by omega)]; simp only [Nat.reduceAdd]
        by_cases g3 : goesOn s (p + 3) = true
        · rw [if_pos g3, if_pos g3]; exact l0_end _ _ _ _ _ _
        · rw [if_neg g3, if_neg g3]
      · rw [if_neg g2, if_neg g2]
    · rw [if_neg g1, if_neg g1]
  rw [if_neg h4]
  by_cases h5 : gI s p ≥ 192
  · rw [if_pos h5, qr.j0.eq_def]
    simp only [show ¬ gI s p < 224 by omega, decide_false, show gI s p ≥ 224 by omega, if_true, Bool.false_eq_true, if_false]
    rw [qr.j1.eq_def]
    simp only [show ¬ gI s p < 240 by omega, decide_false, show gI s p ≥ 240 by omega, show ¬ gI s p < 248 by omega, if_true, Bool.false_eq_true, if_false]
  · rw [if_neg h5, qr.j0.eq_def]
    simp only [show ¬ gI s p ≥ 224 by omega, Bool.false_eq_true, if_false]
    rw [qr.j1.eq_def]
    simp only [show ¬ gI s p ≥ 240 by omega, Bool.false_eq_true, if_false]

theorem whole_iff (s : ByteArray) (p : Nat) (h : p < s.size) :
    wholeB (s.extract p s.size) = (decide (p + 2 < s.size) && (decide (gI s p = 239) && (decide (gI s (p + 1) = 191) && decide (gI s (p + 2) = 189)))) := by
  unfold wholeB
  have hsz : (s.extract p s.size).size = s.size - p := by simp
  rw [hsz]
  by_cases h3 : p + 2 < s.size
  · have e : ((s.extract p s.size).extract 0 3).toList = [s.get! p, s.get! (p + 1), s.get! (p + 2)] := by
      have hl : s.data.toList.length = s.size := by simp
      have d0 := List.drop_eq_getElem_cons (l := s.data.toList) (i := p) (by omega)
      have d1 := List.drop_eq_getElem_cons (l := s.data.toList) (i := p + 1) (by omega)
      have d2 := List.drop_eq_getElem_cons (l := s.data.toList) (i := p + 1 + 1) (by omega)
      have g : ∀ i (hi : i < s.size), s.get! i = s.data.toList[i]'(by omega) := by
        intro i hi
        rw [get!_in s i hi, Array.getElem_toList]
        rfl
      rw [Lib.toList_data, ByteArray.data_extract, ByteArray.data_extract, Array.toList_extract, Array.toList_extract, List.extract_eq_take_drop, List.extract_eq_take_drop, List.drop_zero, List.take_take, d0, d1, d2, g p h, g (p + 1) (by omega), g (p + 2) (by omega)]
      rw [show min (3 - 0) (s.size - p) = 3 by omega]
      rfl
    rw [e, decide_eq_true (show 3 ≤ s.size - p by omega), decide_eq_true h3, Bool.true_and, Bool.true_and]
    have hx : ∀ (x : UInt8) (n : Nat) (hn : n < 256), (x == UInt8.ofNat n) = decide ((x.toNat : Int) = (n : Int)) := by
      intro x n hn
      rw [Bool.eq_iff_iff, beq_iff_eq, decide_eq_true_iff]
      constructor
      · rintro rfl
        have := UInt8.toNat_ofNat_of_lt' (n := n) (by simpa using hn)
        omega
      · intro q
        apply UInt8.toNat_inj.mp
        have := UInt8.toNat_ofNat_of_lt' (n := n) (by simpa using hn)
        omega
    show ((s.get! p == UInt8.ofNat 239) && ((s.get! (p + 1) == UInt8.ofNat 191) && ((s.get! (p + 2) == UInt8.ofNat 189) && true))) = _
    rw [hx _ 239 (by omega), hx _ 191 (by omega), hx _ 189 (by omega), Bool.and_true]
    rfl
  · rw [decide_eq_false (show ¬ 3 ≤ s.size - p by omega), decide_eq_false h3, Bool.false_and, Bool.false_and]
theorem cont_on (s : ByteArray) (p : Nat) (h : p < s.size) (j : Nat) : (decide (p + j < s.size) && (s.get! (p + j)).toNat / 64 == 2) = goesOn s (p + j) := by
  unfold goesOn gI
  have := UInt8.toNat_lt (s.get! (p + j))
  rw [Bool.eq_iff_iff]
  simp only [Bool.and_eq_true, decide_eq_true_eq, beq_iff_eq]
  omega
theorem on_iff (s : ByteArray) (i : Nat) : goesOn s i = true ↔ (i < s.size ∧ 128 ≤ gI s i ∧ gI s i ≤ 191) := by
  unfold goesOn
  simp only [Bool.and_eq_true, decide_eq_true_eq]
theorem valid_iff (c : Nat) : Utf8.valid (c : Int) = true ↔ (c < 55296 ∨ (57344 ≤ c ∧ c ≤ 1114111)) := by
  unfold Utf8.valid
  simp only [Bool.or_eq_true, Bool.and_eq_true, decide_eq_true_eq]
  omega
theorem fin_cases (n z least : Int) : (finP n z least = (0, 0) ∧ (n < least ∨ n > 1114111 ∨ (n ≥ 55296 ∧ n ≤ 57343))) ∨ (finP n z least = (n, z) ∧ ¬ (n < least ∨ n > 1114111 ∨ (n ≥ 55296 ∧ n ≤ 57343))) := by
  unfold finP
  split
  · rename_i h; exact Or.inl ⟨rfl, h⟩
  · rename_i h; exact Or.inr ⟨rfl, h⟩
set_option maxHeartbeats 2000000 in
theorem point_bad (s : ByteArray) (p : Nat) (h : p < s.size) :
    (badAt s p = true ∧ ((ptP s p).2 = 0 ∨ (ptP s p).1 = 0)) ∨
      (badAt s p = false ∧ (ptP s p).1 ≠ 0 ∧ 1 ≤ (ptP s p).2 ∧ (ptP s p).2 = ((Utf8.decode s p).2 : Int)) := by
  have hb : badAt s p = true ↔ ((Utf8.decode s p).1 = 0 ∨ ((Utf8.decode s p).1 = 65533 ∧ ¬ (p + 2 < s.size ∧ gI s p = 239 ∧ gI s (p + 1) = 191 ∧ gI s (p + 2) = 189))) := by
    unfold badAt
    rw [whole_iff s p h]
    simp only [Bool.or_eq_true, beq_iff_eq, Bool.and_eq_true, Bool.not_eq_true', Bool.and_eq_false_iff, decide_eq_false_iff_not]
    omega
  have hb' : badAt s p = false ↔ ¬ badAt s p = true := by simp
  rw [hb', hb]
  clear hb hb'
  have e1 : gI s (p + 1) = ((s.get! (p + 1)).toNat : Int) := rfl
  have e2 : gI s (p + 2) = ((s.get! (p + 2)).toNat : Int) := rfl
  have e3 : gI s (p + 3) = ((s.get! (p + 3)).toNat : Int) := rfl
  have e0 : gI s p = ((s.get! p).toNat : Int) := rfl
  have r0 := UInt8.toNat_lt (s.get! p)
  have r1 := UInt8.toNat_lt (s.get! (p + 1))
  have r2 := UInt8.toNat_lt (s.get! (p + 2))
  have r3 := UInt8.toNat_lt (s.get! (p + 3))
  have c1 := on_iff s (p + 1)
  have c2 := on_iff s (p + 2)
  have c3 := on_iff s (p + 3)
  unfold ptP
  simp only [Utf8.decode, Bool.and_assoc, cont_on s p h, Nat.add_zero]
  simp only [e0, e1, e2, e3] at c1 c2 c3 ⊢
  obtain ⟨b0, hb0⟩ : ∃ b, b = (s.get! p).toNat := ⟨_, rfl⟩
  rw [← hb0] at r0
  obtain ⟨b1, hb1⟩ : ∃ b, b = (s.get! (p + 1)).toNat := ⟨_, rfl⟩
  rw [← hb1] at r1
  obtain ⟨b2, hb2⟩ : ∃ b, b = (s.get! (p + 2)).toNat := ⟨_, rfl⟩
  rw [← hb2] at r2
  obtain ⟨b3, hb3⟩ : ∃ b, b = (s.get! (p + 3)).toNat := ⟨_, rfl⟩
  rw [← hb3] at r3
  simp only [← hb0, ← hb1, ← hb2, ← hb3] at c1 c2 c3 ⊢
  clear e0 e1 e2 e3 hb0 hb1 hb2 hb3
  generalize goesOn s (p + 1) = q1 at *
  generalize goesOn s (p + 2) = q2 at *
  generalize goesOn s (p + 3) = q3 at *
  generalize s.size = z at *
  have k1 : (q1 = true ∧ (p + 1 < z ∧ 128 ≤ b1 ∧ b1 ≤ 191)) ∨ (q1 = false ∧ ¬ (p + 1 < z ∧ 128 ≤ b1 ∧ b1 ≤ 191)) := by cases q1 <;> simp at c1 ⊢ <;> omega
  have k2 : (q2 = true ∧ (p + 2 < z ∧ 128 ≤ b2 ∧ b2 ≤ 191)) ∨ (q2 = false ∧ ¬ (p + 2 < z ∧ 128 ≤ b2 ∧ b2 ≤ 191)) := by cases q2 <;> simp at c2 ⊢ <;> omega
  have k3 : (q3 = true ∧ (p + 3 < z ∧ 128 ≤ b3 ∧ b3 ≤ 191)) ∨ (q3 = false ∧ ¬ (p + 3 < z ∧ 128 ≤ b3 ∧ b3 ≤ 191)) := by cases q3 <;> simp at c3 ⊢ <;> omega
  clear c1 c2 c3
  by_cases a1 : b0 < 128
  · rw [if_pos (show (b0 : Int) < 128 by omega), if_pos a1]
    dsimp only
    (try dsimp only); (try simp only [true_or, or_true, true_and, and_true, false_or, or_false, false_and, and_false, ne_eq, not_true_eq_false, not_false_eq_true]); first | done | omega
  rw [if_neg (show ¬ (b0 : Int) < 128 by omega), if_neg a1]
  by_cases a2 : b0 / 32 = 6
  · rw [if_pos (show 192 ≤ (b0 : Int) ∧ (b0 : Int) < 224 by omega)]
    have x6 : (b0 / 32 == 6) = true := beq_iff_eq.mpr a2
    have x14 : (b0 / 16 == 14) = false := beq_eq_false_iff_ne.mpr (by omega)
    have x30 : (b0 / 8 == 30) = false := beq_eq_false_iff_ne.mpr (by omega)
    rcases k1 with ⟨rfl, k1⟩ | ⟨rfl, k1⟩
    · have hv := True.intro
      rcases fin_cases (64 * ((b0 : Int) - 192) + ((b1 : Int) - 128)) 2 128 with ⟨e_, hf⟩ | ⟨e_, hf⟩
      · rw [e_]
        simp only [x6, x14, x30, beq_self_eq_true, Bool.false_and, Bool.true_and, Bool.and_false, Bool.and_true, if_true, Bool.false_eq_true, if_false, Utf8.runeError, ge_iff_le]
        split
        · (try dsimp only); (try simp only [true_or, or_true, true_and, and_true, false_or, or_false, false_and, and_false, ne_eq, not_true_eq_false, not_false_eq_true]); first | done | omega
        · (try dsimp only); (try simp only [true_or, or_true, true_and, and_true, false_or, or_false, false_and, and_false, ne_eq, not_true_eq_false, not_false_eq_true]); first | done | omega
      · rw [e_]
        simp only [x6, x14, x30, beq_self_eq_true, Bool.false_and, Bool.true_and, Bool.and_false, Bool.and_true, if_true, Bool.false_eq_true, if_false, Utf8.runeError, ge_iff_le]
        split
        · (try dsimp only); (try simp only [true_or, or_true, true_and, and_true, false_or, or_false, false_and, and_false, ne_eq, not_true_eq_false, not_false_eq_true]); first | done | omega
        · (try dsimp only); (try simp only [true_or, or_true, true_and, and_true, false_or, or_false, false_and, and_false, ne_eq, not_true_eq_false, not_false_eq_true]); first | done | omega
    · simp only [x6, x14, x30, beq_self_eq_true, Bool.false_and, Bool.true_and, Bool.and_false, Bool.and_true, if_true, Bool.false_eq_true, if_false, Utf8.runeError, ge_iff_le]
      (try dsimp only); (try simp only [true_or, or_true, true_and, and_true, false_or, or_false, false_and, and_false, ne_eq, not_true_eq_false, not_false_eq_true]); first | done | omega
  rw [if_neg (show ¬ (192 ≤ (b0 : Int) ∧ (b0 : Int) < 224) by omega)]
  have x6 : (b0 / 32 == 6) = false := beq_eq_false_iff_ne.mpr a2
  by_cases a3 : b0 / 16 = 14
  · rw [if_pos (show 224 ≤ (b0 : Int) ∧ (b0 : Int) < 240 by omega)]
    have x14 : (b0 / 16 == 14) = true := beq_iff_eq.mpr a3
    have x30 : (b0 / 8 == 30) = false := beq_eq_false_iff_ne.mpr (by omega)
    rcases k1 with ⟨rfl, k1⟩ | ⟨rfl, k1⟩
    · rcases k2 with ⟨rfl, k2⟩ | ⟨rfl, k2⟩
      · have hv := valid_iff (b0 % 16 * 4096 + b1 % 64 * 64 + b2 % 64)
        rcases fin_cases (64 * (64 * ((b0 : Int) - 224) + ((b1 : Int) - 128)) + ((b2 : Int) - 128)) 3 2048 with ⟨e_, hf⟩ | ⟨e_, hf⟩
        · rw [e_]
          simp only [x6, x14, x30, beq_self_eq_true, Bool.false_and, Bool.true_and, Bool.and_false, Bool.and_true, if_true, Bool.false_eq_true, if_false, Utf8.runeError, ge_iff_le, Bool.and_eq_true, decide_eq_true_eq, hv]
          split
          · (try dsimp only); (try simp only [true_or, or_true, true_and, and_true, false_or, or_false, false_and, and_false, ne_eq, not_true_eq_false, not_false_eq_true]); first | done | omega
          · (try dsimp only); (try simp only [true_or, or_true, true_and, and_true, false_or, or_false, false_and, and_false, ne_eq, not_true_eq_false, not_false_eq_true]); first | done | omega
        · rw [e_]
          simp only [x6, x14, x30, beq_self_eq_true, Bool.false_and, Bool.true_and, Bool.and_false, Bool.and_true, if_true, Bool.false_eq_true, if_false, Utf8.runeError, ge_iff_le, Bool.and_eq_true, decide_eq_true_eq, hv]
          split
          · (try dsimp only); (try simp only [true_or, or_true, true_and, and_true, false_or, or_false, false_and, and_false, ne_eq, not_true_eq_false, not_false_eq_true]); first | done | omega
          · (try dsimp only); (try simp only [true_or, or_true, true_and, and_true, false_or, or_false, false_and, and_false, ne_eq, not_true_eq_false, not_false_eq_true]); first | done | omega
      · simp only [x6, x14, x30, beq_self_eq_true, Bool.false_and, Bool.true_and, Bool.and_false, Bool.and_true, if_true, Bool.false_eq_true, if_false, Utf8.runeError, ge_iff_le]
        (try dsimp only); (try simp only [true_or, or_true, true_and, and_true, false_or, or_false, false_and, and_false, ne_eq, not_true_eq_false, not_false_eq_true]); first | done | omega
    · simp only [x6, x14, x30, beq_self_eq_true, Bool.false_and, Bool.true_and, Bool.and_false, Bool.and_true, if_true, Bool.false_eq_true, if_false, Utf8.runeError, ge_iff_le]
      (try dsimp only); (try simp only [true_or, or_true, true_and, and_true, false_or, or_false, false_and, and_false, ne_eq, not_true_eq_false, not_false_eq_true]); first | done | omega
  rw [if_neg (show ¬ (224 ≤ (b0 : Int) ∧ (b0 : Int) < 240) by omega)]
  have x14 : (b0 / 16 == 14) = false := beq_eq_false_iff_ne.mpr a3
  by_cases a4 : b0 / 8 = 30
  · rw [if_pos (show 240 ≤ (b0 : Int) ∧ (b0 : Int) < 248 by omega)]
    have x30 : (b0 / 8 == 30) = true := beq_iff_eq.mpr a4
    rcases k1 with ⟨rfl, k1⟩ | ⟨rfl, k1⟩
    · rcases k2 with ⟨rfl, k2⟩ | ⟨rfl, k2⟩
      · rcases k3 with ⟨rfl, k3⟩ | ⟨rfl, k3⟩
        · have hv := valid_iff (b0 % 8 * 262144 + b1 % 64 * 4096 + b2 % 64 * 64 + b3 % 64)
          rcases fin_cases (64 * (64 * (64 * ((b0 : Int) - 240) + ((b1 : Int) - 128)) + ((b2 : Int) - 128)) + ((b3 : Int) - 128)) 4 65536 with ⟨e_, hf⟩ | ⟨e_, hf⟩
          · rw [e_]
            simp only [x6, x14, x30, beq_self_eq_true, Bool.false_and, Bool.true_and, Bool.and_false, Bool.and_true, if_true, Bool.false_eq_true, if_false, Utf8.runeError, ge_iff_le, Bool.and_eq_true, decide_eq_true_eq, hv]
            split
            · (try dsimp only); (try simp only [true_or, or_true, true_and, and_true, false_or, or_false, false_and, and_false, ne_eq, not_true_eq_false, not_false_eq_true]); first | done | omega
            · (try dsimp only); (try simp only [true_or, or_true, true_and, and_true, false_or, or_false, false_and, and_false, ne_eq, not_true_eq_false, not_false_eq_true]); first | done | omega
          · rw [e_]
            simp only [x6, x14, x30, beq_self_eq_true, Bool.false_and, Bool.true_and, Bool.and_false, Bool.and_true, if_true, Bool.false_eq_true, if_false, Utf8.runeError, ge_iff_le, Bool.and_eq_true, decide_eq_true_eq, hv]
            split
            · (try dsimp only); (try simp only [true_or, or_true, true_and, and_true, false_or, or_false, false_and, and_false, ne_eq, not_true_eq_false, not_false_eq_true]); first | done | omega
            · (try dsimp only); (try simp only [true_or, or_true, true_and, and_true, false_or, or_false, false_and, and_false, ne_eq, not_true_eq_false, not_false_eq_true]); first | done | omega
        · simp only [x6, x14, x30, beq_self_eq_true, Bool.false_and, Bool.true_and, Bool.and_false, Bool.and_true, if_true, Bool.false_eq_true, if_false, Utf8.runeError, ge_iff_le]
          (try dsimp only); (try simp only [true_or, or_true, true_and, and_true, false_or, or_false, false_and, and_false, ne_eq, not_true_eq_false, not_false_eq_true]); first | done | omega
      · simp only [x6, x14, x30, beq_self_eq_true, Bool.false_and, Bool.true_and, Bool.and_false, Bool.and_true, if_true, Bool.false_eq_true, if_false, Utf8.runeError, ge_iff_le]
        (try dsimp only); (try simp only [true_or, or_true, true_and, and_true, false_or, or_false, false_and, and_false, ne_eq, not_true_eq_false, not_false_eq_true]); first | done | omega
    · simp only [x6, x14, x30, beq_self_eq_true, Bool.false_and, Bool.true_and, Bool.and_false, Bool.and_true, if_true, Bool.false_eq_true, if_false, Utf8.runeError, ge_iff_le]
      (try dsimp only); (try simp only [true_or, or_true, true_and, and_true, false_or, or_false, false_and, and_false, ne_eq, not_true_eq_false, not_false_eq_true]); first | done | omega
  rw [if_neg (show ¬ (240 ≤ (b0 : Int) ∧ (b0 : Int) < 248) by omega)]
  have x30 : (b0 / 8 == 30) = false := beq_eq_false_iff_ne.mpr a4
  simp only [x6, x14, x30, beq_self_eq_true, Bool.false_and, Bool.true_and, Bool.and_false, Bool.and_true, if_true, Bool.false_eq_true, if_false, Utf8.runeError, ge_iff_le]
  (try dsimp only); (try simp only [true_or, or_true, true_and, and_true, false_or, or_false, false_and, and_false, ne_eq, not_true_eq_false, not_false_eq_true]); first | done | omega
theorem decode_fits (s : ByteArray) (p : Nat) (h : p < s.size) : p + (Utf8.decode s p).2 ≤ s.size := by
  simp only [Utf8.decode, Bool.and_eq_true, decide_eq_true_eq, beq_iff_eq, Nat.add_zero]
  repeat' split
  all_goals simp only []
  all_goals omega
theorem refBad_f (s : ByteArray) (hs : s.size < 4294967296) : ∀ (b k p : Nat), p ≤ s.size → s.size - p ≤ b → q1x.l0 (k + b + 9) s p = some (badTo s b p) := by
  intro b
  induction b with
  | zero =>
    intro k p h1 h2
    rw [q1x.l0.eq_def]
    simp only []
    rw [if_neg (by omega), badTo_end s 0 p (by omega)]
  | succ b ih =>
    intro k p h1 h2
    by_cases hp : p < s.size
    · rw [show k + (b + 1) + 9 = (k + b + 9) + 1 by omega, q1x.l0.eq_def]
      simp only []
      rw [if_pos (by omega), show k + b + 9 = (k + b + 1) + 8 by omega, point_f _ s p hp hs, badTo]
      simp only [Option.bind_some, hp, if_true]
      rcases point_bad s p hp with ⟨q1, q2⟩ | ⟨q1, q2, q3, q4⟩
      · rw [q1]
        simp only [if_true]
        rcases q2 with q2 | q2 <;> simp [q2]
      · have hw := decode_fits s p hp
        rw [if_neg (show ¬ (ptP s p).2 = 0 by omega), if_neg q2, q1, wrap_id (by omega) (by omega), show k + b + 1 + 8 = k + b + 9 by omega]
        rw [q4, show (p : Int) + ((Utf8.decode s p).2 : Int) = ((p + (Utf8.decode s p).2 : Nat) : Int) by omega]
        rw [ih k (p + (Utf8.decode s p).2) (by omega) (by omega)]
        simp
    · rw [show k + (b + 1) + 9 = (k + b + 9) + 1 by omega, q1x.l0.eq_def]
      simp only []
      rw [if_neg (by omega), badTo_end s _ p (by omega)]
theorem refValid_f (s : ByteArray) (hs : s.size < 4294967296) (k : Nat) : q1d.f (k + s.size + 9) s = some (validS s) := by
  unfold q1d.f validS q1x.f
  have := refBad_f s hs s.size k 0 (by omega) (by omega)
  rw [show ((0 : Nat) : Int) = 0 from rfl] at this
  rw [this]
  have hp : ∀ b p, badTo s b p = -1 ∨ 0 ≤ badTo s b p := by
    intro b
    induction b with
    | zero => intro p; exact Or.inl rfl
    | succ b ih =>
      intro p
      unfold badTo
      split
      · split
        · exact Or.inr (by omega)
        · exact ih _
      · exact Or.inl rfl
  have := hp s.size 0
  by_cases h : (s.size : Int) ≤ 65535
  · rw [if_pos h]
    simp only [Option.bind_some, h, decide_true, Bool.true_and, Option.some.injEq]
    rw [Bool.eq_iff_iff, decide_eq_true_iff, beq_iff_eq]
    omega
  · rw [if_neg h, decide_eq_false h, Bool.false_and]
end Go.Proofs.YtngmipfobcaojaaGreat.HA
end

-- YtngmipfobcaojaaGreatHAhNameLaw
section
namespace Go.Proofs.YtngmipfobcaojaaGreat.HA
open Go.RowKit Go.Proofs.YtngmipfobcaojaaGreatW.PrintWords Go.Proofs.YtngmipfobcaojaaGreatW.PrintLast Go.Proofs.YtngmipfobcaojaaGreatW.PrintMore
def hasB (s : ByteArray) (c : Int) : Bool := s.data.toList.any fun u => ((u.toNat : Nat) : Int) == c
theorem has_l0 (s : ByteArray) (c : Int) (hs : s.size ≤ 1000000) : ∀ (d k i : Nat), i + d = s.size → d < k → q1m.l0 k s c i = some ((s.data.toList.drop i).any fun u => ((u.toNat : Nat) : Int) == c) := by
  intro d
  induction d with
  | zero =>
    intro k i hi hk
    obtain ⟨k, rfl⟩ : ∃ m, k = m + 1 := ⟨k - 1, by omega⟩
    rw [q1m.l0.eq_def]
    simp only []
    rw [if_neg (by omega), List.drop_of_length_le (by simp; omega)]
    rfl
  | succ d ih =>
    intro k i hi hk
    obtain ⟨k, rfl⟩ : ∃ m, k = m + 1 := ⟨k - 1, by omega⟩
    rw [q1m.l0.eq_def]
    simp only []
    have hlt : i < s.data.toList.length := by simp; omega
    have hb : bt s (i : Int) = ((s.data.toList[i].toNat : Nat) : Int) := by
      rw [← rd_bytesOf]
      unfold rd bytesOf
      rw [List.getD_eq_getElem?_getD, Int.toNat_natCast, List.getElem?_map, List.getElem?_eq_getElem hlt]
      rfl
    rw [if_pos (by omega), if_pos (by omega), hb, List.drop_eq_getElem_cons hlt, List.any_cons]
    by_cases e : ((s.data.toList[i].toNat : Nat) : Int) = c
    · rw [if_pos e, beq_iff_eq.2 e]; rfl
    · rw [if_neg e, beq_eq_false_iff_ne.2 e, show wrap64 ((i : Int) + 1) = ((i + 1 : Nat) : Int) by unfold wrap64; omega, ih k (i + 1) (by omega) (by omega)]
      rfl
theorem has4_f (s : ByteArray) (c : Int) (k : Nat) (hs : s.size ≤ 1000000) (hk : s.size < k) : q1m.f k s c = some (hasB s c) := by
  unfold q1m.f
  have := has_l0 s c hs s.size k 0 (by omega) hk
  rw [show ((0 : Nat) : Int) = 0 from rfl, List.drop_zero] at this
  exact this
theorem hasB_eq (s : ByteArray) (c : Nat) (hc : c < 256) : hasB s (c : Int) = s.data.toList.contains (UInt8.ofNat c) := by
  unfold hasB
  rw [List.contains_eq_any_beq]
  congr 1
  funext u
  rw [Bool.eq_iff_iff, beq_iff_eq, beq_iff_eq]
  constructor
  · intro h
    have : u.toNat = c := by omega
    rw [← this]
    simp
  · intro h
    subst h
    rw [UInt8.toNat_ofNat_of_lt' (by simpa using hc)]
theorem ref4Name_g (s : ByteArray) (k : Nat) (hs : s.size ≤ 1000000) (hk : s.size + 9 ≤ k) : polyglotref04_Name.f k s = some (nameS s) := by
  unfold polyglotref04_Name.f nameS wildIn
  have hv : q1d.f k s = some (validS s) := by
    have := refValid_f s (by omega) (k - s.size - 9)
    rwa [show k - s.size - 9 + s.size + 9 = k by omega] at this
  have h43 := hasB_eq s 43 (by omega)
  have h35 := hasB_eq s 35 (by omega)
  rw [hv, has4_f s 43 k (by omega) (by omega), has4_f s 35 k (by omega) (by omega)]
  simp only [Option.bind_some]
  rw [show (43 : Int) = ((43 : Nat) : Int) from rfl, show (35 : Int) = ((35 : Nat) : Int) from rfl, h43, h35]
  rw [show UInt8.ofNat 43 = 43 from rfl, show UInt8.ofNat 35 = 35 from rfl]
  by_cases h : s.toList = []
  · simp [h]
  · rw [if_neg h, beq_eq_false_iff_ne.2 h]
    cases validS s <;> cases s.data.toList.contains 43 <;> cases s.data.toList.contains 35 <;> rfl
end Go.Proofs.YtngmipfobcaojaaGreat.HA
end

-- YtngmipfobcaojaaGreatHAhVarLaw
section
namespace Go.Proofs.YtngmipfobcaojaaGreat.HA
open Go.RowKit Go.Proofs.YtngmipfobcaojaaGreatW.PrintWords Go.Proofs.YtngmipfobcaojaaGreatW.PrintLast Go.Proofs.YtngmipfobcaojaaGreatW.PrintMore
theorem bytesOf_append (a b : ByteArray) : bytesOf (a ++ b) = bytesOf a ++ bytesOf b := by
  unfold bytesOf
  simp [ByteArray.data_append]
theorem bt_drop (s : ByteArray) (l : List Int) (i : Nat) (h : (bytesOf s).drop i = l) (j : Nat) (hj : j < l.length) : bt s ((i + j : Nat) : Int) = l[j]'hj ∧ i + j < s.size := by
  have hl : i + j < (bytesOf s).length := by
    have := congrArg List.length h
    rw [List.length_drop] at this
    omega
  refine ⟨?_, by rw [bytesOf_length] at hl; exact hl⟩
  rw [← rd_bytesOf]
  unfold rd
  subst h
  rw [List.getD_eq_getElem?_getD, Int.toNat_natCast, List.getElem?_eq_getElem hl]
  simp
end Go.Proofs.YtngmipfobcaojaaGreat.HA
end

-- YtngmipfobcaojaaGreatHAhPutGet
section
namespace Go.Proofs.YtngmipfobcaojaaGreat.HA
open Go.RowKit Go.Proofs.YtngmipfobcaojaaGreatW.PrintWords Go.Proofs.YtngmipfobcaojaaGreatW.PrintLast Go.Proofs.YtngmipfobcaojaaGreatW.PrintMore
theorem getF_eq (x b : Int) (hx : 0 ≤ x) (hx2 : x < 72057594037927936) (hb : 0 ≤ b) (hb2 : b < 256) : getF x b = x * 256 + b := by
  unfold getF
  rw [u64w (x * 256) (by omega) (by omega), u64w b (by omega) (by omega)]
  obtain ⟨a, rfl⟩ := Int.eq_ofNat_of_zero_le hx
  obtain ⟨c, rfl⟩ := Int.eq_ofNat_of_zero_le hb
  rw [show (a : Int) * 256 = ((a * 256 : Nat) : Int) by omega, bits_or_u64_nat _ _ (by omega) (by omega)]
  have : a * 256 ||| c = a * 256 + c := by
    rw [show a * 256 = 2 ^ 8 * a by omega, Nat.two_pow_add_eq_or_of_lt (show c < 2 ^ 8 by omega)]
  rw [this]
  omega
theorem bytes_nums (l : List Int) (h : ∀ x ∈ l, 0 ≤ x ∧ x < 256) : bytesOf (strOfNums l) = l := by
  unfold bytesOf
  rw [Go.strOfNums_data, List.map_map]
  conv => rhs; rw [← List.map_id l]
  apply List.map_congr_left
  intro x hx
  have := h x hx
  simp only [Function.comp, id]
  rw [UInt8.toNat_ofNat_of_lt' (by simp; omega)]
  omega
theorem nums_bytes (s : ByteArray) : strOfNums (bytesOf s) = s := by
  unfold strOfNums bytesOf
  rw [List.map_map]
  have : ((fun n : Int => UInt8.ofNat n.toNat) ∘ fun b : UInt8 => ((b.toNat : Nat) : Int)) = id := by
    funext b
    simp
  rw [this, List.map_id]
theorem put1 (n : Int) : putS n 1 = strOfNums [n % 256] := by simp [putS, putTo]
theorem put2 (n : Int) : putS n 2 = strOfNums [n / 256 % 256, n % 256] := by simp [putS, putTo]
theorem put4 (n : Int) : putS n 4 = strOfNums [n / 16777216 % 256, n / 65536 % 256, n / 256 % 256, n % 256] := by simp [putS, putTo]
theorem last_id (s : ByteArray) (h : s.size ≤ 8) : lastS s = s := by unfold lastS; rw [if_neg (by omega)]
theorem get1 (a : Int) (h : 0 ≤ a ∧ a < 256) : getS (strOfNums [a]) = a := by
  unfold getS
  rw [last_id _ (by rw [strOfNums_size]; simp), bytes_nums _ (by simpa using h)]
  simp only [List.foldl]
  rw [getF_eq _ _ (by omega) (by omega) h.1 h.2]
  omega
theorem get2 (a b : Int) (ha : 0 ≤ a ∧ a < 256) (hb : 0 ≤ b ∧ b < 256) : getS (strOfNums [a, b]) = a * 256 + b := by
  unfold getS
  rw [last_id _ (by rw [strOfNums_size]; simp), bytes_nums _ (by simp; exact ⟨ha, hb⟩)]
  simp only [List.foldl]
  rw [getF_eq 0 a (by omega) (by omega) ha.1 ha.2, getF_eq _ b (by omega) (by omega) hb.1 hb.2]
  omega
theorem get4 (a b c d : Int) (ha : 0 ≤ a ∧ a < 256) (hb : 0 ≤ b ∧ b < 256) (hc : 0 ≤ c ∧ c < 256) (hd : 0 ≤ d ∧ d < 256) : getS (strOfNums [a, b, c, d]) = a * 16777216 + b * 65536 + c * 256 + d := by
  unfold getS
  rw [last_id _ (by rw [strOfNums_size]; simp), bytes_nums _ (by simp; exact ⟨ha, hb, hc, hd⟩)]
  simp only [List.foldl]
  rw [getF_eq 0 a (by omega) (by omega) ha.1 ha.2, getF_eq _ b (by omega) (by omega) hb.1 hb.2, getF_eq _ c (by omega) (by omega) hc.1 hc.2, getF_eq _ d (by omega) (by omega) hd.1 hd.2]
  omega
theorem bytesOf_range (s : ByteArray) : ∀ x ∈ bytesOf s, 0 ≤ x ∧ x < 256 := by
  intro x hx
  obtain ⟨b, _, rfl⟩ := List.mem_map.1 hx
  have := UInt8.toNat_lt b
  omega
theorem put_get1 (s : ByteArray) (h : s.size = 1) : putS (getS s) 1 = s ∧ 0 ≤ getS s ∧ getS s < 256 := by
  have hr := bytesOf_range s
  have hn := nums_bytes s
  have hl := bytesOf_length s
  generalize bytesOf s = l at *
  subst hn
  match l, hl.trans h with
  | [a], _ =>
    have ha := hr a (by simp)
    rw [get1 a ha, put1]
    refine ⟨?_, ha⟩
    rw [Int.emod_eq_of_lt ha.1 ha.2]
theorem put_get2 (s : ByteArray) (h : s.size = 2) : putS (getS s) 2 = s ∧ 0 ≤ getS s ∧ getS s < 65536 := by
  have hr := bytesOf_range s
  have hn := nums_bytes s
  have hl := bytesOf_length s
  generalize bytesOf s = l at *
  subst hn
  match l, hl.trans h with
  | [a, b], _ =>
    have ha := hr a (by simp)
    have hb := hr b (by simp)
    rw [get2 a b ha hb, put2]
    refine ⟨?_, by omega⟩
    rw [show (a * 256 + b) / 256 % 256 = a by omega, show (a * 256 + b) % 256 = b by omega]
theorem put_get4 (s : ByteArray) (h : s.size = 4) : putS (getS s) 4 = s ∧ 0 ≤ getS s ∧ getS s < 4294967296 := by
  have hr := bytesOf_range s
  have hn := nums_bytes s
  have hl := bytesOf_length s
  generalize bytesOf s = l at *
  subst hn
  match l, hl.trans h with
  | [a, b, c, d], _ =>
    have ha := hr a (by simp)
    have hb := hr b (by simp)
    have hc := hr c (by simp)
    have hd := hr d (by simp)
    rw [get4 a b c d ha hb hc hd, put4]
    refine ⟨?_, by omega⟩
    rw [show (a * 16777216 + b * 65536 + c * 256 + d) / 16777216 % 256 = a by omega, show (a * 16777216 + b * 65536 + c * 256 + d) / 65536 % 256 = b by omega, show (a * 16777216 + b * 65536 + c * 256 + d) / 256 % 256 = c by omega, show (a * 16777216 + b * 65536 + c * 256 + d) % 256 = d by omega]
end Go.Proofs.YtngmipfobcaojaaGreat.HA
end

-- YtngmipfobcaojaaGreatHAhRefA
section
namespace Go.Proofs.YtngmipfobcaojaaGreat.HA
open Go.RowKit Go.Proofs.YtngmipfobcaojaaGreatW.PrintWords Go.Proofs.YtngmipfobcaojaaGreatW.PrintLast Go.Proofs.YtngmipfobcaojaaGreatW.PrintMore
def down (n : Int) : Nat → List Int
  | 0 => []
  | j + 1 => n / 2 ^ (8 * j) % 256 :: down n j
theorem refPut_l0 (n : Int) : ∀ (j k : Nat) (l : List Int), j ≤ 8 → j < k → l.length + j ≤ 100 → qz.l0 k n l ((j : Int) - 1) = some (strOfNums (l ++ down n j)) := by
  intro j
  induction j with
  | zero =>
    intro k l _ hk _
    obtain ⟨k, rfl⟩ : ∃ m, k = m + 1 := ⟨k - 1, by omega⟩
    rw [qz.l0.eq_def]
    simp only []
    rw [if_neg (by omega), down, List.append_nil]
  | succ j ih =>
    intro k l hj hk hl
    obtain ⟨k, rfl⟩ : ∃ m, k = m + 1 := ⟨k - 1, by omega⟩
    rw [qz.l0.eq_def]
    simp only []
    have e0 : (((j + 1 : Nat) : Int) - 1) = (j : Int) := by omega
    rw [e0, if_pos (by omega), if_pos (by omega)]
    have e1 : IntKind.u64.wrap (wrap64 (8 * (j : Int))) = ((8 * j : Nat) : Int) := by
      rw [w64 _ (by omega) (by omega), u64w _ (by omega) (by omega)]
      push_cast
      rfl
    have e3 : shr .u64 n ((8 * j : Nat) : Int) = n / 2 ^ (8 * j) := by
      unfold shr
      rw [Int.toNat_natCast, Nat.min_eq_left (by show 8 * j ≤ 64; omega)]
    rw [e1, if_pos (by omega), if_pos (by omega), e3, w64 _ (by omega) (by omega), ih k _ (by omega) (by omega) (by simp; omega), down]
    simp
theorem refPut1 (k : Nat) (n : Int) (hk : 1 < k) : qz.f k n 1 = some (putS n 1) := by
  have := refPut_l0 n 1 k [] (by omega) hk (by simp)
  unfold qz.f
  have e : (mx 0 (mn 1 16)) - 1 = (((1 : Nat) : Int) - 1) := by decide
  rw [e, this, put1]
  simp [down]
theorem refPut2 (k : Nat) (n : Int) (hk : 2 < k) : qz.f k n 2 = some (putS n 2) := by
  have := refPut_l0 n 2 k [] (by omega) hk (by simp)
  unfold qz.f
  have e : (mx 0 (mn 2 16)) - 1 = (((2 : Nat) : Int) - 1) := by decide
  rw [e, this, put2]
  simp [down]
theorem refPut4 (k : Nat) (n : Int) (hk : 4 < k) : qz.f k n 4 = some (putS n 4) := by
  have := refPut_l0 n 4 k [] (by omega) hk (by simp)
  unfold qz.f
  have e : (mx 0 (mn 4 16)) - 1 = (((4 : Nat) : Int) - 1) := by decide
  rw [e, this, put4]
  simp [down]
theorem refGet_l0 (s : ByteArray) (hs : s.size ≤ 8) : ∀ (d k i : Nat) (x : Int), i + d = s.size → d < k → q1p.l0 k s x i = some (((bytesOf s).drop i).foldl getF x) := by
  intro d
  induction d with
  | zero =>
    intro k i x hi hk
    obtain ⟨k, rfl⟩ : ∃ m, k = m + 1 := ⟨k - 1, by omega⟩
    rw [q1p.l0.eq_def]
    simp only []
    rw [if_neg (by omega), List.drop_of_length_le (by rw [bytesOf_length]; omega)]
    rfl
  | succ d ih =>
    intro k i x hi hk
    obtain ⟨k, rfl⟩ : ∃ m, k = m + 1 := ⟨k - 1, by omega⟩
    rw [q1p.l0.eq_def]
    simp only []
    rw [if_pos (by omega), if_pos (by omega), w64g _ (by omega) (by omega), show (i : Int) + 1 = ((i + 1 : Nat) : Int) by omega, ih k (i + 1) _ (by omega) (by omega)]
    have hl : i < (bytesOf s).length := by rw [bytesOf_length]; omega
    rw [List.drop_eq_getElem_cons hl, List.foldl_cons]
    have e : bt s (i : Int) = (bytesOf s)[i]'hl := by
      rw [← rd_bytesOf]
      unfold rd
      rw [List.getD_eq_getElem?_getD, Int.toNat_natCast, List.getElem?_eq_getElem hl]
      rfl
    rw [← e]
    rfl
theorem refGet_f (k : Nat) (s : ByteArray) (hk : s.size < k) (hs : s.size ≤ 8) : q1p.f k s = some (getS s) := by
  unfold q1p.f getS
  have e : mx 0 (wrap64 ((s.size : Int) - 8)) = ((0 : Nat) : Int) := by
    rw [w64 _ (by omega) (by omega)]
    unfold mx
    split <;> omega
  rw [e, refGet_l0 s hs s.size k 0 0 (by omega) hk, List.drop_zero, last_id s hs]
theorem or128 : ∀ b : Fin 128, Go.bits .or .u8 (((b.val : Nat) : Int) % 256) 128 = (((b.val : Nat) : Int) + 128) % 256 := by decide +kernel
theorem tmod_nat (x : Nat) : Int.tmod (x : Int) 128 = ((x % 128 : Nat) : Int) := by
  rw [Int.tmod_eq_emod_of_nonneg (by omega)]
  omega
theorem tdiv_nat (x : Nat) : Int.tdiv (x : Int) 128 = ((x / 128 : Nat) : Int) := by
  rw [Int.tdiv_eq_ediv_of_nonneg (by omega)]
  omega
theorem ref2_l0 : ∀ (d k x i : Nat) (l : List Int), x < 128 ^ (d + 1) → (d = 0 ∨ 128 ^ d ≤ x) → d + 1 < k → x < 1000000000 → l.length + d ≤ 100 → i + d ≤ 3 →
    q16.l0 k x ((i + d + 1 : Nat) : Int) l i = some (strOfNums (l ++ varTo d x), 0) := by
  intro d
  induction d with
  | zero =>
    intro k x i l hx _ hk hb hl hi
    obtain ⟨k, rfl⟩ : ∃ m, k = m + 2 := ⟨k - 2, by omega⟩
    rw [show k + 2 = (k + 1) + 1 from rfl, q16.l0.eq_def]
    simp only []
    rw [w64 ((i : Int) + 1) (by omega) (by omega), if_pos (by omega), if_neg (by omega), if_pos (by omega), tmod_nat, tdiv_nat, q16.l0.eq_def]
    simp only []
    rw [if_neg (by omega), varTo]
    have : x % 128 = x := Nat.mod_eq_of_lt (by omega)
    rw [this]
  | succ d ih =>
    intro k x i l hx hlo hk hb hl hi
    obtain ⟨k, rfl⟩ : ∃ m, k = m + 1 := ⟨k - 1, by omega⟩
    have hlo : 128 ^ (d + 1) ≤ x := by rcases hlo with h | h; · omega
                                       · exact h
    rw [Nat.pow_succ] at hx hlo
    have h128 : 128 ≤ x := by
      have : 1 ≤ 128 ^ d := Nat.one_le_pow _ _ (by omega)
      omega
    rw [q16.l0.eq_def]
    simp only []
    rw [w64 ((i : Int) + 1) (by omega) (by omega), if_pos (by omega), if_pos (by omega), if_pos (by omega), tmod_nat, tdiv_nat, w64 _ (by omega) (by omega), show (i : Int) + 1 = ((i + 1 : Nat) : Int) by omega, show i + (d + 1) + 1 = (i + 1) + d + 1 by omega]
    rw [ih k (x / 128) (i + 1) _ (by rw [Nat.pow_succ] at hx ⊢; omega) (Or.inr (by omega)) (by omega) (by omega) (by simp; omega) (by omega), varTo, if_pos (by omega)]
    have e := or128 ⟨x % 128, Nat.mod_lt _ (by omega)⟩
    simp only [] at e
    rw [show ((x : Int) % 128) = ((x % 128 : Nat) : Int) by omega, e]
    simp
theorem varTo_more : ∀ (d x : Nat), x < 128 ^ (d + 1) → varTo (d + 1) x = varTo d x := by
  intro d
  induction d with
  | zero => intro x h; rw [varTo, varTo, if_neg (by omega)]
  | succ d ih =>
    intro x h
    rw [Nat.pow_succ] at h
    have e1 : varTo (d + 1 + 1) x = (if x ≥ 128 then Go.bits .or .u8 (((x : Int) % 128) % 256) 128 :: varTo (d + 1) (x / 128) else [(x : Int) % 256]) := rfl
    have e2 : varTo (d + 1) x = (if x ≥ 128 then Go.bits .or .u8 (((x : Int) % 128) % 256) 128 :: varTo d (x / 128) else [(x : Int) % 256]) := rfl
    rw [e1, e2, ih (x / 128) (by omega)]
theorem ref2Bytes_f (k : Nat) (n : Int) (hk : 8 < k) : q16.f k n = some (varS n) := by
  obtain ⟨k, rfl⟩ : ∃ m, k = m + 1 := ⟨k - 1, by omega⟩
  unfold q16.f q1w.f varS
  by_cases h0 : n < 0
  · rw [if_pos h0, q1w.j0.eq_def, if_neg (by omega)]
    simp
  rw [if_neg h0, q1w.j0.eq_def]
  by_cases h1 : n > 268435455
  · rw [if_neg (by omega), decide_eq_true h1]
    simp
  rw [if_pos (by omega), decide_eq_false h1]
  simp only [Bool.false_eq_true, if_false]
  obtain ⟨x, rfl⟩ : ∃ x : Nat, n = x := ⟨n.toNat, by omega⟩
  rw [Int.toNat_natCast]
  by_cases h2 : (x : Int) < 128
  · rw [if_pos h2, varTo_more 2 x (by omega), varTo_more 1 x (by omega), varTo_more 0 x (by omega)]
    have := ref2_l0 0 (k + 1) x 0 [] (by omega) (Or.inl rfl) (by omega) (by omega) (by simp) (by omega)
    simpa using this
  rw [if_neg h2]
  by_cases h3 : (x : Int) < 16384
  · rw [if_pos h3, varTo_more 2 x (by omega), varTo_more 1 x (by omega)]
    have := ref2_l0 1 (k + 1) x 0 [] (by omega) (Or.inr (by omega)) (by omega) (by omega) (by simp) (by omega)
    simpa using this
  rw [if_neg h3]
  by_cases h4 : (x : Int) < 2097152
  · rw [if_pos h4, varTo_more 2 x (by omega)]
    have := ref2_l0 2 (k + 1) x 0 [] (by omega) (Or.inr (by omega)) (by omega) (by omega) (by simp) (by omega)
    simpa using this
  rw [if_neg h4]
  have := ref2_l0 3 (k + 1) x 0 [] (by omega) (Or.inr (by omega)) (by omega) (by omega) (by simp) (by omega)
  simpa using this
theorem tmod_byte (b : Nat) (hb : b < 256) : wrap64 (Int.tmod (b : Int) 128) = ((b % 128 : Nat) : Int) := by
  rw [tmod_nat, w64 _ (by omega) (by omega)]
theorem lt128 (acc M q : Nat) (ha : acc < M) (hp : q ≤ 127 * M) : acc + q < M * 128 := by omega
theorem ref2read_l0 (s : ByteArray) : ∀ (d k i acc M : Nat), i + d = 4 → d < k → ((i = 0 ∧ M = 1) ∨ (i = 1 ∧ M = 128) ∨ (i = 2 ∧ M = 16384) ∨ (i = 3 ∧ M = 2097152) ∨ i = 4) → acc < M ∨ i = 4 →
    q1g.l0 k s acc M i = some (rdV s d i acc M) := by
  intro d
  induction d with
  | zero =>
    intro k i acc M hd hk _ _
    obtain ⟨k, rfl⟩ : ∃ m, k = m + 1 := ⟨k - 1, by omega⟩
    rw [q1g.l0.eq_def, rdV]
    simp only []
    rw [if_neg (by omega)]
  | succ d ih =>
    intro k i acc M hd hk hi ha
    obtain ⟨k, rfl⟩ : ∃ m, k = m + 1 := ⟨k - 1, by omega⟩
    have ha : acc < M := by omega
    have hM : M ≤ 2097152 := by omega
    rw [q1g.l0.eq_def, rdV]
    simp only []
    rw [if_pos (by omega)]
    by_cases hs : s.size ≤ i
    · rw [if_pos (by omega), if_pos hs]
    rw [if_neg (by omega), if_pos (by omega), if_pos (by omega), if_neg hs]
    obtain ⟨e, hb⟩ := byN_eq s i
    rw [e]
    generalize byN s i = b at *
    have hm : b % 128 < 128 := Nat.mod_lt _ (by omega)
    have hp : b % 128 * M ≤ 127 * M := Nat.mul_le_mul_right M (by omega)
    have e1 : wrap64 ((acc : Int) + wrap64 (wrap64 (Int.tmod (b : Int) 128) * (M : Int))) = ((acc + b % 128 * M : Nat) : Int) := by
      rw [tmod_byte b hb, show (((b % 128 : Nat) : Int) * (M : Int)) = ((b % 128 * M : Nat) : Int) by push_cast; rfl, w64 ((b % 128 * M : Nat) : Int) (by omega) (by omega), w64 _ (by omega) (by omega)]
      omega
    rw [e1, w64 ((i : Int) + 1) (by omega) (by omega), show (i : Int) + 1 = ((i + 1 : Nat) : Int) by omega]
    by_cases h8 : b < 128
    · have hbm : b % 128 = b := Nat.mod_eq_of_lt h8
      rw [if_pos (by omega), if_pos h8, hbm]
      by_cases h0 : 0 < i
      · rw [if_pos (by omega)]
        by_cases hz : b = 0
        · rw [if_pos (by omega), if_pos ⟨h0, hz⟩]
        · rw [if_neg (by omega), if_neg (fun x => hz x.2)]
      · rw [if_neg (by omega), if_neg (fun x => h0 x.1)]
    · rw [if_neg (by omega), if_neg h8]
      have e2 : wrap64 ((M : Int) * 128) = ((M * 128 : Nat) : Int) := by rw [w64 _ (by omega) (by omega)]; push_cast; rfl
      rw [e2]
      have hn : (i + 1 = 0 ∧ M * 128 = 1) ∨ (i + 1 = 1 ∧ M * 128 = 128) ∨ (i + 1 = 2 ∧ M * 128 = 16384) ∨ (i + 1 = 3 ∧ M * 128 = 2097152) ∨ i + 1 = 4 := by
        rcases hi with ⟨rfl, rfl⟩ | ⟨rfl, rfl⟩ | ⟨rfl, rfl⟩ | ⟨rfl, rfl⟩ | rfl
        · exact Or.inr (Or.inl ⟨rfl, rfl⟩)
        · exact Or.inr (Or.inr (Or.inl ⟨rfl, rfl⟩))
        · exact Or.inr (Or.inr (Or.inr (Or.inl ⟨rfl, rfl⟩)))
        · exact Or.inr (Or.inr (Or.inr (Or.inr rfl)))
        · omega
      exact ih k (i + 1) (acc + b % 128 * M) (M * 128) (by omega) (by omega) hn (Or.inl (lt128 acc M _ ha hp))
theorem ref2read_f (k : Nat) (s : ByteArray) (hk : 4 < k) : q1g.f k s = some (readVarS s) := by
  unfold q1g.f
  have h := ref2read_l0 s 4 k 0 0 1 (by omega) hk (by omega) (by omega)
  rw [show ((0 : Nat) : Int) = 0 from rfl, show ((1 : Nat) : Int) = 1 from rfl] at h
  unfold readVarS
  exact h
theorem refBin_f (k : Nat) (s : ByteArray) (hk : 2 < k) : q1v.f k s = some (binS s) := by
  unfold q1v.f binS
  by_cases h : (s.size : Int) > 65535
  · rw [if_pos h, if_pos h]
  · rw [if_neg h, if_neg h, if_pos (by omega), refPut2 k _ hk]
    simp only [Option.bind_some]
    rw [if_pos (by rw [putS_size]; omega)]
def rbS (s : ByteArray) : ByteArray × Int × Int :=
  if s.size < 2 then (⟨#[]⟩, 0, 3)
  else if getS (s.extract 0 2) > (s.size : Int) - 2 then (⟨#[]⟩, 0, 3)
  else (s.extract 2 (2 + getS (s.extract 0 2)).toNat, 2 + getS (s.extract 0 2), 0)
theorem two_range (s : ByteArray) (h : 2 ≤ s.size) : 0 ≤ getS (s.extract 0 2) ∧ getS (s.extract 0 2) < 65536 := (put_get2 (s.extract 0 2) (by rw [ByteArray.size_extract]; omega)).2
theorem refRB_f (k : Nat) (s : ByteArray) (hk : 2 < k) (hs : s.size ≤ 4000000000000000000) : polyglotref03_ReadBinary.f k s = some (rbS s) := by
  unfold polyglotref03_ReadBinary.f rbS
  by_cases h : s.size < 2
  · rw [if_pos (by omega), if_pos h]
  · have hz : (s.extract 0 2).size = 2 := by rw [ByteArray.size_extract]; omega
    obtain ⟨g0, g1⟩ := two_range s (by omega)
    rw [if_neg (by omega), if_neg h, if_pos (by omega), if_pos (by omega), refGet_f k _ (by omega) (by omega)]
    simp only [Option.bind_some]
    rw [w64 (getS (s.extract 0 2)) (by omega) (by omega), w64 ((s.size : Int) - 2) (by omega) (by omega)]
    by_cases h2 : getS (s.extract 0 2) > (s.size : Int) - 2
    · rw [if_pos h2, if_pos h2]
    · rw [if_neg h2, if_neg h2, w64 _ (by omega) (by omega), if_pos (by omega), if_pos (by omega)]
end Go.Proofs.YtngmipfobcaojaaGreat.HA
end

-- YtngmipfobcaojaaGreatHAhVarBack
section
namespace Go.Proofs.YtngmipfobcaojaaGreat.HA
open Go.RowKit Go.Proofs.YtngmipfobcaojaaGreatW.PrintWords Go.Proofs.YtngmipfobcaojaaGreatW.PrintLast Go.Proofs.YtngmipfobcaojaaGreatW.PrintMore
theorem byN_at (s : ByteArray) (l : List Int) (i : Nat) (h : (bytesOf s).drop i = l) (j : Nat) (hj : j < l.length) : (byN s (i + j) : Int) = l[j]'hj ∧ i + j < s.size := by
  obtain ⟨h1, h2⟩ := bt_drop s l i h j hj
  exact ⟨by rw [← (byN_eq s (i + j)).1]; exact h1, h2⟩
theorem byN_drop (s : ByteArray) (i : Nat) (h : i < s.size) : (bytesOf s).drop i = (byN s i : Int) :: (bytesOf s).drop (i + 1) := by
  have hl : i < (bytesOf s).length := by rw [bytesOf_length]; exact h
  rw [List.drop_eq_getElem_cons hl]
  have := (byN_at s ((bytesOf s).drop i) i rfl 0 (by rw [List.length_drop]; omega)).1
  rw [Nat.add_zero] at this
  rw [this]
  simp
theorem rdV_inv (s : ByteArray) : ∀ (d i acc M : Nat) (n z : Int), rdV s (d + 1) i acc M = (n, z, 0) →
    ∃ x : Nat, x < 128 ^ (d + 1) ∧ n = ((acc + x * M : Nat) : Int) ∧ z = ((i + (varTo d x).length : Nat) : Int) ∧ (bytesOf s).drop i = varTo d x ++ (bytesOf s).drop (i + (varTo d x).length) ∧ (i = 0 ∨ 0 < x) := by
  intro d
  induction d with
  | zero =>
    intro i acc M n z h
    rw [rdV] at h
    by_cases h1 : s.size ≤ i
    · rw [if_pos h1] at h; simp at h
    rw [if_neg h1] at h
    obtain ⟨_, hb⟩ := byN_eq s i
    by_cases h2 : byN s i < 128
    · rw [if_pos h2] at h
      by_cases h3 : 0 < i ∧ byN s i = 0
      · rw [if_pos h3] at h; simp at h
      rw [if_neg h3] at h
      simp only [Prod.mk.injEq] at h
      have ev : varTo 0 (byN s i) = [(byN s i : Int)] := by simp only [varTo]; rw [Int.emod_eq_of_lt (by omega) (by omega)]
      refine ⟨byN s i, by omega, h.1.symm, by rw [ev]; simp; omega, ?_, by omega⟩
      rw [ev]
      exact byN_drop s i (by omega)
    · rw [if_neg h2, rdV] at h
      simp at h
  | succ d ih =>
    intro i acc M n z h
    rw [rdV] at h
    by_cases h1 : s.size ≤ i
    · rw [if_pos h1] at h; simp at h
    rw [if_neg h1] at h
    obtain ⟨_, hb⟩ := byN_eq s i
    by_cases h2 : byN s i < 128
    · rw [if_pos h2] at h
      by_cases h3 : 0 < i ∧ byN s i = 0
      · rw [if_pos h3] at h; simp at h
      rw [if_neg h3] at h
      simp only [Prod.mk.injEq] at h
      have ev : varTo (d + 1) (byN s i) = [(byN s i : Int)] := by
        simp only [varTo]
        rw [if_neg (by omega), Int.emod_eq_of_lt (by omega) (by omega)]
      refine ⟨byN s i, ?_, h.1.symm, by rw [ev]; simp; omega, ?_, by omega⟩
      · calc byN s i < 128 ^ 1 := by omega
          _ ≤ 128 ^ (d + 1 + 1) := Nat.pow_le_pow_right (by omega) (by omega)
      · rw [ev]
        exact byN_drop s i (by omega)
    · rw [if_neg h2] at h
      obtain ⟨x, hx, hn, hz, hs, h0⟩ := ih (i + 1) _ _ n z h
      have hx0 : 0 < x := by omega
      have e1 : (byN s i % 128 + 128 * x) % 128 = byN s i % 128 := by omega
      have e2 : (byN s i % 128 + 128 * x) / 128 = x := by omega
      have ev : varTo (d + 1) (byN s i % 128 + 128 * x) = (byN s i : Int) :: varTo d x := by
        simp only [varTo]
        rw [if_pos (by omega), Go.u8_or128_right _ (by omega) (by omega), e2]
        congr 1
        omega
      refine ⟨byN s i % 128 + 128 * x, ?_, ?_, ?_, ?_, Or.inr (by omega)⟩
      · rw [Nat.pow_succ]; omega
      · rw [hn]
        have : (byN s i % 128 + 128 * x) * M = byN s i % 128 * M + x * (M * 128) := by
          rw [Nat.add_mul]; congr 1; rw [Nat.mul_comm M 128, ← Nat.mul_assoc, Nat.mul_comm 128 x]
        rw [this]
        omega
      · rw [hz, ev, List.length_cons]; omega
      · rw [ev, byN_drop s i (by omega), hs]
        simp only [List.cons_append, List.length_cons]
        rw [show i + 1 + (varTo d x).length = i + ((varTo d x).length + 1) by omega]
theorem readVar_inv (s : ByteArray) (n z : Int) (h : readVarS s = (n, z, 0)) : 0 ≤ n ∧ n ≤ 268435455 ∧ z = (varS n).1.size ∧ ∃ t, s = (varS n).1 ++ t := by
  obtain ⟨x, hx, hn, hz, hs, _⟩ := rdV_inv s 3 0 0 1 n z h
  have hnx : n = (x : Int) := by rw [hn]; omega
  have e : (varS n).1 = strOfNums (varTo 3 x) := by
    unfold varS
    rw [if_pos (by constructor <;> omega), hnx, Int.toNat_natCast]
  refine ⟨by omega, by omega, by rw [hz, e, strOfNums_size]; omega, strOfNums ((bytesOf s).drop (varTo 3 x).length), ?_⟩
  rw [e]
  rw [List.drop_zero, Nat.zero_add] at hs
  apply ByteArray.ext
  apply Array.ext'
  rw [ByteArray.data_append, Array.toList_append, Go.strOfNums_data, Go.strOfNums_data, ← List.map_append, ← hs]
  unfold bytesOf
  rw [List.map_map]
  have : ((fun n : Int => UInt8.ofNat n.toNat) ∘ fun b : UInt8 => ((b.toNat : Nat) : Int)) = id := by
    funext b
    simp
  rw [this, List.map_id]
end Go.Proofs.YtngmipfobcaojaaGreat.HA
end

-- YtngmipfobcaojaaGreatHAhBytesLaw
section
namespace Go.Proofs.YtngmipfobcaojaaGreat.HA
open Go.RowKit Go.Proofs.YtngmipfobcaojaaGreatW.PrintWords Go.Proofs.YtngmipfobcaojaaGreatW.PrintLast Go.Proofs.YtngmipfobcaojaaGreatW.PrintMore
abbrev PropT := S24
def cnt (i : Nat) (l : List PropT) : Nat := l.countP fun p => decide (p.f0.toNat = i)
def encP (p : PropT) : List Int := [p.f0 % 256] ++ bytesOf (valS (ruleOf p.f0).1 p)
def encL (l : List PropT) : List Int := (l.map encP).flatten
def goodC (kind : Int) (l : List PropT) (c : Nat → Int) : Prop :=
  (∀ p ∈ l, checkS (ruleOf p.f0) kind p = 0) ∧ (∀ p ∈ l, 1 < c p.f0.toNat + (cnt p.f0.toNat l : Int) → oftenB kind p.f0 = true)
theorem cnt_cons (i : Nat) (p : PropT) (l : List PropT) : cnt i (p :: l) = cnt i l + if p.f0.toNat = i then 1 else 0 := by
  unfold cnt
  rw [List.countP_cons]
  simp
theorem upd_eq (c : Nat → Int) (i : Nat) (v : Int) (j : Nat) : upd c i v j = if j = i then v else c j := by
  unfold upd
  rfl
theorem good_cons (kind : Int) (p : PropT) (l : List PropT) (c : Nat → Int) (hc : ∀ i, 0 ≤ c i) :
    goodC kind (p :: l) c ↔ (checkS (ruleOf p.f0) kind p = 0 ∧ (1 < c p.f0.toNat + 1 → oftenB kind p.f0 = true) ∧ goodC kind l (upd c p.f0.toNat (c p.f0.toNat + 1))) := by
  have same : ∀ q : PropT, checkS (ruleOf p.f0) kind p = 0 → checkS (ruleOf q.f0) kind q = 0 → q.f0.toNat = p.f0.toNat → q.f0 = p.f0 := by
    intro q h1 h2 h3
    have := check_id kind p h1
    have := check_id kind q h2
    omega
  constructor
  · rintro ⟨h1, h2⟩
    have hp := h1 p List.mem_cons_self
    refine ⟨hp, fun h => h2 p List.mem_cons_self ?_, fun q hq => h1 q (List.mem_cons_of_mem _ hq), fun q hq h => h2 q (List.mem_cons_of_mem _ hq) ?_⟩
    · rw [cnt_cons, if_pos rfl]; omega
    · rw [upd_eq] at h
      rw [cnt_cons]
      by_cases e : q.f0.toNat = p.f0.toNat
      · rw [if_pos e] at h; rw [if_pos e.symm]; rw [e] at h ⊢; omega
      · rw [if_neg e] at h; rw [if_neg (fun x => e x.symm)]; omega
  · rintro ⟨h1, h2, h3, h4⟩
    refine ⟨fun q hq => ?_, fun q hq h => ?_⟩
    · rcases List.mem_cons.1 hq with rfl | hq
      · exact h1
      · exact h3 q hq
    · rcases List.mem_cons.1 hq with rfl | hq
      · by_cases e : ∃ x ∈ l, x.f0.toNat = q.f0.toNat
        · obtain ⟨x, hx, e⟩ := e
          have := h4 x hx (by
            rw [upd_eq, if_pos e, e]
            rw [cnt_cons, if_pos rfl] at h
            omega)
          rwa [same x h1 (h3 x hx) e] at this
        · have : cnt q.f0.toNat l = 0 := by
            unfold cnt
            rw [List.countP_eq_zero]
            intro x hx hh
            exact e ⟨x, hx, by simpa using hh⟩
          apply h2
          rw [cnt_cons, if_pos rfl, this] at h
          omega
      · apply h4 q hq
        rw [cnt_cons] at h
        rw [upd_eq]
        by_cases e : q.f0.toNat = p.f0.toNat
        · rw [if_pos e]; rw [if_pos e.symm] at h; rw [e] at h ⊢; omega
        · rw [if_neg e]; rw [if_neg (fun x => e x.symm)] at h; omega
theorem bytesTo_good (kind : Int) : ∀ (l : List PropT) (c : Nat → Int) (acc : List Int), (∀ i, 0 ≤ c i) → goodC kind l c →
    bytesTo kind l c acc = if decide (0 < c 22 + (cnt 22 l : Int)) && c 21 + (cnt 21 l : Int) == 0 then (⟨#[]⟩, 9)
      else if (varS (acc ++ encL l).length).2 = 0 then ((varS (acc ++ encL l).length).1 ++ strOfNums (acc ++ encL l), 0) else (⟨#[]⟩, 4) := by
  intro l
  induction l with
  | nil =>
    intro c acc hc _
    simp [bytesTo, encL, cnt]
  | cons p l ih =>
    intro c acc hc h
    obtain ⟨h1, h2, h3⟩ := (good_cons kind p l c hc).1 h
    rw [bytesTo, if_neg (by rw [h1]; simp)]
    have hb : (decide (1 < c p.f0.toNat + 1) && !oftenB kind p.f0) = false := by
      by_cases q : 1 < c p.f0.toNat + 1
      · rw [h2 q]; simp
      · simp [q]
    rw [hb]
    simp only [Bool.false_eq_true, if_false]
    rw [ih _ _ (fun i => by rw [upd_eq]; split; · have := hc p.f0.toNat; omega
                            · exact hc i) h3]
    have ea : acc ++ [p.f0 % 256] ++ bytesOf (valS (ruleOf p.f0).1 p) ++ encL l = acc ++ encL (p :: l) := by
      simp [encL, encP]
    have ec : ∀ i, upd c p.f0.toNat (c p.f0.toNat + 1) i + (cnt i l : Int) = c i + (cnt i (p :: l) : Int) := by
      intro i
      rw [upd_eq, cnt_cons]
      by_cases e : i = p.f0.toNat
      · subst e; simp; omega
      · rw [if_neg e, if_neg (fun x => e x.symm)]; omega
    rw [ea, ec, ec]
theorem bytesTo_bad (kind : Int) : ∀ (l : List PropT) (c : Nat → Int) (acc : List Int), (∀ i, 0 ≤ c i) → ¬ goodC kind l c → (bytesTo kind l c acc).2 ≠ 0 := by
  intro l
  induction l with
  | nil =>
    intro c acc hc h
    exact absurd ⟨fun _ q => by simp at q, fun _ q => by simp at q⟩ h
  | cons p l ih =>
    intro c acc hc h
    rw [bytesTo]
    by_cases h1 : checkS (ruleOf p.f0) kind p = 0
    · rw [if_neg (by rw [h1]; simp)]
      by_cases h2 : 1 < c p.f0.toNat + 1 → oftenB kind p.f0 = true
      · have hb : (decide (1 < c p.f0.toNat + 1) && !oftenB kind p.f0) = false := by
          by_cases q : 1 < c p.f0.toNat + 1
          · rw [h2 q]; simp
          · simp [q]
        rw [hb]
        simp only [Bool.false_eq_true, if_false]
        apply ih _ _ (fun i => by rw [upd_eq]; split; · have := hc p.f0.toNat; omega
                                  · exact hc i)
        intro h3
        exact h ((good_cons kind p l c hc).2 ⟨h1, h2, h3⟩)
      · have hb : (decide (1 < c p.f0.toNat + 1) && !oftenB kind p.f0) = true := by
          have q1 : 1 < c p.f0.toNat + 1 := Classical.byContradiction fun q => h2 fun x => absurd x q
          have q2 : oftenB kind p.f0 = false := by
            cases e : oftenB kind p.f0 with
            | false => rfl
            | true => exact absurd (fun _ => e) h2
          rw [q2]; simp [q1]
        rw [hb]
        simp
    · rw [if_pos h1]
      exact h1
def good (kind : Int) (l : List PropT) : Prop := l.length ≤ 1000 ∧ goodC kind l (fun _ => 0)
def dataOk (l : List PropT) : Bool := !(decide (0 < cnt 22 l) && decide (cnt 21 l = 0))
theorem encP_len (p : PropT) : (encP p).length ≤ 131075 := by
  unfold encP
  have := valS_size (ruleOf p.f0).1 p
  simp [bytesOf]
  omega
theorem encL_len (l : List PropT) : (encL l).length ≤ 131075 * l.length := by
  induction l with
  | nil => simp [encL]
  | cons p l ih =>
    have : encL (p :: l) = encP p ++ encL l := by simp [encL]
    rw [this, List.length_append, List.length_cons]
    have := encP_len p
    omega
theorem bytes_good {kind : Int} {l : List PropT} (h : good kind l) :
    bytesS kind l = if dataOk l then ((varS (encL l).length).1 ++ strOfNums (encL l), 0) else (⟨#[]⟩, 9) := by
  unfold bytesS
  have h1 := h.1
  have hl := encL_len l
  rw [if_neg (by omega), bytesTo_good kind l (fun _ => 0) [] (fun _ => Int.le_refl 0) h.2]
  have hv : (varS ((encL l).length : Int)).2 = 0 := by
    unfold varS
    rw [if_pos (by constructor <;> omega)]
  simp only [List.nil_append, hv, if_true, Int.zero_add]
  unfold dataOk
  by_cases a : 0 < cnt 22 l <;> by_cases b : cnt 21 l = 0 <;> simp [a, b] <;> omega
theorem bytes_bad {kind : Int} {l : List PropT} (h : ¬ good kind l) : (bytesS kind l).2 ≠ 0 := by
  unfold bytesS
  by_cases h1 : l.length ≤ 1000
  · rw [if_neg (by omega)]
    exact bytesTo_bad kind l _ _ (fun _ => Int.le_refl 0) (fun q => h ⟨h1, q⟩)
  · rw [if_pos (by omega)]
    decide
theorem bytes_ok {kind : Int} {l : List PropT} : (bytesS kind l).2 = 0 ↔ good kind l ∧ dataOk l = true := by
  by_cases h : good kind l
  · rw [bytes_good h]
    cases dataOk l <;> simp [h]
  · simp [h, bytes_bad h]
theorem bytes_of {kind : Int} {l : List PropT} (h : (bytesS kind l).2 = 0) : bytesS kind l = ((varS (encL l).length).1 ++ strOfNums (encL l), 0) := by
  obtain ⟨h1, h2⟩ := bytes_ok.1 h
  rw [bytes_good h1, h2]
  rfl
end Go.Proofs.YtngmipfobcaojaaGreat.HA
end

-- YtngmipfobcaojaaGreatHAhValBack
section
namespace Go.Proofs.YtngmipfobcaojaaGreat.HA
open Go.RowKit Go.Proofs.YtngmipfobcaojaaGreatW.PrintWords Go.Proofs.YtngmipfobcaojaaGreatW.PrintLast Go.Proofs.YtngmipfobcaojaaGreatW.PrintMore
theorem need_back (text a : ByteArray) (at_ : Nat) (rest : List Int) (hat : at_ ≤ text.size) (h : (bytesOf text).drop at_ = bytesOf a ++ rest) : needS text at_ 0 a.size = (a, ((at_ + a.size : Nat) : Int), 0) := by
  have hl := congrArg List.length h
  rw [List.length_drop, List.length_append, bytesOf_length, bytesOf_length] at hl
  have hsz : a.size = 0 ∨ at_ + a.size ≤ text.size := by omega
  unfold needS takeS
  by_cases hz : (a.size : Int) ≤ (text.size : Int) - at_
  · have hc : ¬ ((0 : Int) = 0 ∧ ((a.size : Int) < 0 ∨ (a.size : Int) > (text.size : Int) - at_)) := by omega
    rw [if_neg hc, if_pos rfl, if_pos ⟨by omega, hz⟩]
    have : text.extract at_ (at_ + a.size) = a := by
      have e : bytesOf (text.extract at_ (at_ + a.size)) = ((bytesOf text).drop at_).take a.size := by
        unfold bytesOf
        rw [ByteArray.data_extract, Array.toList_extract, List.extract_eq_take_drop, List.map_take, List.map_drop]
        congr 1
        omega
      rw [h, List.take_left' (bytesOf_length a)] at e
      have e2 := congrArg strOfNums e
      rwa [nums_bytes, nums_bytes] at e2
    rw [Int.toNat_natCast, show ((at_ : Int) + (a.size : Int)).toNat = at_ + a.size by omega, this]
    rfl
  · exfalso
    omega
theorem drop_more {text : ByteArray} {at_ : Nat} {A B : List Int} (h : (bytesOf text).drop at_ = A ++ B) : (bytesOf text).drop (at_ + A.length) = B := by
  rw [← List.drop_drop, h, List.drop_left]
theorem drop_le {text : ByteArray} {at_ : Nat} {A B : List Int} (h : (bytesOf text).drop at_ = A ++ B) (hat : at_ ≤ text.size) : at_ + A.length ≤ text.size := by
  have hl := congrArg List.length h
  rw [List.length_drop, List.length_append, bytesOf_length] at hl
  omega
theorem rule_bounds (id kind : Int) (h : hasS (ruleOf id) kind = true) : 0 ≤ (ruleOf id).2.2.1 ∧ ((ruleOf id).1 = 1 → (ruleOf id).2.2.2 ≤ 255) ∧ ((ruleOf id).1 = 2 → (ruleOf id).2.2.2 ≤ 65535) ∧ ((ruleOf id).1 = 3 → (ruleOf id).2.2.2 ≤ 4294967295) ∧ ((ruleOf id).1 = 4 → (ruleOf id).2.2.2 ≤ 268435455) ∧ 1 ≤ (ruleOf id).1 ∧ (ruleOf id).1 ≤ 7 := by
  have hall : ∀ x ∈ ruleTab, 0 ≤ x.2.2.2.1 ∧ (x.2.1 = 1 → x.2.2.2.2 ≤ 255) ∧ (x.2.1 = 2 → x.2.2.2.2 ≤ 65535) ∧ (x.2.1 = 3 → x.2.2.2.2 ≤ 4294967295) ∧ (x.2.1 = 4 → x.2.2.2.2 ≤ 268435455) ∧ 1 ≤ x.2.1 ∧ x.2.1 ≤ 7 := by decide
  have hf : ∀ (l : List (Int × Int × Int × Int × Int)) (r : Int × Int × Int × Int), ruleFind l id = some r → ∃ x ∈ l, x.2 = r := by
    intro l
    induction l with
    | nil => intro r h; simp [ruleFind] at h
    | cons x l ih =>
      intro r h
      simp only [ruleFind] at h
      by_cases e : (id == x.1) = true
      · rw [if_pos e] at h
        exact ⟨x, List.mem_cons_self, Option.some.inj h⟩
      · rw [if_neg e] at h
        obtain ⟨y, hy, e2⟩ := ih r h
        exact ⟨y, List.mem_cons_of_mem _ hy, e2⟩
  cases hr : ruleFind ruleTab id with
  | some r =>
    obtain ⟨x, hx, e⟩ := hf ruleTab r hr
    have e2 : ruleOf id = x.2 := by unfold ruleOf; rw [hr, e]; rfl
    rw [e2]
    exact hall x hx
  | none =>
    exfalso
    obtain ⟨⟨f, hm⟩, h1, h2⟩ := rule_shape id kind h
    have e : ruleOf id = (0, 0, 0, 0) := by unfold ruleOf; rw [hr]; rfl
    rw [e] at hm
    simp [readTab] at hm
theorem check_has {ru : Int × Int × Int × Int} {kind : Int} {p : PropT} (h : checkS ru kind p = 0) : hasS ru kind = true := by
  cases e : hasS ru kind with
  | true => rfl
  | false => unfold checkS at h; rw [if_pos e] at h; omega
theorem u32r (n : Int) (h0 : 0 ≤ n) (h1 : n ≤ 4294967295) : n % 4294967296 = n := by omega
end Go.Proofs.YtngmipfobcaojaaGreat.HA
end

-- YtngmipfobcaojaaGreatHAhRefB
section
namespace Go.Proofs.YtngmipfobcaojaaGreat.HA
open Go.RowKit Go.Proofs.YtngmipfobcaojaaGreatW.PrintWords Go.Proofs.YtngmipfobcaojaaGreatW.PrintLast Go.Proofs.YtngmipfobcaojaaGreatW.PrintMore
theorem may_l0 (kind : Int) (ks : List Int) (hm : ks.length ≤ 1000) : ∀ (d k i : Nat), i + d = ks.length → d < k → qy.l0 k kind ks i = some ((ks.drop i).contains kind) := by
  intro d
  induction d with
  | zero =>
    intro k i hi hk
    obtain ⟨k, rfl⟩ : ∃ m, k = m + 1 := ⟨k - 1, by omega⟩
    rw [qy.l0.eq_def]
    simp only []
    rw [if_neg (by omega), List.drop_of_length_le (by omega)]
    rfl
  | succ d ih =>
    intro k i hi hk
    obtain ⟨k, rfl⟩ : ∃ m, k = m + 1 := ⟨k - 1, by omega⟩
    rw [qy.l0.eq_def]
    simp only []
    have hl : i < ks.length := by omega
    have e : rd ks (i : Int) = ks[i] := by
      unfold rd
      rw [List.getD_eq_getElem?_getD, Int.toNat_natCast, List.getElem?_eq_getElem hl]
      rfl
    rw [if_pos (by omega), if_pos (by omega), e, List.drop_eq_getElem_cons hl, List.contains_cons]
    by_cases h : ks[i] = kind
    · rw [if_pos h, h]; simp
    · rw [if_neg h, w64 _ (by omega) (by omega), show (i : Int) + 1 = ((i + 1 : Nat) : Int) by omega, ih k (i + 1) (by omega) (by omega), beq_eq_false_iff_ne.2 (fun q => h q.symm)]
      simp
theorem refMay_f (k : Nat) (kind id : Int) (hk : 30 < k) : qy.f k kind id = some (hasS (ruleOf id) kind) := by
  obtain ⟨k, rfl⟩ : ∃ m, k = m + 5 := ⟨k - 5, by omega⟩
  obtain ⟨ks, h1, h2, h3⟩ := look_at k id
  unfold qy.f
  rw [h1]
  simp only [Option.bind_some]
  have := may_l0 kind ks (by omega) ks.length (k + 5) 0 (by omega) (by omega)
  rw [show ((0 : Nat) : Int) = 0 from rfl, List.drop_zero] at this
  rw [this, h2]
theorem refShape_f (k : Nat) (id : Int) (hk : 30 < k) : polyglotref05_Shape.f k id = some (ruleOf id).1 := by
  obtain ⟨k, rfl⟩ : ∃ m, k = m + 5 := ⟨k - 5, by omega⟩
  obtain ⟨ks, h1, h2, h3⟩ := look_at k id
  unfold polyglotref05_Shape.f
  rw [h1]
  rfl
theorem refMany_f (k : Nat) (kind id : Int) (hk : 30 < k) : q1o.f k kind id = some (hasS (ruleOf id) kind && oftenB kind id) := by
  unfold q1o.f oftenB
  rw [refMay_f k kind id hk]
  simp only [Option.bind_some]
  cases hasS (ruleOf id) kind with
  | false => rfl
  | true =>
    by_cases h1 : id = 38
    · simp [h1]
    · by_cases h2 : id = 11
      · simp [h2]
      · simp [h1, h2]
theorem refCheck_f (k : Nat) (kind : Int) (p : S24) (h2 : p.f2.size ≤ 150000) (h3 : p.f3.size ≤ 150000) (hk : 160010 ≤ k) : qb.f k kind p.f0 p.f1 p.f2 p.f3 = some (checkS (ruleOf p.f0) kind p) := by
  obtain ⟨k, rfl⟩ : ∃ m, k = m + 5 := ⟨k - 5, by omega⟩
  have hV : ∀ (s : ByteArray) (j : Nat), s.size ≤ 150000 → 159990 ≤ j → q1d.f j s = some (validS s) := by
    intro s j hs hj
    have := refValid_f s (by omega) (j - s.size - 9)
    rwa [show j - s.size - 9 + s.size + 9 = j by omega] at this
  obtain ⟨ks, hl, _, _⟩ := look_at k p.f0
  unfold qb.f checkS
  rw [refMay_f (k + 5) kind p.f0 (by omega), hl]
  simp only [Option.bind_some]
  cases hh : hasS (ruleOf p.f0) kind with
  | false => simp
  | true =>
    have hb := rule_bounds p.f0 kind hh
    have h8 : p.f0 = 8 → (ruleOf p.f0).1 = 5 := by intro e; rw [e]; decide +kernel
    generalize ruleOf p.f0 = ru at *
    simp only [if_true, Bool.true_eq_false, if_false]
    have hJ4 : ∀ (ks : List Int) (n : Nat), qb.j4 (n + 1) false p.f0 p.f1 p.f2 p.f3 ru.1 ks ru.2.2.1 ru.2.2.2 = if ru.1 = 6 then (if (p.f2.size : Int) > 65535 then some 2 else some 0) else some 0 := by
      intro ks n
      rw [qb.j4.eq_def]
      simp
    have hJ4t : ∀ (ks : List Int) (n : Nat), qb.j4 (n + 1) true p.f0 p.f1 p.f2 p.f3 ru.1 ks ru.2.2.1 ru.2.2.2 = some 9 := by
      intro ks n
      rw [qb.j4.eq_def]
      simp
    have hJ3 : ∀ (ks : List Int) (n : Nat), 159997 ≤ n → qb.j3 (n + 1) false p.f0 p.f1 p.f2 p.f3 ru.1 ks ru.2.2.1 ru.2.2.2 = if p.f0 = 8 ∧ nameS p.f2 = false then some 9 else (if ru.1 = 6 then (if (p.f2.size : Int) > 65535 then some 2 else some 0) else some 0) := by
      intro ks n hn
      obtain ⟨n, rfl⟩ : ∃ m, n = m + 1 := ⟨n - 1, by omega⟩
      rw [qb.j3.eq_def]
      simp only [Bool.false_eq_true, if_false]
      by_cases e : p.f0 = 8
      · rw [if_pos e, ref4Name_g p.f2 (n + 1) (by omega) (by omega)]
        simp only [Option.bind_some]
        cases nameS p.f2 with
        | true => rw [show (!true) = false from rfl, hJ4, if_neg (show ¬ (p.f0 = 8 ∧ true = false) by simp)]
        | false => rw [show (!false) = true from rfl, hJ4t, if_pos ⟨e, rfl⟩]
      · rw [if_neg e, hJ4, if_neg (show ¬ (p.f0 = 8 ∧ nameS p.f2 = false) from fun q => e q.1)]
    have hJ3t : ∀ (ks : List Int) (n : Nat), qb.j3 (n + 1) true p.f0 p.f1 p.f2 p.f3 ru.1 ks ru.2.2.1 ru.2.2.2 = some 6 := by
      intro ks n
      rw [qb.j3.eq_def]
      simp
    have hJ2 : ∀ (ks : List Int) (n : Nat) (b : Bool), 159998 ≤ n → qb.j2 (n + 1) b p.f0 p.f1 p.f2 p.f3 ru.1 ks ru.2.2.1 ru.2.2.2 = if b = true ∧ (validS p.f2 = false ∨ validS p.f3 = false) then some 6 else (if p.f0 = 8 ∧ nameS p.f2 = false then some 9 else (if ru.1 = 6 then (if (p.f2.size : Int) > 65535 then some 2 else some 0) else some 0)) := by
      intro ks n b hn
      obtain ⟨n, rfl⟩ : ∃ m, n = m + 1 := ⟨n - 1, by omega⟩
      rw [qb.j2.eq_def]
      simp only []
      cases b with
      | false => rw [if_neg (by decide), hJ3 _ _ (by omega), if_neg (show ¬ (false = true ∧ (validS p.f2 = false ∨ validS p.f3 = false)) by simp)]
      | true =>
        rw [if_pos rfl, hV p.f2 _ h2 (by omega), hV p.f3 _ h3 (by omega)]
        simp only [Option.bind_some]
        cases e2 : validS p.f2 with
        | false => simp only [Bool.false_eq_true, if_false]; rw [hJ3t]; simp
        | true =>
          cases e3 : validS p.f3 with
          | false => simp only [if_true, Bool.not_false]; rw [hJ3t]; simp
          | true => simp only [if_true, Bool.not_true]; rw [hJ3 _ _ (by omega)]; simp
    have hJ1 : ∀ (ks : List Int) (n : Nat), 159999 ≤ n → qb.j1 (n + 1) false p.f0 p.f1 p.f2 p.f3 ru.1 ks ru.2.2.1 ru.2.2.2 = if (ru.1 = 5 ∨ ru.1 = 7) ∧ (validS p.f2 = false ∨ validS p.f3 = false) then some 6 else (if p.f0 = 8 ∧ nameS p.f2 = false then some 9 else (if ru.1 = 6 then (if (p.f2.size : Int) > 65535 then some 2 else some 0) else some 0)) := by
      intro ks n hn
      obtain ⟨n, rfl⟩ : ∃ m, n = m + 1 := ⟨n - 1, by omega⟩
      rw [qb.j1.eq_def]
      simp only [Bool.false_eq_true, if_false]
      by_cases e5 : ru.1 = 5
      · rw [if_pos e5, hJ2 _ _ _ (by omega)]
        simp [e5]
      · rw [if_neg e5, hJ2 _ _ _ (by omega)]
        simp [e5]
    have hJ1t : ∀ (ks : List Int) (n : Nat), qb.j1 (n + 1) true p.f0 p.f1 p.f2 p.f3 ru.1 ks ru.2.2.1 ru.2.2.2 = some 9 := by
      intro ks n
      rw [qb.j1.eq_def]
      simp
    have hJ0t : ∀ (ks : List Int) (n : Nat) (b : Bool), qb.j0 (n + 1) b true p.f0 p.f1 p.f2 p.f3 ru.1 ks ru.2.2.1 ru.2.2.2 = some 2 := by
      intro ks n b
      rw [qb.j0.eq_def]
      simp
    have hJ0 : ∀ (ks : List Int) (n : Nat) (b : Bool), 160000 ≤ n → qb.j0 (n + 1) b false p.f0 p.f1 p.f2 p.f3 ru.1 ks ru.2.2.1 ru.2.2.2 = if b = true ∧ (p.f1 < ru.2.2.1 ∨ p.f1 > ru.2.2.2) then some 9 else (if (ru.1 = 5 ∨ ru.1 = 7) ∧ (validS p.f2 = false ∨ validS p.f3 = false) then some 6 else (if p.f0 = 8 ∧ nameS p.f2 = false then some 9 else (if ru.1 = 6 then (if (p.f2.size : Int) > 65535 then some 2 else some 0) else some 0))) := by
      intro ks n b hn
      obtain ⟨n, rfl⟩ : ∃ m, n = m + 1 := ⟨n - 1, by omega⟩
      rw [qb.j0.eq_def]
      simp only [Bool.false_eq_true, if_false]
      cases b with
      | false => simp only [Bool.false_eq_true, if_false, false_and]; rw [hJ1 _ _ (by omega)]
      | true =>
        simp only [if_true, true_and]
        by_cases q1 : p.f1 < ru.2.2.1
        · rw [if_pos q1, hJ1t, if_pos (Or.inl q1)]
        · rw [if_neg q1]
          by_cases q2 : p.f1 > ru.2.2.2
          · rw [decide_eq_true q2, hJ1t, if_pos (Or.inr q2)]
          · rw [decide_eq_false q2, hJ1 _ _ (by omega), if_neg (show ¬ (p.f1 < ru.2.2.1 ∨ p.f1 > ru.2.2.2) by omega)]
    by_cases s4 : ru.1 ≤ 4
    · rw [if_pos s4, if_pos s4, decide_eq_true s4, if_neg (show ¬ ru.1 = 7 by omega)]
      by_cases t2 : p.f2.toList = []
      · rw [if_pos t2]
        by_cases t3 : p.f3.toList = []
        · have e : (p.f3.toList != ([] : List UInt8)) = false := bne_eq_false_iff_eq.mpr t3
          have n8 : ¬ p.f0 = 8 := fun q => by have := h8 q; omega
          rw [e, hJ0 _ (k + 4) _ (by omega)]
          simp only [true_and, t2, t3, not_true, or_self, if_false]
          by_cases q : p.f1 < ru.2.2.1 ∨ p.f1 > ru.2.2.2
          · rw [if_pos q, if_pos q]
          · rw [if_neg q, if_neg q, if_neg (show ¬ ((ru.1 = 5 ∨ ru.1 = 7) ∧ (validS p.f2 = false ∨ validS p.f3 = false)) by omega), if_neg (show ¬ (p.f0 = 8 ∧ nameS p.f2 = false) from fun x => n8 x.1), if_neg (show ¬ ru.1 = 6 by omega)]
        · have e : (p.f3.toList != ([] : List UInt8)) = true := bne_iff_ne.mpr t3
          rw [e, hJ0t, if_pos (Or.inr t3)]
      · rw [if_neg t2, hJ0t, if_pos (Or.inl t2)]
    · rw [if_neg s4, if_neg s4, decide_eq_false s4]
      by_cases t1 : p.f1 = 0
      · rw [if_pos t1]
        have fin : qb.j0 (k + 5) false false p.f0 p.f1 p.f2 p.f3 ru.1 ks ru.2.2.1 ru.2.2.2 = some (if ru.1 = 6 then (if (p.f2.size : Int) > 65535 then 2 else 0) else if validS p.f2 = false ∨ validS p.f3 = false then 6 else if p.f0 = 8 ∧ nameS p.f2 = false then 9 else 0) := by
          rw [hJ0 _ (k + 4) _ (by omega), if_neg (show ¬ (false = true ∧ (p.f1 < ru.2.2.1 ∨ p.f1 > ru.2.2.2)) by simp)]
          by_cases s6 : ru.1 = 6
          · have n8 : ¬ p.f0 = 8 := fun q => by have := h8 q; omega
            rw [if_neg (show ¬ ((ru.1 = 5 ∨ ru.1 = 7) ∧ (validS p.f2 = false ∨ validS p.f3 = false)) by omega), if_neg (show ¬ (p.f0 = 8 ∧ nameS p.f2 = false) from fun x => n8 x.1), if_pos s6, if_pos s6]
            split <;> rfl
          · have s57 : ru.1 = 5 ∨ ru.1 = 7 := by omega
            rw [if_neg s6, if_neg s6]
            simp only [s57, true_and]
            split
            · rfl
            · split <;> rfl
        by_cases s7 : ru.1 = 7
        · have e9 : ¬ (¬ p.f1 = 0 ∨ (¬ p.f3.toList = [] ∧ ¬ ru.1 = 7)) := fun q => q.elim (fun x => x t1) (fun x => x.2 s7)
          rw [if_pos s7, fin, if_neg e9]
        · rw [if_neg s7]
          by_cases t3 : p.f3.toList = []
          · have e : (p.f3.toList != ([] : List UInt8)) = false := bne_eq_false_iff_eq.mpr t3
            have e9 : ¬ (¬ p.f1 = 0 ∨ (¬ p.f3.toList = [] ∧ ¬ ru.1 = 7)) := fun q => q.elim (fun x => x t1) (fun x => x.1 t3)
            rw [e, fin, if_neg e9]
          · have e : (p.f3.toList != ([] : List UInt8)) = true := bne_iff_ne.mpr t3
            rw [e, hJ0t, if_pos (Or.inr ⟨t3, s7⟩)]
      · rw [if_neg t1, hJ0t, if_pos (Or.inl t1)]
end Go.Proofs.YtngmipfobcaojaaGreat.HA
end

-- YtngmipfobcaojaaGreatHAhRefC
section
namespace Go.Proofs.YtngmipfobcaojaaGreat.HA
open Go.RowKit Go.Proofs.YtngmipfobcaojaaGreatW.PrintWords Go.Proofs.YtngmipfobcaojaaGreatW.PrintLast Go.Proofs.YtngmipfobcaojaaGreatW.PrintMore
def getL (l : List PropT) (id : Int) : Int × Int × ByteArray × ByteArray × Bool :=
  match l.find? (fun p => p.f0 == id) with
  | some p => (p.f0, p.f1, p.f2, p.f3, true)
  | none => (0, 0, ⟨#[]⟩, ⟨#[]⟩, false)
theorem rd_at (l : List PropT) (i : Nat) (h : i < l.length) : qu l (i : Int) = l[i] := by
  unfold qu
  rw [List.getD_eq_getElem?_getD, Int.toNat_natCast, List.getElem?_eq_getElem h]
  rfl
theorem refGet_l0g (l : List PropT) (id : Int) (hm : l.length ≤ 1000000) : ∀ (d k i : Nat), i + d = l.length → d < k → q13.l0 k l id i = some (getL (l.drop i) id) := by
  intro d
  induction d with
  | zero =>
    intro k i hi hk
    obtain ⟨k, rfl⟩ : ∃ m, k = m + 1 := ⟨k - 1, by omega⟩
    rw [q13.l0.eq_def]
    simp only []
    rw [if_neg (by omega), List.drop_of_length_le (by omega)]
    rfl
  | succ d ih =>
    intro k i hi hk
    obtain ⟨k, rfl⟩ : ∃ m, k = m + 1 := ⟨k - 1, by omega⟩
    rw [q13.l0.eq_def]
    simp only []
    have hl : i < l.length := by omega
    rw [if_pos (by omega), if_pos (by omega), rd_at l i hl, List.drop_eq_getElem_cons hl]
    unfold getL
    by_cases h : l[i].f0 = id
    · rw [if_pos h, List.find?_cons_of_pos (by simpa using h)]
    · rw [if_neg h, w64 _ (by omega) (by omega), show (i : Int) + 1 = ((i + 1 : Nat) : Int) by omega, ih k (i + 1) (by omega) (by omega), List.find?_cons_of_neg (by simpa using h)]
      rfl
theorem refGetL_f (k : Nat) (l : List PropT) (id : Int) (hk : l.length < k) (hm : l.length ≤ 1000000) : q13.f k l id = some (getL l id) := by
  have := refGet_l0g l id hm l.length k 0 (by omega) hk
  rw [show ((0 : Nat) : Int) = 0 from rfl, List.drop_zero] at this
  exact this
theorem getL_is (l : List PropT) (id : Int) : (getL l id).2.2.2.2 = l.any (fun p => p.f0 == id) := by
  unfold getL
  induction l with
  | nil => rfl
  | cons p l ih =>
    by_cases h : p.f0 = id
    · rw [List.find?_cons_of_pos (by simpa using h)]; simp [h]
    · rw [List.find?_cons_of_neg (by simpa using h), ih, List.any_cons, beq_eq_false_iff_ne.2 h]; simp
theorem refTwice_f (k : Nat) (kind : Int) (l : List PropT) (id : Int) (hk : l.length + 30 < k) (hm : l.length ≤ 1000000) : polyglotref05_twice.f k kind l id = some (l.any (fun p => p.f0 == id) && !(hasS (ruleOf id) kind && oftenB kind id)) := by
  unfold polyglotref05_twice.f
  rw [refGetL_f k l id (by omega) hm]
  simp only [Option.bind_some]
  rw [getL_is, refMany_f k kind id (by omega)]
  cases l.any (fun p => p.f0 == id) <;> simp
theorem refLone_f (k : Nat) (l : List PropT) (hk : l.length < k) (hm : l.length ≤ 1000000) : polyglotref05_lone.f k l = some (l.any (fun p => p.f0 == 22) && !(l.any (fun p => p.f0 == 21))) := by
  unfold polyglotref05_lone.f
  rw [refGetL_f k l 22 hk hm, refGetL_f k l 21 hk hm]
  simp only [Option.bind_some]
  rw [getL_is, getL_is]
  cases l.any (fun p => p.f0 == 22) <;> simp
theorem refValue_f (k : Nat) (p : PropT) (hk : 30 < k) : polyglotref05_value.f k p.f0 p.f1 p.f2 p.f3 = some (valS (ruleOf p.f0).1 p) := by
  have hs1 := binS_size p.f2
  have hs2 := binS_size p.f3
  obtain ⟨j, rfl⟩ : ∃ m, k = m + 5 := ⟨k - 5, by omega⟩
  obtain ⟨ks, h1, h2, h3⟩ := look_at j p.f0
  unfold polyglotref05_value.f valS
  rw [h1]
  simp only [Option.bind_some]
  rw [refPut1 _ _ (by omega), refPut2 _ _ (by omega), refPut4 _ _ (by omega), ref2Bytes_f _ _ (by omega), refBin_f _ _ (by omega), refBin_f _ _ (by omega)]
  generalize (ruleOf p.f0).1 = sh at *
  simp only [Option.bind_some]
  by_cases e1 : sh = 1
  · subst e1; simp
  · by_cases e2 : sh = 2
    · subst e2; simp
    · by_cases e3 : sh = 3
      · subst e3; simp
      · by_cases e4 : sh = 4
        · subst e4; simp
        · by_cases e7 : sh = 7
          · subst e7; simp; omega
          · simp [e1, e2, e3, e4, e7]
theorem str_nums (a b : List Int) : strOfNums (a ++ b) = strOfNums a ++ strOfNums b := by
  apply ByteArray.ext
  apply Array.ext'
  rw [ByteArray.data_append, Array.toList_append, Go.strOfNums_data, Go.strOfNums_data, Go.strOfNums_data, List.map_append]
theorem refBody_l0 (l : List PropT) (hm : l.length ≤ 1010) : ∀ (d k i : Nat) (s : ByteArray), i + d = l.length → d + 40 < k → s.size ≤ 131075 * i → q12.l0 k l s i = some (s ++ strOfNums (encL (l.drop i))) := by
  intro d
  induction d with
  | zero =>
    intro k i s hi hk hs
    obtain ⟨k, rfl⟩ : ∃ m, k = m + 1 := ⟨k - 1, by omega⟩
    rw [q12.l0.eq_def]
    simp only []
    rw [if_neg (by omega), List.drop_of_length_le (by omega)]
    congr 1
    apply ByteArray.ext
    simp [encL, Go.strOfNums]
  | succ d ih =>
    intro k i s hi hk hs
    obtain ⟨k, rfl⟩ : ∃ m, k = m + 1 := ⟨k - 1, by omega⟩
    rw [q12.l0.eq_def]
    simp only []
    have hl : i < l.length := by omega
    have hv := valS_size (ruleOf l[i].f0).1 l[i]
    rw [if_pos (by omega), if_pos (by omega), rd_at l i hl]
    simp only [Option.bind_some]
    rw [if_pos (by rw [strOfNums_size]; simp; omega), refValue_f k _ (by omega)]
    simp only [Option.bind_some]
    have h1 : (strOfNums [l[i].f0 % 256]).size = 1 := by rw [strOfNums_size]; rfl
    rw [if_pos (by rw [ByteArray.size_append, h1]; omega), w64 _ (by omega) (by omega), show (i : Int) + 1 = ((i + 1 : Nat) : Int) by omega, ih k (i + 1) _ (by omega) (by omega) (by rw [ByteArray.size_append, ByteArray.size_append, h1]; omega), List.drop_eq_getElem_cons hl]
    have e : encL (l[i] :: l.drop (i + 1)) = encP l[i] ++ encL (l.drop (i + 1)) := by unfold encL; rw [List.map_cons, List.flatten_cons]
    rw [e]
    unfold encP
    rw [str_nums, str_nums, nums_bytes, ByteArray.append_assoc, ByteArray.append_assoc, ByteArray.append_assoc]
theorem empty_append9 (s : ByteArray) : (⟨#[]⟩ : ByteArray) ++ s = s := by
  apply ByteArray.ext
  rw [ByteArray.data_append]
  simp
theorem refBody_f (k : Nat) (l : List PropT) (hm : l.length ≤ 1010) (hk : l.length + 40 < k) : q12.f k l = some (strOfNums (encL l)) := by
  unfold q12.f
  have := refBody_l0 l hm l.length k 0 ⟨#[]⟩ (by omega) hk (by simp [ByteArray.size])
  rw [show ((0 : Nat) : Int) = 0 from rfl, List.drop_zero, empty_append9] at this
  exact this
def lite (l : List PropT) : Prop := ∀ p ∈ l, p.f2.size ≤ 150000 ∧ p.f3.size ≤ 150000
theorem any_cnt (kind : Int) (pre : List PropT) (hp : ∀ p ∈ pre, checkS (ruleOf p.f0) kind p = 0) (id : Int) (h0 : 1 ≤ id) : pre.any (fun p => p.f0 == id) = decide (0 < cnt id.toNat pre) := by
  rw [Bool.eq_iff_iff, List.any_eq_true, decide_eq_true_eq]
  unfold cnt
  rw [List.countP_pos_iff]
  constructor
  · rintro ⟨p, hp, h⟩
    exact ⟨p, hp, by rw [beq_iff_eq.1 h]; simp⟩
  · rintro ⟨p, hm, h⟩
    have := check_id kind p (hp p hm)
    refine ⟨p, hm, beq_iff_eq.2 ?_⟩
    simp only [decide_eq_true_eq] at h
    omega
theorem cnt_snoc (i : Nat) (pre : List PropT) (p : PropT) : cnt i (pre ++ [p]) = cnt i pre + if p.f0.toNat = i then 1 else 0 := by
  unfold cnt
  rw [List.countP_append, List.countP_singleton]
  by_cases h : p.f0.toNat = i <;> simp [h]
theorem encL_snoc (pre : List PropT) (p : PropT) : encL (pre ++ [p]) = encL pre ++ ([p.f0 % 256] ++ bytesOf (valS (ruleOf p.f0).1 p)) := by
  unfold encL
  rw [List.map_append, List.flatten_append]
  simp [encP]
theorem refValid_l0 (kind : Int) : ∀ (l pre : List PropT) (c : Nat → Int) (k : Nat), (∀ i, c i = (cnt i pre : Int)) → (∀ p ∈ pre, checkS (ruleOf p.f0) kind p = 0) → pre.length + l.length ≤ 1000 → lite l → 170000 + l.length ≤ k →
    qt.l0 k kind (pre ++ l) pre.length = some (bytesTo kind l c (encL pre)).2 := by
  intro l
  induction l with
  | nil =>
    intro pre c k hc hp hlen hlt hk
    obtain ⟨k, rfl⟩ : ∃ m, k = m + 1 := ⟨k - 1, by omega⟩
    rw [qt.l0.eq_def]
    simp only [List.append_nil] at *
    rw [if_neg (by omega), refLone_f k pre (by omega) (by omega), refBody_f k pre (by simp at hlen; omega) (by simp at hlen; omega)]
    simp only [Option.bind_some]
    have e22 := any_cnt kind pre hp 22 (by omega)
    have e21 := any_cnt kind pre hp 21 (by omega)
    rw [show Int.toNat 22 = 22 from rfl] at e22
    rw [show Int.toNat 21 = 21 from rfl] at e21
    rw [e22, e21, strOfNums_size, bytesTo, hc 22, hc 21]
    have e : (decide (0 < (cnt 22 pre : Int)) && ((cnt 21 pre : Int) == 0)) = (decide (0 < cnt 22 pre) && !decide (0 < cnt 21 pre)) := by
      by_cases h1 : 0 < cnt 22 pre <;> by_cases h2 : 0 < cnt 21 pre <;> simp [h1, h2] <;> omega
    rw [e]
    cases decide (0 < cnt 22 pre) && !decide (0 < cnt 21 pre) with
    | true => rfl
    | false =>
      simp only [Bool.false_eq_true, if_false]
      by_cases hb : ((encL pre).length : Int) > 268435455
      · have e9 : ¬ (varS ((encL pre).length : Int)).2 = 0 := by
          unfold varS
          rw [if_neg (show ¬ (0 ≤ ((encL pre).length : Int) ∧ ((encL pre).length : Int) ≤ 268435455) by omega)]
          decide
        rw [if_pos hb, if_neg e9]
      · have e9 : (varS ((encL pre).length : Int)).2 = 0 := by
          unfold varS
          rw [if_pos (show (0 ≤ ((encL pre).length : Int) ∧ ((encL pre).length : Int) ≤ 268435455) by omega)]
        rw [if_neg hb, if_pos e9]
  | cons p l ih =>
    intro pre c k hc hp hlen hlt hk
    obtain ⟨k, rfl⟩ : ∃ m, k = m + 1 := ⟨k - 1, by simp at hk; omega⟩
    simp only [List.length_cons] at hlen hk
    rw [qt.l0.eq_def]
    simp only []
    have hl : pre.length < (pre ++ p :: l).length := by simp
    have hg : (pre ++ p :: l)[pre.length] = p := by simp
    rw [if_pos (by simp; omega), if_pos (by omega), rd_at _ _ hl, hg]
    have hpl := hlt p List.mem_cons_self
    rw [refCheck_f k kind p hpl.1 hpl.2 (by omega)]
    simp only [Option.bind_some]
    rw [bytesTo]
    by_cases hch : checkS (ruleOf p.f0) kind p = 0
    · have hid := check_id kind p hch
      rw [if_pos hch, if_neg (show ¬ checkS (ruleOf p.f0) kind p ≠ 0 from fun q => q hch), if_pos (by simp; omega), Int.toNat_natCast, List.take_left' rfl, refTwice_f k kind pre p.f0 (by omega) (by omega), check_has hch, any_cnt kind pre hp p.f0 hid.1, hc p.f0.toNat]
      simp only [Option.bind_some, Bool.true_and]
      have e : decide (1 < (cnt p.f0.toNat pre : Int) + 1) = decide (0 < cnt p.f0.toNat pre) := by
        by_cases h : 0 < cnt p.f0.toNat pre <;> simp [h] <;> omega
      rw [e]
      cases decide (0 < cnt p.f0.toNat pre) && !oftenB kind p.f0 with
      | true => rfl
      | false =>
        simp only [Bool.false_eq_true, if_false]
        have hz := ih (pre ++ [p]) (upd c p.f0.toNat (c p.f0.toNat + 1)) k (by
          intro i
          rw [upd_eq, cnt_snoc]
          by_cases hi : i = p.f0.toNat
          · rw [if_pos hi, if_pos hi.symm, hc p.f0.toNat, hi]; push_cast; rfl
          · rw [if_neg hi, if_neg (fun q => hi q.symm), hc i]; simp) (by
          intro q hq
          rcases List.mem_append.1 hq with h | h
          · exact hp q h
          · rw [List.mem_singleton.1 h]; exact hch) (by simp; omega) (fun q hq => hlt q (List.mem_cons_of_mem _ hq)) (by omega)
        rw [w64 _ (by omega) (by omega), show (pre.length : Int) + 1 = (((pre ++ [p]).length : Nat) : Int) by simp]
        rw [show pre ++ p :: l = pre ++ [p] ++ l by simp, hz, encL_snoc, hc p.f0.toNat, List.append_assoc]
    · rw [if_neg hch, if_pos hch]
theorem refValid5_f (k : Nat) (kind : Int) (l : List PropT) (hl : lite l) (hk : 180000 ≤ k) : qt.f k kind l = some (bytesS kind l).2 := by
  unfold qt.f bytesS
  by_cases h : l.length > 1000
  · rw [if_pos (by omega), if_pos h]
  · rw [if_neg (by omega), if_neg h]
    have := refValid_l0 kind l [] (fun _ => 0) k (by intro i; simp [cnt]) (by simp) (by simpa using by omega) hl (by omega)
    simp only [List.nil_append, List.length_nil] at this
    rw [show ((0 : Nat) : Int) = 0 from rfl] at this
    rw [this]
    rfl
theorem bytesTo_err9 (kind : Int) : ∀ (l : List PropT) (c : Nat → Int) (acc : List Int), (bytesTo kind l c acc).2 ≠ 0 → (bytesTo kind l c acc).1 = ⟨#[]⟩ := by
  intro l
  induction l with
  | nil =>
    intro c acc h
    rw [bytesTo] at h ⊢
    split
    · rfl
    · rename_i q
      rw [if_neg q] at h
      split
      · rename_i q2; rw [if_pos q2] at h; exact absurd rfl h
      · rfl
  | cons p l ih =>
    intro c acc h
    rw [bytesTo] at h ⊢
    split
    · rfl
    · rename_i q
      rw [if_neg q] at h
      split
      · rfl
      · rename_i q2
        rw [if_neg q2] at h
        exact ih _ _ h
theorem bytes_err9 {kind : Int} {l : List PropT} (h : (bytesS kind l).2 ≠ 0) : (bytesS kind l).1 = ⟨#[]⟩ := by
  unfold bytesS at h ⊢
  split
  · rfl
  · rename_i q
    rw [if_neg q] at h
    exact bytesTo_err9 kind l _ _ h
theorem refBytes5_f (k : Nat) (kind : Int) (l : List PropT) (hl : lite l) (hk : 180000 ≤ k) : polyglotref05_Bytes.f k kind l = some (bytesS kind l) := by
  unfold polyglotref05_Bytes.f
  rw [refValid5_f k kind l hl hk]
  simp only [Option.bind_some]
  by_cases h : (bytesS kind l).2 = 0
  · have hg := (bytes_ok.1 h).1.1
    have he := encL_len l
    have hv := varS_size (encL l).length
    rw [if_pos h, refBody_f k l (by omega) (by omega)]
    simp only [Option.bind_some]
    rw [ref2Bytes_f k _ (by omega), strOfNums_size]
    simp only [Option.bind_some]
    rw [if_pos (by omega), bytes_of h]
  · rw [if_neg h]
    have e := bytes_err9 h
    rw [← e]
end Go.Proofs.YtngmipfobcaojaaGreat.HA
end

-- YtngmipfobcaojaaGreatHAhListBack
section
namespace Go.Proofs.YtngmipfobcaojaaGreat.HA
open Go.RowKit Go.Proofs.YtngmipfobcaojaaGreatW.PrintWords Go.Proofs.YtngmipfobcaojaaGreatW.PrintLast Go.Proofs.YtngmipfobcaojaaGreatW.PrintMore
theorem take_back (text a : ByteArray) (at_ : Nat) (rest : List Int) (hat : at_ ≤ text.size) (h : (bytesOf text).drop at_ = bytesOf a ++ rest) : takeS text at_ 0 a.size = (a, ((at_ + a.size : Nat) : Int), 0) := by
  have hn := need_back text a at_ rest hat h
  have hl := drop_le h hat
  rw [bytesOf_length] at hl
  unfold needS at hn
  rwa [if_neg (by omega)] at hn
theorem id_back (text : ByteArray) (at_ : Nat) (id : Int) (rest : List Int) (h0 : 0 ≤ id) (h1 : id < 256) (hat : at_ ≤ text.size) (h : (bytesOf text).drop at_ = id :: rest) : idAt text at_ = id := by
  have hs : bytesOf (strOfNums [id]) = [id] := bytes_nums _ (by simpa using ⟨h0, h1⟩)
  have ht := take_back text (strOfNums [id]) at_ rest hat (by rw [hs]; exact h)
  rw [strOfNums_size] at ht
  unfold idAt
  rw [show ((1 : Int)) = (([id].length : Nat) : Int) from rfl, ht]
  dsimp only
  rw [get1 id ⟨h0, h1⟩, w64 _ (by omega) (by omega)]
theorem upd_nonneg (c : Nat → Int) (hc : ∀ i, 0 ≤ c i) (j : Nat) : ∀ i, 0 ≤ upd c j (c j + 1) i := by
  intro i
  rw [upd_eq]
  have := hc j
  have := hc i
  split <;> omega
theorem trip {α : Type} {x : α × Int × Int} (h : x.2.2 = 0) : x = (x.1, x.2.1, 0) := by
  rcases x with ⟨a, b, c⟩
  dsimp only at h
  rw [h]
theorem encL_cons (p : PropT) (l : List PropT) : encL (p :: l) = p.f0 % 256 :: (bytesOf (valS (ruleOf p.f0).1 p) ++ encL l) := by
  simp [encL, encP]
theorem need_inv (text a : ByteArray) (at_ : Nat) (m z : Int) (hat : at_ ≤ text.size) (h : needS text at_ 0 m = (a, z, 0)) :
    ∃ k : Nat, m = k ∧ a.size = k ∧ z = ((at_ + k : Nat) : Int) ∧ at_ + k ≤ text.size ∧ (bytesOf text).drop at_ = bytesOf a ++ (bytesOf text).drop (at_ + k) := by
  unfold needS at h
  by_cases hc : m < 0 ∨ m > (text.size : Int) - at_
  · rw [if_pos ⟨rfl, hc⟩] at h
    unfold takeS at h
    rw [if_neg (by decide)] at h
    simp at h
  · rw [if_neg (fun q => hc q.2)] at h
    unfold takeS at h
    rw [if_pos rfl, if_pos ⟨by omega, by omega⟩] at h
    obtain ⟨k, rfl⟩ : ∃ k : Nat, m = k := ⟨m.toNat, by omega⟩
    simp only [Prod.mk.injEq] at h
    obtain ⟨rfl, rfl, _⟩ := h
    rw [show ((at_ : Int) + (k : Int)).toNat = at_ + k by omega, Int.toNat_natCast]
    refine ⟨k, rfl, by rw [ByteArray.size_extract]; omega, by omega, by omega, ?_⟩
    have e : bytesOf (text.extract at_ (at_ + k)) = ((bytesOf text).drop at_).take k := by
      unfold bytesOf
      rw [ByteArray.data_extract, Array.toList_extract, List.extract_eq_take_drop, List.map_take, List.map_drop]
      congr 1
      omega
    rw [e, ← List.drop_drop, List.take_append_drop]
theorem need_err (text : ByteArray) (at_ err m : Int) (h : (needS text at_ err m).2.2 = 0) : err = 0 := by
  apply Classical.byContradiction
  intro he
  unfold needS at h
  rw [if_neg (fun q => he q.1)] at h
  unfold takeS at h
  rw [if_neg he] at h
  exact he h
theorem data_inv (text a : ByteArray) (at_ : Nat) (z : Int) (hat : at_ ≤ text.size) (h : dataS text at_ 0 = (a, z, 0)) :
    a.size ≤ 65535 ∧ z = ((at_ + (binS a).1.size : Nat) : Int) ∧ at_ + (binS a).1.size ≤ text.size ∧ (bytesOf text).drop at_ = bytesOf (binS a).1 ++ (bytesOf text).drop (at_ + (binS a).1.size) := by
  unfold dataS at h
  have he := need_err text _ _ _ (by rw [h])
  obtain ⟨b, z1, hb⟩ : ∃ b z1, needS text at_ 0 2 = (b, z1, 0) := ⟨_, _, trip he⟩
  rw [hb] at h
  obtain ⟨k, hk, hbs, rfl, hle, hdr⟩ := need_inv text b at_ 2 z1 hat hb
  obtain rfl : k = 2 := by omega
  dsimp only at h
  obtain ⟨hp, hg0, hg1⟩ := put_get2 b hbs
  rw [w64 _ (by omega) (by omega)] at h
  obtain ⟨j, hj, haj, rfl, hle2, hdr2⟩ := need_inv text a (at_ + 2) _ z hle h
  have eb : (binS a).1 = b ++ a := by
    unfold binS
    rw [if_neg (by omega), haj, ← hj, hp]
  rw [eb]
  simp only [ByteArray.size_append, hbs, haj]
  refine ⟨by omega, by omega, by omega, ?_⟩
  rw [hdr, hdr2, bytesOf_append, List.append_assoc, Nat.add_assoc]
theorem written_inv (text a : ByteArray) (at_ : Nat) (z : Int) (hat : at_ ≤ text.size) (h : writtenS text at_ 0 = (a, z, 0)) :
    validS a = true ∧ z = ((at_ + (binS a).1.size : Nat) : Int) ∧ at_ + (binS a).1.size ≤ text.size ∧ (bytesOf text).drop at_ = bytesOf (binS a).1 ++ (bytesOf text).drop (at_ + (binS a).1.size) := by
  unfold writtenS at h
  simp only [Prod.mk.injEq] at h
  obtain ⟨rfl, rfl, h3⟩ := h
  by_cases hv : validS (dataS text at_ 0).1 = true
  · rw [if_pos hv] at h3
    obtain ⟨_, h2⟩ := data_inv text (dataS text at_ 0).1 at_ (dataS text at_ 0).2.1 hat (trip h3)
    exact ⟨hv, h2⟩
  · rw [if_neg hv] at h3
    unfold failS at h3
    split at h3 <;> omega
theorem written_err (text : ByteArray) (at_ err : Int) (h : (writtenS text at_ err).2.2 = 0) : err = 0 := by
  apply Classical.byContradiction
  intro he
  have hd : (dataS text at_ err).2.2 ≠ 0 := fun q => he (need_err _ _ _ _ (by unfold dataS at q; exact need_err _ _ _ _ q))
  unfold writtenS at h
  dsimp only at h
  split at h
  · exact hd h
  · unfold failS at h
    rw [if_neg hd] at h
    exact hd h
theorem rest_bytes (text : ByteArray) (at_ : Nat) : bytesOf (restS text at_) = (bytesOf text).drop at_ := by
  unfold restS bytesOf
  rw [ByteArray.data_extract, Array.toList_extract, List.extract_eq_take_drop, List.map_take, List.map_drop, Int.toNat_natCast]
  apply List.take_of_length_le
  simp
theorem value_inv (text : ByteArray) (at_ : Nat) (sh id n : Int) (t v : ByteArray) (z : Int) (hsh : 1 ≤ sh ∧ sh ≤ 7) (hat : at_ ≤ text.size) (hs : text.size ≤ 4000000000000000000)
    (h : valueS sh text at_ = (n, t, v, z, 0)) :
    0 ≤ n ∧ n ≤ 4294967295 ∧ z = ((at_ + (valS sh ⟨id, n, t, v⟩).size : Nat) : Int) ∧ at_ + (valS sh ⟨id, n, t, v⟩).size ≤ text.size ∧ (bytesOf text).drop at_ = bytesOf (valS sh ⟨id, n, t, v⟩) ++ (bytesOf text).drop (at_ + (valS sh ⟨id, n, t, v⟩).size) := by
  have hcase : sh = 1 ∨ sh = 2 ∨ sh = 3 ∨ sh = 4 ∨ sh = 5 ∨ sh = 6 ∨ sh = 7 := by omega
  unfold valueS at h
  rcases hcase with rfl | rfl | rfl | rfl | rfl | rfl | rfl
  · rw [if_pos rfl] at h
    unfold oneS at h
    simp only [Prod.mk.injEq] at h
    obtain ⟨rfl, rfl, rfl, rfl, h3⟩ := h
    obtain ⟨k, hk, hbs, hz, hle, hdr⟩ := need_inv text (needS text at_ 0 1).1 at_ 1 (needS text at_ 0 1).2.1 hat (trip h3)
    obtain rfl : k = 1 := by omega
    obtain ⟨hp, hg0, hg1⟩ := put_get1 _ hbs
    have ev : valS 1 ⟨id, getS (needS text at_ 0 1).1 % 4294967296, ⟨#[]⟩, ⟨#[]⟩⟩ = (needS text at_ 0 1).1 := by
      unfold valS
      dsimp only
      rw [if_pos (Or.inl rfl), u32r _ (by omega) (by omega), u64w _ (by omega) (by omega)]
      exact hp
    rw [ev, hbs]
    exact ⟨by omega, by omega, hz, hle, hdr⟩
  · rw [if_neg (by decide), if_pos rfl] at h
    unfold twoS at h
    simp only [Prod.mk.injEq] at h
    obtain ⟨rfl, rfl, rfl, rfl, h3⟩ := h
    obtain ⟨k, hk, hbs, hz, hle, hdr⟩ := need_inv text (needS text at_ 0 2).1 at_ 2 (needS text at_ 0 2).2.1 hat (trip h3)
    obtain rfl : k = 2 := by omega
    obtain ⟨hp, hg0, hg1⟩ := put_get2 _ hbs
    have ev : valS 2 ⟨id, getS (needS text at_ 0 2).1 % 4294967296, ⟨#[]⟩, ⟨#[]⟩⟩ = (needS text at_ 0 2).1 := by
      unfold valS
      dsimp only
      rw [if_pos (Or.inr rfl), u32r _ (by omega) (by omega), u64w _ (by omega) (by omega)]
      exact hp
    rw [ev, hbs]
    exact ⟨by omega, by omega, hz, hle, hdr⟩
  · rw [if_neg (by decide), if_neg (by decide), if_pos rfl] at h
    unfold fourS at h
    simp only [Prod.mk.injEq] at h
    obtain ⟨rfl, rfl, rfl, rfl, h3⟩ := h
    obtain ⟨k, hk, hbs, hz, hle, hdr⟩ := need_inv text (needS text at_ 0 4).1 at_ 4 (needS text at_ 0 4).2.1 hat (trip h3)
    obtain rfl : k = 4 := by omega
    obtain ⟨hp, hg0, hg1⟩ := put_get4 _ hbs
    have ev : valS 3 ⟨id, getS (needS text at_ 0 4).1 % 4294967296, ⟨#[]⟩, ⟨#[]⟩⟩ = (needS text at_ 0 4).1 := by
      unfold valS
      dsimp only
      rw [if_neg (by decide), if_pos rfl, u32r _ (by omega) (by omega), u64w _ (by omega) (by omega)]
      exact hp
    rw [ev, hbs]
    exact ⟨by omega, by omega, hz, hle, hdr⟩
  · rw [if_neg (by decide), if_neg (by decide), if_neg (by decide), if_pos rfl] at h
    unfold varyS at h
    simp only [Prod.mk.injEq] at h
    obtain ⟨rfl, rfl, rfl, rfl, h3⟩ := h
    have hve : (readVarS (restS text at_)).2.2 = 0 := by
      apply Classical.byContradiction
      intro q
      unfold varErr at h3
      rw [if_neg q] at h3
      rw [show failS 0 5 = 5 from rfl] at h3
      unfold takeS at h3
      rw [if_neg (by decide)] at h3
      dsimp only at h3
      omega
    have hv0 : varErr text at_ 0 = 0 := by unfold varErr; rw [if_pos hve]
    rw [hv0]
    obtain ⟨b0, b1, bz, t2, ht2⟩ := readVar_inv (restS text at_) (readVarS (restS text at_)).1 (readVarS (restS text at_)).2.1 (trip hve)
    generalize readVarS (restS text at_) = rv at *
    have ev : valS 4 ⟨id, rv.1 % 4294967296, ⟨#[]⟩, ⟨#[]⟩⟩ = (varS rv.1).1 := by
      unfold valS
      dsimp only
      rw [if_neg (by decide), if_neg (by decide), if_pos rfl, u32r _ (by omega) (by omega), w64 _ (by omega) (by omega)]
    rw [ev]
    have hb := rest_bytes text at_
    rw [ht2, bytesOf_append] at hb
    have hle := drop_le hb.symm hat
    rw [bytesOf_length] at hle
    have hm := drop_more hb.symm
    rw [bytesOf_length] at hm
    refine ⟨by omega, by omega, ?_, hle, by rw [hm]; exact hb.symm⟩
    unfold takeS
    rw [if_pos rfl, if_pos ⟨by omega, by omega⟩]
    dsimp only
    omega
  · rw [if_neg (by decide), if_neg (by decide), if_neg (by decide), if_neg (by decide), if_pos rfl] at h
    simp only [Prod.mk.injEq] at h
    obtain ⟨rfl, rfl, rfl, rfl, h3⟩ := h
    obtain ⟨hv, hz, hle, hdr⟩ := written_inv text (writtenS text at_ 0).1 at_ (writtenS text at_ 0).2.1 hat (trip h3)
    have ev : valS 5 ⟨id, 0, (writtenS text at_ 0).1, ⟨#[]⟩⟩ = (binS (writtenS text at_ 0).1).1 := by unfold valS; rw [if_neg (by decide), if_neg (by decide), if_neg (by decide), if_neg (by decide)]
    rw [ev]
    exact ⟨by omega, by omega, hz, hle, hdr⟩
  · rw [if_neg (by decide), if_neg (by decide), if_neg (by decide), if_neg (by decide), if_neg (by decide), if_pos rfl] at h
    simp only [Prod.mk.injEq] at h
    obtain ⟨rfl, rfl, rfl, rfl, h3⟩ := h
    obtain ⟨hv, hz, hle, hdr⟩ := data_inv text (dataS text at_ 0).1 at_ (dataS text at_ 0).2.1 hat (trip h3)
    have ev : valS 6 ⟨id, 0, (dataS text at_ 0).1, ⟨#[]⟩⟩ = (binS (dataS text at_ 0).1).1 := by unfold valS; rw [if_neg (by decide), if_neg (by decide), if_neg (by decide), if_neg (by decide)]
    rw [ev]
    exact ⟨by omega, by omega, hz, hle, hdr⟩
  · rw [if_neg (by decide), if_neg (by decide), if_neg (by decide), if_neg (by decide), if_neg (by decide), if_neg (by decide)] at h
    unfold pairS at h
    simp only [Prod.mk.injEq] at h
    obtain ⟨rfl, h1, h2, hz2, h3⟩ := h
    have he := written_err text _ _ h3
    obtain ⟨hv, hz, hle, hdr⟩ := written_inv text (writtenS text at_ 0).1 at_ (writtenS text at_ 0).2.1 hat (trip he)
    rw [he, hz, h1] at h2 hz2 h3
    rw [h1] at hdr hle hv
    obtain ⟨hv2, hz3, hle2, hdr2⟩ := written_inv text v _ z hle (by
      rcases hw : writtenS text ((at_ + (binS t).1.size : Nat) : Int) 0 with ⟨p1, p2, p3⟩
      rw [hw] at h2 hz2 h3
      dsimp only at h2 hz2 h3
      rw [h2, hz2, h3])
    have ev : valS 7 ⟨id, 0, t, v⟩ = (binS t).1 ++ (binS v).1 := by unfold valS; rw [if_neg (by decide), if_neg (by decide), if_neg (by decide), if_pos rfl]
    rw [ev, ByteArray.size_append, ← Nat.add_assoc]
    exact ⟨by omega, by omega, hz3, hle2, by rw [hdr, hdr2, bytesOf_append, List.append_assoc]⟩
theorem id_at (text : ByteArray) (at_ : Nat) (h : at_ < text.size) : ∃ x : Int, 0 ≤ x ∧ x < 256 ∧ (bytesOf text).drop at_ = x :: (bytesOf text).drop (at_ + 1) ∧ idAt text at_ = x := by
  have hd := byN_drop text at_ h
  obtain ⟨_, hb⟩ := byN_eq text at_
  exact ⟨(byN text at_ : Int), by omega, by omega, hd, id_back text at_ _ _ (by omega) (by omega) (by omega) hd⟩
theorem list_inv (kind : Int) (text : ByteArray) (hs : text.size ≤ 4000000000000000000) : ∀ (d at_ : Nat) (c : Nat → Int) (out res : List PropT), (∀ i, 0 ≤ c i) → at_ ≤ text.size → text.size - at_ ≤ d → out.length ≤ 1000 → listTo kind text d at_ c out = (res, 0) →
    ∃ l, res = out ++ l ∧ goodC kind l c ∧ out.length + l.length ≤ 1000 ∧ (bytesOf text).drop at_ = encL l ∧ (decide (0 < c 22 + (cnt 22 l : Int)) && c 21 + (cnt 21 l : Int) == 0) = false ∧ ∀ x ∈ l, 0 ≤ x.f1 ∧ x.f1 ≤ 4294967295 := by
  intro d
  have fin : ∀ (at_ : Nat) (c : Nat → Int) (out res : List PropT), text.size ≤ at_ → out.length ≤ 1000 → (if decide (0 < c 22) && c 21 == 0 then (([] : List PropT), (9 : Int)) else (out, 0)) = (res, 0) →
      ∃ l, res = out ++ l ∧ goodC kind l c ∧ out.length + l.length ≤ 1000 ∧ (bytesOf text).drop at_ = encL l ∧ (decide (0 < c 22 + (cnt 22 l : Int)) && c 21 + (cnt 21 l : Int) == 0) = false ∧ ∀ x ∈ l, 0 ≤ x.f1 ∧ x.f1 ≤ 4294967295 := by
    intro at_ c out res hat hlen h
    cases hb : decide (0 < c 22) && c 21 == 0 with
    | true => rw [hb, if_pos rfl] at h; simp at h
    | false =>
      rw [hb, if_neg (by decide)] at h
      simp only [Prod.mk.injEq, and_true] at h
      refine ⟨[], by rw [h]; simp, ⟨fun _ q => by simp at q, fun _ q => by simp at q⟩, by simpa using hlen, ?_, by simpa [cnt] using hb, fun _ q => by simp at q⟩
      rw [List.drop_of_length_le (by rw [bytesOf_length]; exact hat)]
      rfl
  induction d with
  | zero =>
    intro at_ c out res hc hat hd hlen h
    rw [listTo] at h
    exact fin at_ c out res (by omega) hlen h
  | succ d ih =>
    intro at_ c out res hc hat hd hlen h
    rw [listTo] at h
    by_cases hgo : 0 < (text.size : Int) - at_
    rotate_left
    · rw [if_pos hgo] at h
      exact fin at_ c out res (by omega) hlen h
    rw [if_neg (fun q => q hgo)] at h
    obtain ⟨x, hx0, hx1, hdr, hid⟩ := id_at text at_ (by omega)
    rw [hid, show (at_ : Int) + 1 = ((at_ + 1 : Nat) : Int) by omega] at h
    cases hh : hasS (ruleOf x) kind with
    | false => rw [hh, if_pos rfl] at h; simp at h
    | true =>
      rw [hh, if_neg (by decide)] at h
      obtain ⟨_, hid0, hid1⟩ := rule_shape x kind hh
      obtain ⟨_, _, _, _, _, hsh0, hsh1⟩ := rule_bounds x kind hh
      rcases hva : valueS (ruleOf x).1 text ((at_ + 1 : Nat) : Int) with ⟨n, t, v, z, e⟩
      rw [hva] at h
      dsimp only at h
      by_cases he : e = 0
      rotate_left
      · rw [if_pos he] at h
        simp only [Prod.mk.injEq] at h
        exact absurd h.2 he
      subst he
      rw [if_neg (fun q => q rfl)] at h
      obtain ⟨hn0, hn1, hz, hle, hdr2⟩ := value_inv text (at_ + 1) (ruleOf x).1 x n t v z ⟨hsh0, hsh1⟩ (by omega) hs hva
      by_cases hck : checkS (ruleOf x) kind ⟨x, n, t, v⟩ = 0
      rotate_left
      · rw [if_pos hck] at h
        simp only [Prod.mk.injEq] at h
        exact absurd h.2 hck
      rw [if_neg (fun q => q hck)] at h
      cases hb : decide (1 < c x.toNat + 1) && !oftenB kind x with
      | true => rw [hb, if_pos rfl] at h; simp at h
      | false =>
        rw [hb, if_neg (by decide)] at h
        by_cases hl : out.length = 1000
        · rw [if_pos hl] at h; simp at h
        rw [if_neg hl, hz] at h
        obtain ⟨l, rfl, hg, hll, hdl, hdata, hf⟩ := ih _ (upd c x.toNat (c x.toNat + 1)) _ res (upd_nonneg c hc _) hle (by omega) (by simp; omega) h
        refine ⟨⟨x, n, t, v⟩ :: l, by simp, ?_, by simp at hll; simp; omega, ?_, ?_, ?_⟩
        · refine (good_cons kind ⟨x, n, t, v⟩ l c hc).2 ⟨hck, fun q => ?_, hg⟩
          dsimp only at q
          rw [decide_eq_true q] at hb
          simpa using hb
        · rw [encL_cons, hdr, hdr2, hdl]
          dsimp only
          rw [show x % 256 = x by omega]
        · have ec : ∀ i, upd c x.toNat (c x.toNat + 1) i + (cnt i l : Int) = c i + (cnt i ((⟨x, n, t, v⟩ : PropT) :: l) : Int) := by
            intro i
            rw [upd_eq, cnt_cons]
            dsimp only
            by_cases e : i = x.toNat
            · subst e; simp; omega
            · rw [if_neg e, if_neg (fun q => e q.symm)]; omega
          rw [ec, ec] at hdata
          exact hdata
        · intro y hy
          rcases List.mem_cons.1 hy with rfl | hy
          · exact ⟨hn0, hn1⟩
          · exact hf y hy
theorem listS_inv (kind : Int) (text : ByteArray) (hs : text.size ≤ 4000000000000000000) (l : List PropT) (h : listS kind text = (l, 0)) :
    good kind l ∧ dataOk l = true ∧ text = strOfNums (encL l) ∧ ∀ x ∈ l, 0 ≤ x.f1 ∧ x.f1 ≤ 4294967295 := by
  obtain ⟨m, rfl, hg, hlen, hdr, hdata, hf⟩ := list_inv kind text hs text.size 0 (fun _ => 0) [] l (fun _ => Int.le_refl 0) (by omega) (by omega) (by simp) h
  refine ⟨⟨by simpa using hlen, hg⟩, ?_, ?_, hf⟩
  · unfold dataOk
    simp only [Int.zero_add] at hdata
    simp only [Bool.not_eq_true', Bool.and_eq_false_iff, decide_eq_false_iff_not, beq_eq_false_iff_ne] at hdata ⊢
    omega
  · rw [List.drop_zero] at hdr
    rw [← hdr, nums_bytes]
end Go.Proofs.YtngmipfobcaojaaGreat.HA
end

-- YtngmipfobcaojaaGreatHAhRefD
section
namespace Go.Proofs.YtngmipfobcaojaaGreat.HA
open Go.RowKit Go.Proofs.YtngmipfobcaojaaGreatW.PrintWords Go.Proofs.YtngmipfobcaojaaGreatW.PrintLast Go.Proofs.YtngmipfobcaojaaGreatW.PrintMore
theorem sub_of (text : ByteArray) (a i j : Nat) (hj : a + j ≤ text.size) : (text.extract a text.size).extract i j = text.extract (a + i) (a + j) := by
  apply ByteArray.ext
  apply Array.ext'
  simp only [ByteArray.data_extract, Array.toList_extract, List.extract_eq_take_drop]
  have hs1 : text.data.toList.length = text.size := by simp
  rw [List.take_of_length_le (l := text.data.toList.drop a) (by rw [List.length_drop]; omega), List.drop_drop, show a + j - (a + i) = j - i by omega]
theorem rest_size (text : ByteArray) (a : Nat) : (restS text a).size = text.size - a := by
  unfold restS
  rw [Int.toNat_natCast, ByteArray.size_extract]
  omega
theorem rest_sub (text : ByteArray) (a i j : Nat) (hj : a + j ≤ text.size) : (restS text a).extract i j = text.extract (a + i) (a + j) := by
  unfold restS
  rw [Int.toNat_natCast]
  exact sub_of text a i j hj
theorem rest_rest (text : ByteArray) (a i : Nat) (ha : a ≤ text.size) : (restS text a).extract i (restS text a).size = restS text ((a + i : Nat) : Int) := by
  rw [rest_size, rest_sub text a i _ (by omega), show a + (text.size - a) = text.size by omega]
  unfold restS
  rw [Int.toNat_natCast]
theorem need_eq (text : ByteArray) (a : Nat) (m : Int) (hm : 0 ≤ m) (ha : a ≤ text.size) : needS text a 0 m = if m ≤ (text.size : Int) - a then (text.extract a (a + m.toNat), (a : Int) + m, 0) else (⟨#[]⟩, (a : Int), 5) := by
  unfold needS takeS
  by_cases h : m ≤ (text.size : Int) - a
  · rw [if_neg (show ¬ ((0 : Int) = 0 ∧ (m < 0 ∨ m > (text.size : Int) - a)) by omega), if_pos rfl, if_pos ⟨hm, h⟩, if_pos h, Int.toNat_natCast, show ((a : Int) + m).toNat = a + m.toNat by omega]
  · rw [if_pos (show ((0 : Int) = 0 ∧ (m < 0 ∨ m > (text.size : Int) - a)) from ⟨rfl, Or.inr (by omega)⟩), if_neg (by decide), if_neg h]
theorem need_bad (text : ByteArray) (a e m : Int) (he : ¬ e = 0) : needS text a e m = (⟨#[]⟩, a, e) := by
  unfold needS takeS
  rw [if_neg (show ¬ (e = 0 ∧ (m < 0 ∨ m > (text.size : Int) - a)) from fun q => he q.1), if_neg he]
theorem data_bad (text : ByteArray) (a e : Int) (he : ¬ e = 0) : dataS text a e = (⟨#[]⟩, a, e) := by
  unfold dataS
  rw [need_bad text a e 2 he]
  exact need_bad text a e _ he
theorem nil_valid : validS (⟨#[]⟩ : ByteArray) = true := by kernel_rfl
theorem written_bad (text : ByteArray) (a e : Int) (he : ¬ e = 0) : (writtenS text a e).2.2 = e := by
  unfold writtenS
  rw [data_bad text a e he]
  dsimp only
  rw [if_pos nil_valid]
theorem data_rb (text : ByteArray) (a : Nat) (ha : a ≤ text.size) (hs : text.size ≤ 100000) :
    ((rbS (restS text a)).2.2 = 0 → dataS text a 0 = ((rbS (restS text a)).1, (a : Int) + (rbS (restS text a)).2.1, 0) ∧ 0 ≤ (rbS (restS text a)).2.1 ∧ (a : Int) + (rbS (restS text a)).2.1 ≤ text.size) ∧ ((rbS (restS text a)).2.2 ≠ 0 → (dataS text a 0).1 = ⟨#[]⟩ ∧ (dataS text a 0).2.2 = 5) := by
  have hz := rest_size text a
  unfold rbS dataS
  rw [need_eq text a 2 (by omega) ha]
  by_cases h2 : (restS text a).size < 2
  · rw [if_pos h2, if_neg (by omega)]
    refine ⟨fun q => absurd (show (3 : Int) = 0 from q) (by decide), fun _ => ?_⟩
    rw [need_bad text _ 5 _ (by decide)]
    exact ⟨rfl, rfl⟩
  · have g := two_range (restS text a) (by omega)
    have e : (restS text a).extract 0 2 = text.extract a (a + (2 : Int).toNat) := rest_sub text a 0 2 (by omega)
    rw [if_neg h2, if_pos (show (2 : Int) ≤ (text.size : Int) - a by omega)]
    rw [e] at g ⊢
    dsimp only
    rw [w64 _ (by omega) (by omega), show (a : Int) + 2 = ((a + 2 : Nat) : Int) by omega, need_eq text (a + 2) _ g.1 (by omega)]
    generalize getS (text.extract a (a + (2 : Int).toNat)) = n at *
    by_cases hn : n > ((restS text a).size : Int) - 2
    · rw [if_pos hn, if_neg (by omega)]
      exact ⟨fun q => absurd (show (3 : Int) = 0 from q) (by decide), fun _ => ⟨rfl, rfl⟩⟩
    · rw [if_neg hn, if_pos (by omega)]
      refine ⟨fun _ => ⟨?_, by (try dsimp only); omega, by (try dsimp only); omega⟩, fun q => absurd rfl q⟩
      dsimp only
      rw [rest_sub text a 2 _ (by omega), show a + (2 + n).toNat = a + 2 + n.toNat by omega]
      congr 2
      omega
def partS (sh : Int) (text : ByteArray) (a : Int) : ByteArray × Int × Int := if sh = 6 then dataS text a 0 else writtenS text a 0
theorem text5_f (k : Nat) (sh : Int) (text : ByteArray) (b i : Nat) (hb : b + i ≤ text.size) (hs : text.size ≤ 100000) (hk : 160000 ≤ k) :
    ∃ r0 r1, polyglotref05_text.f k (restS text b) i sh = some (r0, r1, (partS sh text ((b + i : Nat) : Int)).2.2) ∧
      ((partS sh text ((b + i : Nat) : Int)).2.2 = 0 → r0 = (partS sh text ((b + i : Nat) : Int)).1 ∧ ∃ j : Nat, r1 = j ∧ b + j ≤ text.size ∧ (partS sh text ((b + i : Nat) : Int)).2.1 = ((b + j : Nat) : Int)) := by
  have hz := rest_size text b
  have hz2 := rest_size text (b + i)
  obtain ⟨hok, hbad⟩ := data_rb text (b + i) hb hs
  have hds := data_size text ((b + i : Nat) : Int) 0 (by omega) (by omega)
  unfold polyglotref05_text.f
  rw [if_pos (by omega), if_pos (by omega), Int.toNat_natCast, rest_rest text b i (by omega), refRB_f k _ (by omega) (by omega)]
  simp only [Option.bind_some]
  by_cases he : (rbS (restS text ((b + i : Nat) : Int))).2.2 = 0
  · obtain ⟨hd, h0, h1⟩ := hok he
    rw [hd] at hds
    dsimp only at hds
    rw [if_pos he]
    have hw : wrap64 ((i : Int) + (rbS (restS text ((b + i : Nat) : Int))).2.1) = (((i + (rbS (restS text ((b + i : Nat) : Int))).2.1.toNat : Nat)) : Int) := by
      rw [w64 _ (by omega) (by omega)]; omega
    rw [hw]
    by_cases h6 : sh = 6
    · rw [if_pos h6]
      unfold partS
      rw [if_pos h6, hd]
      exact ⟨_, _, rfl, fun _ => ⟨rfl, _, rfl, by omega, by (try dsimp only); omega⟩⟩
    · rw [if_neg h6]
      have hv : q1d.f k (rbS (restS text ((b + i : Nat) : Int))).1 = some (validS (rbS (restS text ((b + i : Nat) : Int))).1) := by
        have := refValid_f (rbS (restS text ((b + i : Nat) : Int))).1 (by omega) (k - (rbS (restS text ((b + i : Nat) : Int))).1.size - 9)
        rwa [show k - (rbS (restS text ((b + i : Nat) : Int))).1.size - 9 + (rbS (restS text ((b + i : Nat) : Int))).1.size + 9 = k by omega] at this
      rw [hv]
      simp only [Option.bind_some]
      unfold partS writtenS
      rw [if_neg h6, hd]
      dsimp only
      cases validS (rbS (restS text ((b + i : Nat) : Int))).1 with
      | true =>
        simp only [if_true]
        exact ⟨_, _, rfl, fun _ => ⟨rfl, _, rfl, by omega, by omega⟩⟩
      | false =>
        simp only [Bool.false_eq_true, if_false]
        exact ⟨_, _, rfl, fun q => absurd (show (6 : Int) = 0 from q) (by decide)⟩
  · obtain ⟨h1, h2⟩ := hbad he
    rw [if_neg he]
    have e5 : (partS sh text ((b + i : Nat) : Int)).2.2 = 5 := by
      unfold partS
      by_cases h6 : sh = 6
      · rw [if_pos h6, h2]
      · rw [if_neg h6]
        unfold writtenS
        dsimp only
        rw [h1, h2, if_pos nil_valid]
    rw [e5]
    exact ⟨_, _, rfl, fun q => absurd (show (5 : Int) = 0 from q) (by decide)⟩
theorem num_f (k : Nat) (sh n : Int) (text : ByteArray) (b : Nat) (hb : b < text.size) (hs : text.size ≤ 100000) (hk : 160000 ≤ k) (hsh : (sh = 1 ∧ n = 1) ∨ (sh = 2 ∧ n = 2) ∨ (sh = 3 ∧ n = 4)) (id : Int) :
    ∃ r1 r4, q1f.j0 k (restS text b) sh 1 sh true id 0 ⟨#[]⟩ ⟨#[]⟩ = some (id, r1, ⟨#[]⟩, ⟨#[]⟩, r4, (needS text ((b + 1 : Nat) : Int) 0 n).2.2) ∧
      ((needS text ((b + 1 : Nat) : Int) 0 n).2.2 = 0 → r1 = getS (needS text ((b + 1 : Nat) : Int) 0 n).1 % 4294967296 ∧ ∃ j : Nat, r4 = j ∧ b + j ≤ text.size ∧ (needS text ((b + 1 : Nat) : Int) 0 n).2.1 = ((b + j : Nat) : Int)) := by
  obtain ⟨k, rfl⟩ : ∃ m, k = m + 1 := ⟨k - 1, by omega⟩
  have hz := rest_size text b
  have hn : rd [0, 1, 2, 4] sh = n := by rcases hsh with ⟨rfl, rfl⟩ | ⟨rfl, rfl⟩ | ⟨rfl, rfl⟩ <;> decide
  have hs3 : 1 ≤ sh ∧ sh ≤ 3 ∧ 1 ≤ n ∧ n ≤ 4 := by omega
  rw [q1f.j0.eq_def]
  simp only [Option.bind_some, if_true]
  rw [if_pos (by omega), if_pos (show sh < (([0, 1, 2, 4] : List Int).length : Int) by simp; omega), hn, w64 _ (by omega) (by omega), need_eq text (b + 1) n (by omega) (by omega)]
  by_cases hl : ((restS text b).size : Int) - 1 < n
  · rw [if_pos hl, if_neg (by omega)]
    exact ⟨_, _, rfl, fun q => absurd (show (5 : Int) = 0 from q) (by decide)⟩
  · rw [if_neg hl, if_pos (by omega), w64 (1 + n) (by omega) (by omega), if_pos (by omega), if_pos (by omega), if_pos (by omega), show (1 : Int).toNat = 1 from rfl, rest_sub text b 1 _ (by omega), show b + (1 + n).toNat = b + 1 + n.toNat by omega]
    rw [refGet_f k _ (by rw [ByteArray.size_extract]; omega) (by rw [ByteArray.size_extract]; omega)]
    simp only [Option.bind_some]
    refine ⟨_, _, rfl, fun _ => ⟨rfl, (1 + n).toNat, by omega, by omega, by (try dsimp only); omega⟩⟩
theorem bt_id (text : ByteArray) (at_ : Nat) (h : at_ < text.size) : wrap64 (bt (restS text at_) 0) = idAt text at_ := by
  obtain ⟨x, h0, h1, h2, h3⟩ := id_at text at_ h
  rw [h3, ← rd_bytesOf, rest_bytes, h2]
  show wrap64 (rd (x :: _) 0) = x
  unfold rd
  simp
  exact w64 x (by omega) (by omega)
theorem next_f (kind : Int) (text : ByteArray) (at_ : Nat) (h : at_ < text.size) (hs : text.size ≤ 100000) (hh : hasS (ruleOf (idAt text at_)) kind = true) (k : Nat) (hk : 170000 ≤ k) :
    ∃ r0 r1 r2 r3 r4, q1f.f k (restS text at_) = some (r0, r1, r2, r3, r4, (valueS (ruleOf (idAt text at_)).1 text ((at_ + 1 : Nat) : Int)).2.2.2.2) ∧ r0 = idAt text at_ ∧
      ((valueS (ruleOf (idAt text at_)).1 text ((at_ + 1 : Nat) : Int)).2.2.2.2 = 0 → r1 = (valueS (ruleOf (idAt text at_)).1 text ((at_ + 1 : Nat) : Int)).1 ∧ r2 = (valueS (ruleOf (idAt text at_)).1 text ((at_ + 1 : Nat) : Int)).2.1 ∧ r3 = (valueS (ruleOf (idAt text at_)).1 text ((at_ + 1 : Nat) : Int)).2.2.1 ∧ ∃ j : Nat, r4 = j ∧ at_ + j ≤ text.size ∧ (valueS (ruleOf (idAt text at_)).1 text ((at_ + 1 : Nat) : Int)).2.2.2.1 = ((at_ + j : Nat) : Int)) := by
  obtain ⟨k, rfl⟩ : ∃ m, k = m + 5 := ⟨k - 5, by omega⟩
  have hz := rest_size text at_
  have hb := rule_bounds (idAt text at_) kind hh
  obtain ⟨ks, hl, _, _⟩ := look_at k (idAt text at_)
  unfold q1f.f
  rw [if_pos (by omega), bt_id text at_ h, hl]
  simp only [Option.bind_some]
  generalize (ruleOf (idAt text at_)).1 = sh at *
  generalize idAt text at_ = id at *
  unfold valueS
  by_cases e1 : sh = 1
  · subst e1
    obtain ⟨r1, r4, h1, h2⟩ := num_f (k + 5) 1 1 text at_ h hs (by omega) (Or.inl ⟨rfl, rfl⟩) id
    simp only [if_true]
    rw [show ((1 : Int) == 1) = true from rfl, h1]
    unfold oneS
    exact ⟨_, _, _, _, _, rfl, rfl, fun q => ⟨(h2 q).1, rfl, rfl, (h2 q).2⟩⟩
  by_cases e2 : sh = 2
  · subst e2
    obtain ⟨r1, r4, h1, h2⟩ := num_f (k + 5) 2 2 text at_ h hs (by omega) (Or.inr (Or.inl ⟨rfl, rfl⟩)) id
    simp only [if_true, show ¬ ((2 : Int) = 1) by decide, if_false]
    rw [show ((2 : Int) == 2) = true from rfl, h1]
    unfold twoS
    exact ⟨_, _, _, _, _, rfl, rfl, fun q => ⟨(h2 q).1, rfl, rfl, (h2 q).2⟩⟩
  by_cases e3 : sh = 3
  · subst e3
    obtain ⟨r1, r4, h1, h2⟩ := num_f (k + 5) 3 4 text at_ h hs (by omega) (Or.inr (Or.inr ⟨rfl, rfl⟩)) id
    simp only [if_true, show ¬ ((3 : Int) = 1) by decide, show ¬ ((3 : Int) = 2) by decide, if_false]
    rw [show ((3 : Int) == 3) = true from rfl, h1]
    unfold fourS
    exact ⟨_, _, _, _, _, rfl, rfl, fun q => ⟨(h2 q).1, rfl, rfl, (h2 q).2⟩⟩
  rw [if_neg e1, if_neg e2, beq_eq_false_iff_ne.2 e3, if_neg e1, if_neg e2, if_neg e3, show k + 5 = (k + 4) + 1 from rfl, q1f.j0.eq_def]
  simp only [Bool.false_eq_true, if_false]
  have hr1 := rest_rest text at_ 1 (by omega)
  by_cases e4 : sh = 4
  · subst e4
    rw [if_pos rfl, if_pos rfl, if_pos (by omega), if_pos (by omega), show (1 : Int).toNat = 1 from rfl, hr1, ref2read_f _ _ (by omega)]
    simp only [Option.bind_some]
    have hv := readVar_size (restS text ((at_ + 1 : Nat) : Int))
    rw [rest_size] at hv
    unfold varyS varErr
    by_cases hve : (readVarS (restS text ((at_ + 1 : Nat) : Int))).2.2 = 0
    · rw [if_pos hve, if_pos hve]
      unfold takeS
      rw [if_pos rfl, if_pos (show 0 ≤ (readVarS (restS text ((at_ + 1 : Nat) : Int))).2.1 ∧ (readVarS (restS text ((at_ + 1 : Nat) : Int))).2.1 ≤ (text.size : Int) - ((at_ + 1 : Nat) : Int) by omega), w64 (1 + _) (by omega) (by omega)]
      exact ⟨_, _, _, _, _, rfl, rfl, fun _ => ⟨rfl, rfl, rfl, 1 + (readVarS (restS text ((at_ + 1 : Nat) : Int))).2.1.toNat, by omega, by omega, by (try dsimp only); omega⟩⟩
    · rw [if_neg hve, if_neg hve]
      have e5 : (takeS text ((at_ + 1 : Nat) : Int) (failS 0 5) (readVarS (restS text ((at_ + 1 : Nat) : Int))).2.1).2.2 = 5 := by
        unfold takeS failS
        rfl
      dsimp only
      rw [e5]
      exact ⟨_, _, _, _, _, rfl, rfl, fun q => absurd (show (5 : Int) = 0 from q) (by decide)⟩
  rw [if_neg e4, if_neg e4]
  obtain ⟨t0, t1, ht, hto⟩ := text5_f (k + 4) sh text at_ 1 (by omega) hs (by omega)
  rw [show ((1 : Nat) : Int) = 1 from rfl] at ht
  rw [ht]
  simp only [Option.bind_some]
  by_cases e5 : sh = 5
  · subst e5
    have ep : partS 5 text ((at_ + 1 : Nat) : Int) = writtenS text ((at_ + 1 : Nat) : Int) 0 := rfl
    rw [ep] at hto ⊢
    rw [if_pos rfl, if_neg (by decide : ¬ (5 : Int) = 7)]
    refine ⟨id, 0, t0, ⟨#[]⟩, t1, by split <;> rfl, rfl, fun q => ⟨rfl, (hto q).1, rfl, (hto q).2⟩⟩
  by_cases e6 : sh = 6
  · subst e6
    have ep : partS 6 text ((at_ + 1 : Nat) : Int) = dataS text ((at_ + 1 : Nat) : Int) 0 := rfl
    rw [ep] at hto ⊢
    rw [if_neg (by decide : ¬ (6 : Int) = 5), if_pos rfl, if_neg (by decide : ¬ (6 : Int) = 7)]
    refine ⟨id, 0, t0, ⟨#[]⟩, t1, by split <;> rfl, rfl, fun q => ⟨rfl, (hto q).1, rfl, (hto q).2⟩⟩
  obtain rfl : sh = 7 := by omega
  have ep : ∀ a : Int, partS 7 text a = writtenS text a 0 := fun _ => rfl
  rw [ep] at hto ⊢
  rw [if_neg e5, if_neg e6, if_pos rfl]
  unfold pairS
  dsimp only
  by_cases hw : (writtenS text ((at_ + 1 : Nat) : Int) 0).2.2 = 0
  · obtain ⟨g0, j, g1, g2, g3⟩ := hto hw
    rw [if_pos hw, g3, hw, g1]
    obtain ⟨u0, u1, hu, huo⟩ := text5_f (k + 4) 7 text at_ j g2 hs (by omega)
    rw [hu]
    simp only [Option.bind_some]
    rw [ep] at huo ⊢
    refine ⟨id, 0, t0, u0, u1, rfl, rfl, fun q => ⟨rfl, g0, (huo q).1, (huo q).2⟩⟩
  · rw [if_neg hw, written_bad text _ _ hw]
    refine ⟨id, 0, t0, ⟨#[]⟩, t1, rfl, rfl, fun q => absurd q hw⟩
end Go.Proofs.YtngmipfobcaojaaGreat.HA
end

-- YtngmipfobcaojaaGreatHAhReadLaw
section
namespace Go.Proofs.YtngmipfobcaojaaGreat.HA
open Go.RowKit Go.Proofs.YtngmipfobcaojaaGreatW.PrintWords Go.Proofs.YtngmipfobcaojaaGreatW.PrintLast Go.Proofs.YtngmipfobcaojaaGreatW.PrintMore
def readS (kind : Int) (s : ByteArray) : List PropT × Int × Int :=
  if (readVarS s).2.2 = 0 then
    (if (readVarS s).1 > (s.size : Int) - (readVarS s).2.1 then ([], 0, 3)
    else if (listS kind (s.extract (readVarS s).2.1.toNat ((readVarS s).2.1 + (readVarS s).1).toNat)).2 = 0 then
      ((listS kind (s.extract (readVarS s).2.1.toNat ((readVarS s).2.1 + (readVarS s).1).toNat)).1, (readVarS s).2.1 + (readVarS s).1, 0)
    else ([], 0, (listS kind (s.extract (readVarS s).2.1.toNat ((readVarS s).2.1 + (readVarS s).1).toNat)).2))
  else ([], 0, (readVarS s).2.2)
theorem read5_f (k : Nat) (kind : Int) (s : ByteArray) (hk : 4 < k) (hs : s.size ≤ 4000000000000) : prop_Read.f k kind s = some (readS kind s) := by
  unfold prop_Read.f readS
  rw [varread_f k s hk]
  simp only [Option.bind_some]
  have hz := readVar_size s
  by_cases he : (readVarS s).2.2 = 0
  · rw [if_pos he, if_pos he]
    obtain ⟨h0, h1, _⟩ := readVar_inv s (readVarS s).1 (readVarS s).2.1 (trip he)
    generalize readVarS s = v at *
    rw [w64 _ (by omega) (by omega), w64 _ (by omega) (by omega)]
    by_cases hl : v.1 > (s.size : Int) - v.2.1
    · rw [if_pos hl, if_pos hl]
    · rw [if_neg hl, if_neg hl, if_pos hz.1, if_pos (by omega), if_pos (by omega)]
      unfold prop_list.f
      rw [if_pos (by rw [ByteArray.size_extract]; omega)]
      simp only [Option.bind_some]
      split <;> rfl
  · rw [if_neg he, if_neg he]
theorem read_inv (kind : Int) (s : ByteArray) (hs : s.size ≤ 4000000000000) (h : (readS kind s).2.2 = 0) :
    (bytesS kind (readS kind s).1).2 = 0 ∧ (∃ t, s = (bytesS kind (readS kind s).1).1 ++ t) ∧ (readS kind s).2.1 = ((bytesS kind (readS kind s).1).1.size : Int) ∧ ∀ x ∈ (readS kind s).1, 0 ≤ x.f1 ∧ x.f1 ≤ 4294967295 := by
  unfold readS at h ⊢
  have hz := readVar_size s
  by_cases he : (readVarS s).2.2 = 0
  rotate_left
  · rw [if_neg he] at h; exact absurd h he
  rw [if_pos he] at h ⊢
  obtain ⟨h0, h1, hzz, t, ht⟩ := readVar_inv s (readVarS s).1 (readVarS s).2.1 (trip he)
  generalize readVarS s = v at *
  by_cases hl : v.1 > (s.size : Int) - v.2.1
  · rw [if_pos hl] at h; simp at h
  rw [if_neg hl] at h ⊢
  by_cases hle : (listS kind (s.extract v.2.1.toNat (v.2.1 + v.1).toNat)).2 = 0
  rotate_left
  · rw [if_neg hle] at h; exact absurd h hle
  rw [if_pos hle]
  dsimp only
  have hxs : (s.extract v.2.1.toNat (v.2.1 + v.1).toNat).size = v.1.toNat := by rw [ByteArray.size_extract]; omega
  obtain ⟨hg, hd, htx, hf⟩ := listS_inv kind (s.extract v.2.1.toNat (v.2.1 + v.1).toNat) (by omega) (listS kind (s.extract v.2.1.toNat (v.2.1 + v.1).toNat)).1 (by rcases hq : listS kind (s.extract v.2.1.toNat (v.2.1 + v.1).toNat) with ⟨q1, q2⟩; rw [hq] at hle; dsimp only at hle; rw [hle])
  have hok := bytes_ok.2 ⟨hg, hd⟩
  have hb := bytes_of hok
  have hlen : ((encL (listS kind (s.extract v.2.1.toNat (v.2.1 + v.1).toNat)).1).length : Int) = v.1 := by
    have := congrArg ByteArray.size htx
    rw [strOfNums_size, hxs] at this
    omega
  rw [hlen, ← htx] at hb
  rw [hb]
  refine ⟨rfl, ⟨s.extract (v.2.1 + v.1).toNat s.size, ?_⟩, ?_, hf⟩
  · apply ByteArray.ext
    apply Array.ext'
    have hs1 : s.data.toList.length = s.size := by simp
    have e1 : (varS v.1).1.data.toList = s.data.toList.take v.2.1.toNat := by
      have hv : (varS v.1).1.data.toList.length = v.2.1.toNat := by
        have : (varS v.1).1.data.toList.length = (varS v.1).1.size := by simp
        omega
      have := congrArg (fun b : ByteArray => b.data.toList) ht
      try dsimp only at this
      rw [this, ByteArray.data_append, Array.toList_append, List.take_left' hv]
    dsimp only
    rw [ByteArray.data_append, ByteArray.data_append, Array.toList_append, Array.toList_append, e1, ByteArray.data_extract, ByteArray.data_extract, Array.toList_extract, Array.toList_extract, List.extract_eq_take_drop, List.extract_eq_take_drop]
    rw [List.take_of_length_le (l := s.data.toList.drop (v.2.1 + v.1).toNat) (by rw [List.length_drop]; omega)]
    rw [show (v.2.1 + v.1).toNat - v.2.1.toNat = v.1.toNat by omega]
    have e3 : s.data.toList.take v.2.1.toNat ++ (s.data.toList.drop v.2.1.toNat).take v.1.toNat = s.data.toList.take (v.2.1 + v.1).toNat := by
      rw [show (v.2.1 + v.1).toNat = v.2.1.toNat + v.1.toNat by omega, List.take_add]
    rw [e3, List.take_append_drop]
  · dsimp only
    rw [ByteArray.size_append, hxs]
    omega
theorem read_err (kind : Int) (s : ByteArray) (h : (readS kind s).2.2 ≠ 0) : (readS kind s).1 = [] ∧ (readS kind s).2.1 = 0 := by
  unfold readS at h ⊢
  by_cases he : (readVarS s).2.2 = 0
  · rw [if_pos he] at h ⊢
    by_cases hl : (readVarS s).1 > (s.size : Int) - (readVarS s).2.1
    · rw [if_pos hl]; exact ⟨rfl, rfl⟩
    · rw [if_neg hl] at h ⊢
      by_cases hle : (listS kind (s.extract (readVarS s).2.1.toNat ((readVarS s).2.1 + (readVarS s).1).toNat)).2 = 0
      · rw [if_pos hle] at h; exact absurd rfl h
      · rw [if_neg hle]; exact ⟨rfl, rfl⟩
  · rw [if_neg he]; exact ⟨rfl, rfl⟩
def neP (a b : PropT) : Bool := (!(a.f0 == b.f0) || (!(a.f1 == b.f1) || (!((a.f2.toList) == (b.f2.toList)) || (!((a.f3.toList) == (b.f3.toList))))))
theorem str_eq (a b : ByteArray) : a.toList = b.toList ↔ a = b := by
  constructor
  · intro h
    rw [Lib.toList_data, Lib.toList_data] at h
    apply ByteArray.ext
    exact Array.ext' h
  · rintro rfl; rfl
theorem neP_false (a b : PropT) : neP a b = false ↔ a = b := by
  obtain ⟨a0, a1, a2, a3⟩ := a
  obtain ⟨b0, b1, b2, b3⟩ := b
  unfold neP
  simp only [Bool.or_eq_false_iff, Bool.not_eq_false', beq_iff_eq, str_eq]
  constructor
  · rintro ⟨rfl, rfl, rfl, rfl⟩; rfl
  · intro h; cases h; exact ⟨rfl, rfl, rfl, rfl⟩
theorem rd_get (l : List PropT) (i : Nat) (h : i < l.length) : qu l (i : Int) = l[i] := by
  unfold qu
  rw [List.getD_eq_getElem?_getD, Int.toNat_natCast, List.getElem?_eq_getElem h]
  rfl
theorem kitSame_l0 (a b : List PropT) (hl : a.length = b.length) (hm : a.length ≤ 1000000) : ∀ (d k i : Nat), i + d = a.length → d < k → ∃ r, q1u.l0 k a b i = some r ∧ (r = true ↔ a.drop i = b.drop i) := by
  intro d
  induction d with
  | zero =>
    intro k i hi hk
    obtain ⟨k, rfl⟩ : ∃ m, k = m + 1 := ⟨k - 1, by omega⟩
    rw [q1u.l0.eq_def]
    simp only []
    rw [if_neg (by omega)]
    exact ⟨true, rfl, by rw [List.drop_of_length_le (by omega), List.drop_of_length_le (by omega)]; simp⟩
  | succ d ih =>
    intro k i hi hk
    obtain ⟨k, rfl⟩ : ∃ m, k = m + 1 := ⟨k - 1, by omega⟩
    rw [q1u.l0.eq_def]
    simp only []
    rw [if_pos (by omega), if_pos (by omega), if_pos (by omega)]
    show ∃ r, (if neP (qu a i) (qu b i) = true then some false else q1u.l0 k a b (wrap64 ((i : Int) + 1))) = some r ∧ _
    rw [rd_get a i (by omega), rd_get b i (by omega)]
    have ed : (a.drop i = b.drop i) ↔ (a[i] = b[i] ∧ a.drop (i + 1) = b.drop (i + 1)) := by
      rw [List.drop_eq_getElem_cons (show i < a.length by omega), List.drop_eq_getElem_cons (show i < b.length by omega), List.cons.injEq]
    by_cases e : a[i] = b[i]
    · rw [(neP_false _ _).2 e, if_neg (by decide), w64 _ (by omega) (by omega), show (i : Int) + 1 = ((i + 1 : Nat) : Int) by omega]
      obtain ⟨r, hr, h⟩ := ih k (i + 1) (by omega) (by omega)
      exact ⟨r, hr, by rw [ed, h]; exact ⟨fun q => ⟨e, q⟩, fun q => q.2⟩⟩
    · have : neP a[i] b[i] = true := by
        cases q : neP a[i] b[i] with
        | true => rfl
        | false => exact absurd ((neP_false _ _).1 q) e
      rw [this, if_pos rfl]
      exact ⟨false, rfl, by rw [ed]; simp [e]⟩
theorem kitSame_f (k : Nat) (a b : List PropT) (hk : a.length < k) (hm : a.length ≤ 1000000) : ∃ r, q1u.f k a b = some r ∧ (r = true ↔ a = b) := by
  unfold q1u.f
  by_cases hl : a.length = b.length
  · rw [if_pos (by omega)]
    have := kitSame_l0 a b hl hm a.length k 0 (by omega) hk
    rwa [show ((0 : Nat) : Int) = 0 from rfl, List.drop_zero, List.drop_zero] at this
  · rw [if_neg (by omega)]
    exact ⟨false, rfl, by simp; rintro rfl; exact hl rfl⟩
theorem propSame_l0 (a b : List PropT) (hl : a.length = b.length) (hm : a.length ≤ 1000000) : ∀ (d k i : Nat), i + d = a.length → d < k → ∃ r, q1n.l0 k a b a.length i = some r ∧ (r = true ↔ a.drop i = b.drop i) := by
  intro d
  induction d with
  | zero =>
    intro k i hi hk
    obtain ⟨k, rfl⟩ : ∃ m, k = m + 1 := ⟨k - 1, by omega⟩
    rw [q1n.l0.eq_def]
    simp only []
    rw [if_neg (by omega)]
    exact ⟨true, rfl, by rw [List.drop_of_length_le (by omega), List.drop_of_length_le (by omega)]; simp⟩
  | succ d ih =>
    intro k i hi hk
    obtain ⟨k, rfl⟩ : ∃ m, k = m + 1 := ⟨k - 1, by omega⟩
    rw [q1n.l0.eq_def]
    simp only []
    rw [if_pos (by omega), if_pos (by omega), if_pos (by omega), if_pos (by omega)]
    show ∃ r, (if neP (qu a i) (qu b i) = true then some false else q1n.l0 k a b a.length (wrap64 ((i : Int) + 1))) = some r ∧ _
    rw [rd_get a i (by omega), rd_get b i (by omega)]
    have ed : (a.drop i = b.drop i) ↔ (a[i] = b[i] ∧ a.drop (i + 1) = b.drop (i + 1)) := by
      rw [List.drop_eq_getElem_cons (show i < a.length by omega), List.drop_eq_getElem_cons (show i < b.length by omega), List.cons.injEq]
    by_cases e : a[i] = b[i]
    · rw [(neP_false _ _).2 e, if_neg (by decide), w64 _ (by omega) (by omega), show (i : Int) + 1 = ((i + 1 : Nat) : Int) by omega]
      obtain ⟨r, hr, h⟩ := ih k (i + 1) (by omega) (by omega)
      exact ⟨r, hr, by rw [ed, h]; exact ⟨fun q => ⟨e, q⟩, fun q => q.2⟩⟩
    · have : neP a[i] b[i] = true := by
        cases q : neP a[i] b[i] with
        | true => rfl
        | false => exact absurd ((neP_false _ _).1 q) e
      rw [this, if_pos rfl]
      exact ⟨false, rfl, by rw [ed]; simp [e]⟩
theorem propSame_f (k : Nat) (a b : List PropT) (hk : a.length < k) (hm : a.length ≤ 1000000) : ∃ r, q1n.f k a b = some r ∧ (r = true ↔ a = b) := by
  unfold q1n.f
  by_cases hl : a.length = b.length
  · rw [if_pos (by omega)]
    have := propSame_l0 a b hl hm a.length k 0 (by omega) hk
    rwa [show ((0 : Nat) : Int) = 0 from rfl, List.drop_zero, List.drop_zero] at this
  · rw [if_neg (by omega)]
    exact ⟨false, rfl, by simp; rintro rfl; exact hl rfl⟩
end Go.Proofs.YtngmipfobcaojaaGreat.HA
end

-- YtngmipfobcaojaaGreatHAhRefE
section
namespace Go.Proofs.YtngmipfobcaojaaGreat.HA
open Go.RowKit Go.Proofs.YtngmipfobcaojaaGreatW.PrintWords Go.Proofs.YtngmipfobcaojaaGreatW.PrintLast Go.Proofs.YtngmipfobcaojaaGreatW.PrintMore
theorem part_size (text : ByteArray) (a err : Int) (h0 : 0 ≤ a) (h1 : a ≤ text.size) : (writtenS text a err).1.size ≤ text.size := data_size text a err h0 h1
theorem value_size (sh : Int) (text : ByteArray) (a : Int) (h0 : 0 ≤ a) (h1 : a ≤ text.size) : (valueS sh text a).2.1.size ≤ text.size ∧ (valueS sh text a).2.2.1.size ≤ text.size := by
  have z : (⟨#[]⟩ : ByteArray).size ≤ text.size := Nat.zero_le _
  have hw := written_at text a 0 h0 h1
  unfold valueS
  repeat' split
  · exact ⟨z, z⟩
  · exact ⟨z, z⟩
  · exact ⟨z, z⟩
  · exact ⟨z, z⟩
  · exact ⟨part_size text a 0 h0 h1, z⟩
  · exact ⟨data_size text a 0 h0 h1, z⟩
  · exact ⟨part_size text a 0 h0 h1, part_size text _ _ hw.1 hw.2⟩
def ansS (z : Int) (r : List PropT × Int) : List PropT × Int × Int := if r.2 = 0 then (r.1, z, 0) else ([], 0, r.2)
theorem ans_err (z e : Int) (l : List PropT) (he : ¬ e = 0) : ansS z (l, e) = ([], 0, e) := by unfold ansS; rw [if_neg he]
theorem refRead_end (kind n size : Int) (k : Nat) (text : ByteArray) (at_ : Nat) (c : Nat → Int) (out : List PropT) (h : text.size ≤ at_) (hc : ∀ i, c i = (cnt i out : Int)) (hp : ∀ p ∈ out, checkS (ruleOf p.f0) kind p = 0) (hlen : out.length ≤ 1000) (hk : 2000 ≤ k) :
    qj.l0 k kind n size out (restS text at_) = some (ansS (wrap64 (size + n)) (if decide (0 < c 22) && c 21 == 0 then ([], 9) else (out, 0))) := by
  obtain ⟨k, rfl⟩ : ∃ m, k = m + 1 := ⟨k - 1, by omega⟩
  have hz := rest_size text at_
  have he : (restS text at_).toList = [] := by
    rw [Lib.toList_data]
    apply List.eq_nil_of_length_eq_zero
    have : (restS text at_).data.toList.length = (restS text at_).size := by simp
    omega
  rw [qj.l0.eq_def]
  simp only []
  rw [if_pos he, refLone_f k out (by omega) (by omega)]
  simp only [Option.bind_some]
  have e22 := any_cnt kind out hp 22 (by omega)
  have e21 := any_cnt kind out hp 21 (by omega)
  rw [show Int.toNat 22 = 22 from rfl] at e22
  rw [show Int.toNat 21 = 21 from rfl] at e21
  rw [e22, e21, hc 22, hc 21]
  have e : (decide (0 < (cnt 22 out : Int)) && ((cnt 21 out : Int) == 0)) = (decide (0 < cnt 22 out) && !decide (0 < cnt 21 out)) := by
    by_cases h1 : 0 < cnt 22 out <;> by_cases h2 : 0 < cnt 21 out <;> simp [h1, h2] <;> omega
  rw [e]
  cases decide (0 < cnt 22 out) && !decide (0 < cnt 21 out) with
  | true => rfl
  | false => rfl
theorem refRead_l0 (kind n size : Int) (text : ByteArray) (hs : text.size ≤ 100000) : ∀ (d k at_ : Nat) (c : Nat → Int) (out : List PropT), text.size - at_ ≤ d → at_ ≤ text.size → (∀ i, c i = (cnt i out : Int)) → (∀ p ∈ out, checkS (ruleOf p.f0) kind p = 0) → out.length ≤ 1000 → 200000 + 5 * d ≤ k →
    qj.l0 k kind n size out (restS text at_) = some (ansS (wrap64 (size + n)) (listTo kind text d at_ c out)) := by
  intro d
  induction d with
  | zero =>
    intro k at_ c out hd hat hc hp hlen hk
    rw [refRead_end kind n size k text at_ c out (by omega) hc hp hlen (by omega), listTo]
  | succ d ih =>
    intro k at_ c out hd hat hc hp hlen hk
    rw [listTo]
    by_cases hend : 0 < (text.size : Int) - at_
    rotate_left
    · rw [if_pos hend]
      exact refRead_end kind n size k text at_ c out (by omega) hc hp hlen (by omega)
    rw [if_neg (show ¬ ¬ 0 < (text.size : Int) - at_ from fun q => q hend)]
    obtain ⟨k, rfl⟩ : ∃ m, k = m + 5 := ⟨k - 5, by omega⟩
    have hz := rest_size text at_
    have hne : ¬ (restS text at_).toList = [] := by
      intro q
      rw [Lib.toList_data] at q
      have : (restS text at_).data.toList.length = (restS text at_).size := by simp
      rw [q] at this
      simp at this
      omega
    rw [show k + 5 = (k + 4) + 1 from rfl, qj.l0.eq_def]
    simp only []
    rw [if_neg hne, if_pos (by omega), bt_id text at_ (by omega), refMay_f _ kind _ (by omega)]
    simp only [Option.bind_some]
    cases hh : hasS (ruleOf (idAt text at_)) kind with
    | false => rfl
    | true =>
      simp only [if_true, Bool.true_eq_false, if_false]
      obtain ⟨r0, r1, r2, r3, r4, hn, hr0, hr⟩ := next_f kind text at_ (by omega) hs hh (k + 4) (by omega)
      rw [hn]
      simp only [Option.bind_some]
      have hvs := value_size (ruleOf (idAt text at_)).1 text ((at_ + 1 : Nat) : Int) (by omega) (by omega)
      rw [show ((at_ : Int) + 1) = ((at_ + 1 : Nat) : Int) by omega]
      generalize hV : valueS (ruleOf (idAt text at_)).1 text ((at_ + 1 : Nat) : Int) = V at *
      have hj : ∀ (e t4 : Int) (a b : Int) (cc dd : ByteArray), ¬ e = 0 → qj.j1 (k + 4) kind n size out (restS text at_) t4 e a b cc dd = some (ansS (wrap64 (size + n)) ([], e)) := by
        intro e t4 a b cc dd he
        rw [show k + 4 = (k + 3) + 1 from rfl, qj.j1.eq_def]
        simp only []
        rw [if_neg he, show k + 3 = (k + 2) + 1 from rfl, qj.j2.eq_def]
        simp only [Bool.false_eq_true, if_false]
        rw [show k + 2 = (k + 1) + 1 from rfl, qj.j3.eq_def]
        simp only []
        rw [if_neg he, qj.j4.eq_def]
        simp only [Bool.false_eq_true, if_false]
        rw [if_neg he, ans_err _ e [] he]
      by_cases hve : V.2.2.2.2 = 0
      rotate_left
      · rw [if_neg hve, hj _ _ _ _ _ _ hve, if_pos hve]
      obtain ⟨h1, h2, h3, j, h4, h5, h6⟩ := hr hve
      rw [if_pos hve, if_neg (show ¬ V.2.2.2.2 ≠ 0 from fun q => q hve), hr0, h1, h2, h3]
      have hck := refCheck_f (k + 4) kind ⟨idAt text at_, V.1, V.2.1, V.2.2.1⟩ (by dsimp only; omega) (by dsimp only; omega) (by omega)
      dsimp only at hck
      rw [hck]
      simp only [Option.bind_some]
      generalize hP : (⟨idAt text at_, V.1, V.2.1, V.2.2.1⟩ : PropT) = P at *
      have hP0 : P.f0 = idAt text at_ := by rw [← hP]
      by_cases hce : checkS (ruleOf (idAt text at_)) kind P = 0
      rotate_left
      · rw [hj _ _ _ _ _ _ hce, if_pos hce]
      rw [hce, if_neg (show ¬ (0 : Int) ≠ 0 by decide)]
      have hid := check_id kind P (by rw [hP0]; exact hce)
      rw [hP0] at hid
      rw [show k + 4 = (k + 3) + 1 from rfl, qj.j1.eq_def]
      simp only [if_true]
      rw [refTwice_f _ kind out _ (by omega) (by omega), hh, any_cnt kind out hp _ hid.1, hc (idAt text at_).toNat]
      simp only [Option.bind_some, Bool.true_and]
      have e : decide (1 < (cnt (idAt text at_).toNat out : Int) + 1) = decide (0 < cnt (idAt text at_).toNat out) := by
        by_cases h : 0 < cnt (idAt text at_).toNat out <;> simp [h] <;> omega
      rw [e, show k + 3 = (k + 2) + 1 from rfl, qj.j2.eq_def]
      simp only []
      cases decide (0 < cnt (idAt text at_).toNat out) && !oftenB kind (idAt text at_) with
      | true =>
        simp only [if_true]
        rw [show k + 2 = (k + 1) + 1 from rfl, qj.j3.eq_def]
        simp only []
        rw [if_neg (show ¬ (9 : Int) = 0 by decide), qj.j4.eq_def]
        simp only [Bool.false_eq_true, if_false]
        rw [if_neg (show ¬ (9 : Int) = 0 by decide)]
        rfl
      | false =>
        simp only [Bool.false_eq_true, if_false]
        rw [show k + 2 = (k + 1) + 1 from rfl, qj.j3.eq_def]
        simp only [if_true]
        rw [qj.j4.eq_def]
        simp only [if_true]
        by_cases hfull : out.length = 1000
        · rw [decide_eq_true (show (out.length : Int) ≥ 1000 by omega), if_pos rfl, if_pos hfull]
          rfl
        · rw [decide_eq_false (show ¬ (out.length : Int) ≥ 1000 by omega), if_neg (by decide), if_neg hfull, if_pos (by omega), h4, if_pos (by omega), if_pos (by omega), Int.toNat_natCast, rest_rest text at_ j (by omega), h6]
          have hge : (at_ : Int) + 1 ≤ V.2.2.2.1 := by
            have := (value_at (ruleOf (idAt text at_)).1 text ((at_ + 1 : Nat) : Int) (by omega) (by omega)).1
            rw [hV] at this
            omega
          rw [hP]
          refine ih k (at_ + j) _ _ (by omega) h5 ?_ ?_ (by simp; omega) (by omega)
          · intro i
            rw [upd_eq, cnt_snoc, hP0]
            by_cases hi : i = (idAt text at_).toNat
            · rw [if_pos hi, if_pos hi.symm, hi]; push_cast; rfl
            · rw [if_neg hi, if_neg (fun q => hi q.symm), hc i]; simp
          · intro q hq
            rcases List.mem_append.1 hq with h | h
            · exact hp q h
            · rw [List.mem_singleton.1 h, hP0]; exact hce
theorem refRead5_f (k : Nat) (kind : Int) (s : ByteArray) (hs : s.size ≤ 100000) (hk : 800000 ≤ k) : qj.f k kind s = some (readS kind s) := by
  unfold qj.f readS
  rw [ref2read_f k s (by omega)]
  simp only [Option.bind_some]
  have hz := readVar_size s
  by_cases he : (readVarS s).2.2 = 0
  · rw [if_pos he, if_pos he]
    obtain ⟨h0, h1, _⟩ := readVar_inv s (readVarS s).1 (readVarS s).2.1 (trip he)
    generalize readVarS s = v at *
    rw [w64 ((s.size : Int) - v.2.1) (by omega) (by omega), w64 (v.2.1 + v.1) (by omega) (by omega)]
    by_cases hl : v.1 > (s.size : Int) - v.2.1
    · rw [if_pos hl, if_pos hl]
    · rw [if_neg hl, if_neg hl, if_pos hz.1, if_pos (by omega), if_pos (by omega)]
      have hx : (s.extract v.2.1.toNat (v.2.1 + v.1).toNat).size ≤ 100000 := by rw [ByteArray.size_extract]; omega
      generalize s.extract v.2.1.toNat (v.2.1 + v.1).toNat = text at *
      have := refRead_l0 kind v.1 v.2.1 text hx text.size k 0 (fun _ => 0) [] (by omega) (by omega) (by intro i; simp [cnt]) (by simp) (by simp) (by omega)
      have hr : restS text ((0 : Nat) : Int) = text := by
        unfold restS
        rw [Int.toNat_natCast]
        apply ByteArray.ext
        simp [ByteArray.data_extract]
      rw [hr] at this
      rw [this, w64 (v.2.1 + v.1) (by omega) (by omega)]
      unfold ansS listS
      rfl
  · rw [if_neg he, if_neg he]
end Go.Proofs.YtngmipfobcaojaaGreat.HA
end

-- YtngmipfobcaojaaGreatHAhValidLaw
section
namespace Go.Proofs.YtngmipfobcaojaaGreat.HA
open Go.RowKit Go.Proofs.YtngmipfobcaojaaGreatW.PrintWords Go.Proofs.YtngmipfobcaojaaGreatW.PrintLast Go.Proofs.YtngmipfobcaojaaGreatW.PrintMore
theorem valid5_f (kind : Int) (l : List PropT) : prop_Valid.f kind l = some (bytesS kind l).2 := rfl
end Go.Proofs.YtngmipfobcaojaaGreat.HA
end

-- YtngmipfobcaojaaGreatHAhListLaw
section
namespace Go.Proofs.YtngmipfobcaojaaGreat.HA
open Go.RowKit Go.Proofs.YtngmipfobcaojaaGreatW.PrintWords Go.Proofs.YtngmipfobcaojaaGreatW.PrintLast Go.Proofs.YtngmipfobcaojaaGreatW.PrintMore
theorem own_f (l : List PropT) (h : l.length ≤ 1010) : api_Prop_10.f l = some l := by
  unfold api_Prop_10.f
  simp
  omega
end Go.Proofs.YtngmipfobcaojaaGreat.HA
end

-- YtngmipfobcaojaaGreatHAhLightLaw2
section
namespace Go.Proofs.YtngmipfobcaojaaGreat.HA
open Go.RowKit Go.Proofs.YtngmipfobcaojaaGreatW.PrintWords Go.Proofs.YtngmipfobcaojaaGreatW.PrintLast Go.Proofs.YtngmipfobcaojaaGreatW.PrintMore
theorem rdw_at (l : List S24) (i : Nat) (h : i < l.length) : qu l (i : Int) = l[i] := by
  unfold qu
  rw [List.getD_eq_getElem?_getD, Int.toNat_natCast, List.getElem?_eq_getElem h]
  rfl
theorem weight2_f (l : List S24) (hl : l.length ≤ 1010) (hz : ∀ x ∈ l, x.f2.size ≤ 140737488351232 ∧ x.f3.size ≤ 140737488351232) : ∀ (d k : Nat) (i : Nat) (n : Int), i + d = l.length → 0 ≤ n → n ≤ (i : Int) * 281474976702464 →
    ∃ w, q1y.l0 (k + d + 1) l n i = some w ∧ n ≤ w ∧ ∀ j (hj : j < l.length), i ≤ j → (l[j].f2.size : Int) + l[j].f3.size ≤ w := by
  intro d
  induction d with
  | zero =>
    intro k i n hi h0 h1
    rw [q1y.l0.eq_def]
    simp only []
    rw [if_neg (by omega)]
    exact ⟨_, rfl, by omega, fun j hj hij => by omega⟩
  | succ d ih =>
    intro k i n hi h0 h1
    have hlt : i < l.length := by omega
    have hzi := hz l[i] (List.getElem_mem hlt)
    rw [show k + (d + 1) + 1 = (k + d + 1) + 1 by omega, q1y.l0.eq_def]
    simp only []
    rw [if_pos (by omega), if_pos (by omega), rdw_at l i hlt, w64 ((i : Int) + 1) (by omega) (by omega), show (i : Int) + 1 = ((i + 1 : Nat) : Int) by omega]
    rw [w64 (n + (l[i].f2.size : Int)) (by omega) (by omega), w64 _ (by omega) (by omega)]
    obtain ⟨w, hw, h2, h3⟩ := ih k (i + 1) (n + (l[i].f2.size : Int) + (l[i].f3.size : Int)) (by omega) (by omega) (by omega)
    refine ⟨w, hw, by omega, fun j hj hij => ?_⟩
    by_cases e : j = i
    · subst e; omega
    · exact h3 j hj (by omega)
theorem light2_f (k : Nat) (l : List S24) (hk : 1012 ≤ k) (hz : ∀ x ∈ l, x.f2.size ≤ 140737488351232 ∧ x.f3.size ≤ 140737488351232) :
    q1e.f k l = some false ∨ (q1e.f k l = some true ∧ l.length ≤ 1010 ∧ ∀ x ∈ l, x.f2.size ≤ 150000 ∧ x.f3.size ≤ 150000) := by
  unfold q1e.f
  by_cases h : (l.length : Int) ≤ 1010
  · rw [if_pos h]
    obtain ⟨w, hw, _, h3⟩ := weight2_f l (by omega) hz l.length (k - l.length - 1) 0 0 (by omega) (by omega) (by omega)
    rw [show k - l.length - 1 + l.length + 1 = k by omega] at hw
    unfold q1y.f
    rw [show ((0 : Nat) : Int) = 0 from rfl] at hw
    rw [hw]
    by_cases hw2 : w ≤ 140000
    · refine Or.inr ⟨by simp [hw2], by omega, fun x hx => ?_⟩
      obtain ⟨j, hj, rfl⟩ := List.getElem_of_mem hx
      have := h3 j hj (by omega)
      omega
    · exact Or.inl (by simp [hw2])
  · rw [if_neg h]
    exact Or.inl rfl
end Go.Proofs.YtngmipfobcaojaaGreat.HA
end

-- YtngmipfobcaojaaGreatHAhLives5
section
namespace Go.Proofs.YtngmipfobcaojaaGreat.HA
open Go.RowKit Go.Proofs.YtngmipfobcaojaaGreatW.PrintWords Go.Proofs.YtngmipfobcaojaaGreatW.PrintLast Go.Proofs.YtngmipfobcaojaaGreatW.PrintMore
set_option maxRecDepth 100000 in
theorem lives5_f : polyglotlaw05_lives.f = some true := by
  unfold polyglotlaw05_lives.f prop_Bytes.f
  kernel_rfl
end Go.Proofs.YtngmipfobcaojaaGreat.HA
end

-- YtngmipfobcaojaaGreatHAhOpenProps
section
namespace Go.Proofs.YtngmipfobcaojaaGreat.HA
open Go.RowKit Go.Proofs.YtngmipfobcaojaaGreatW.PrintWords Go.Proofs.YtngmipfobcaojaaGreatW.PrintLast Go.Proofs.YtngmipfobcaojaaGreatW.PrintMore
open Go.ChangeShapes Go.WideShapes Go.ChangeAt Go.Joins Go.Deep
structure OkP (x : S24) : Prop where
  i0 : (Lit.int .i64 x.f0).wf = true
  i1 : (Lit.int .u32 x.f1).wf = true
  s2 : x.f2.size ≤ 140737488351232
  s3 : x.f3.size ≤ 140737488351232
theorem weights_agg {H : Type} {P : Program} {t : TypeId} {fs : Array Field} {parts : List (DataW H)} (hu : P.underlying t = some (.struct fs)) (j : Nat) (f : Field) (d : DataW H) (hf : fs.toList[j]? = some f) (hd : parts[j]? = some d) :
    ∀ n ∈ d.weights P f.type, n ∈ (DataW.agg parts).weights P t := by
  intro n hn
  simp only [DataW.weights, hu]
  exact DataW.weights_mem_each (by rw [List.getElem?_map, hf]; rfl) hd n hn
theorem weights_all {H : Type} {P : Program} {e : TypeId} : ∀ {l : List (DataW H)} {d : DataW H}, d ∈ l → ∀ n ∈ d.weights P e, n ∈ DataW.weightsAll P e l
  | x :: l, d, h, n, hn => by
    simp only [DataW.weightsAll, List.mem_append]
    rcases List.mem_cons.1 h with rfl | h
    · exact Or.inl hn
    · exact Or.inr (weights_all h n hn)
theorem weights_slice {H : Type} {P : Program} {t e : TypeId} {l sp : List (DataW H)} (hu : P.underlying t = some (.slice e)) {d : DataW H} (h : d ∈ l) : ∀ n ∈ d.weights P e, n ∈ (DataW.slice l sp).weights P t := by
  intro n hn
  simp only [DataW.weights, hu, List.mem_cons, List.mem_append]
  exact Or.inr (Or.inl (weights_all h n hn))
theorem list4 {α : Type} (cs : List α) (h : cs.length = 4) : ∃ v0 v1 v2 v3, cs = [v0, v1, v2, v3] := by
  rcases cs with _ | ⟨v0, _ | ⟨v1, _ | ⟨v2, _ | ⟨v3, _ | ⟨v4, l⟩⟩⟩⟩⟩
  · simp at h
  · simp at h
  · simp at h
  · simp at h
  · exact ⟨v0, v1, v2, v3, rfl⟩
  · simp at h
theorem open_prop_cells {H : Type} {enc : TypeId × Value → H} {W : World} {base : Nat} {spare : Nat → Bool} {held : Bool} {n : Nat} {cs : List Value} {y : DataW H × List MemPlace}
    (hz : ∀ n ∈ y.1.weights Tryz.prog 24, n ≤ 140737488351232) (h : DataW.trod enc Tryz.prog W base spare held n 24 cs = some y) :
    ∃ x : S24, cs = [.int .i64 x.f0, .int .u32 x.f1, .string x.f2, .string x.f3] ∧ OkP x := by
  obtain ⟨y0, y1, y2, y3, n', hy, hlen, h0, h1, h2, h3⟩ := trod_struct4 Tryz.underlying24 h
  have hl : cs.length = 4 := hlen.trans (by kernel_rfl)
  obtain ⟨v0, v1, v2, v3, rfl⟩ := list4 cs hl
  have e0 : Tryz.prog.cellsOf 3 = 1 := by kernel_rfl
  have e1 : Tryz.prog.cellsOf 22 = 1 := by kernel_rfl
  have e2 : Tryz.prog.cellsOf 9 = 1 := by kernel_rfl
  rw [show Tryz.prog.cellsOf _ = 1 from e0] at h0
  rw [show Tryz.prog.cellsOf _ = 1 from e1] at h1
  rw [show Tryz.prog.cellsOf _ = 1 from e2] at h2 h3
  obtain ⟨x0, q0, _, w0⟩ := DataW.trod_int Tryz.underlying3 h0
  obtain ⟨x1, q1, _, w1⟩ := DataW.trod_int Tryz.underlying22 h1
  obtain ⟨x2, q2, g2, w2⟩ := DataW.trod_string Tryz.underlying9 h2
  obtain ⟨x3, q3, g3, w3⟩ := DataW.trod_string Tryz.underlying9 h3
  have z2 : x2.size ≤ 140737488351232 := by
    have := hz x2.size (by
      rw [hy]
      refine weights_agg Tryz.underlying24 2 _ y2.1 rfl rfl _ ?_
      rw [g2]
      simp [DataW.weights])
    exact this
  have z3 : x3.size ≤ 140737488351232 := by
    have := hz x3.size (by
      rw [hy]
      refine weights_agg Tryz.underlying24 3 _ y3.1 rfl rfl _ ?_
      rw [g3]
      simp [DataW.weights])
    exact this
  simp at q0 q1 q2 q3
  subst q0 q1 q2 q3
  exact ⟨⟨x0, x1, x2, x3⟩, rfl, ⟨w0, w1, z2, z3⟩⟩
theorem open_props {H : Type} {enc : TypeId × Value → H} {W : World} {base : Nat} {spare : Nat → Bool} {held : Bool} {a : Option Addr} {len cap : Nat} {d : DataW H} {ps : List MemPlace}
    (hz : ∀ n ∈ d.weights Tryz.prog 25, n ≤ 140737488351232) (h : DataW.Trod enc Tryz.prog W base spare held 25 (.slice a len cap) d ps) :
    ∃ l : List S24, Kd.C k24 W a l.length l ∧ l.length = len ∧ len ≤ cap ∧ l.length ≤ maxLen ∧ ∀ x ∈ l, OkP x := by
  obtain ⟨fuel, hf⟩ := h
  have hmax : (maxLen : Nat) ≤ 9223372036854775807 := by decide
  rcases open_slice Tryz.underlying25 hf with ⟨hcs, _⟩ | ⟨x, l, c, m, n, D, Pl, hcs, _, hl, hm, hmm, hxx, hx⟩
  · simp [Value.cells] at hcs
    obtain ⟨rfl, rfl, rfl⟩ := hcs
    exact ⟨[], ⟨rfl, by decide, fun q => absurd q (by simp)⟩, rfl, Nat.le_refl _, Nat.zero_le _, fun _ q => by simp at q⟩
  · simp [Value.cells] at hcs
    obtain ⟨rfl, rfl, rfl⟩ := hcs
    have hlm : len ≤ m := by rw [hmm]; split <;> omega
    have e4 : Tryz.prog.cellsOf 24 = 4 := by kernel_rfl
    haveI : Inhabited S24 := ⟨z24⟩
    obtain ⟨f, hfx⟩ := choose_lt (α := S24) (n := len) (p := fun i y => (∀ j u, ([.int .i64 y.f0, .int .u32 y.f1, .string y.f2, .string y.f3] : List Value)[j]? = some u → W.cell? (x.add (i * 4 + j)) = some u) ∧ OkP y) (fun i hi => by
      obtain ⟨cs', h1, h2⟩ := hx i (by omega)
      obtain ⟨y, rfl, hy⟩ := open_prop_cells (fun n hn => hz n (by rw [show d = _ from congrArg Prod.fst hxx]; exact weights_slice Tryz.underlying25 (List.mem_map.2 ⟨i, List.mem_range.2 hi, rfl⟩) n hn)) h2
      refine ⟨y, fun j u hu => ?_, hy⟩
      obtain ⟨_, _, hc⟩ := World.cells?_some h1
      have hj : j < 4 := by
        by_cases q : j < 4
        · exact q
        · rw [List.getElem?_eq_none (by simpa using q)] at hu; exact absurd hu (by simp)
      have := hc j (by rw [e4]; exact hj)
      rw [e4, hu, Go.Deep.add_add] at this
      exact this)
    refine ⟨(List.range len).map f, ⟨rfl, by simp; omega, fun _ => ⟨x, rfl, fun j p hj => ?_⟩⟩, by simp, hl, by simp; omega, fun y hy => ?_⟩
    · have hjl : j < len := by
        by_cases q : j < len
        · exact q
        · rw [List.getElem?_eq_none (by simpa using q)] at hj; exact absurd hj (by simp)
      rw [List.getElem?_map, List.getElem?_range hjl] at hj
      obtain rfl : f j = p := by simpa using hj
      exact ⟨_, rfl, k24_mk W (f j), (hfx j hjl).1⟩
    · obtain ⟨i, hi, rfl⟩ := List.mem_map.1 hy
      exact (hfx i (List.mem_range.1 hi)).2
theorem agg_of4 {v : Value} {c0 c1 c2 c3 : Value} (h : v.cells.toList = [c0, c1, c2, c3]) : v = .agg #[c0, c1, c2, c3] := by
  cases v <;> simp [Value.cells] at h
  rename_i cs
  obtain ⟨l⟩ := cs
  simp at h
  rw [h]
theorem open_prop {H : Type} {enc : TypeId × Value → H} {W : World} {base : Nat} {spare : Nat → Bool} {held : Bool} {v : Value} {d : DataW H} {ps : List MemPlace}
    (hz : ∀ n ∈ d.weights Tryz.prog 24, n ≤ 140737488351232) (h : DataW.Trod enc Tryz.prog W base spare held 24 v d ps) :
    ∃ x : S24, v = .agg #[.int .i64 x.f0, .int .u32 x.f1, .string x.f2, .string x.f3] ∧ OkP x := by
  obtain ⟨fuel, hf⟩ := h
  obtain ⟨x, hx, ok⟩ := open_prop_cells hz hf
  exact ⟨x, agg_of4 hx, ok⟩
end Go.Proofs.YtngmipfobcaojaaGreat.HA
end

-- YtngmipfobcaojaaGreatPurePropCalls
section
namespace Go.Proofs.YtngmipfobcaojaaGreat.HA
open Go.RowKit Go.Proofs.YtngmipfobcaojaaGreatW.PrintWords Go.Proofs.YtngmipfobcaojaaGreatW.PrintLast Go.Proofs.YtngmipfobcaojaaGreatW.PrintMore
theorem propMany_f (kind id : Int) : prop_Many.f kind id = some (hasS (ruleOf id) kind && oftenB kind id) := by
  unfold prop_Many.f prop_May.f
  rw [often_f, has_f]
  simp only [Option.bind_some]
  cases oftenB kind id <;> simp
theorem propGet_l0 (l : List PropT) (id : Int) (hm : l.length ≤ 1000000) : ∀ (d k i : Nat), i + d = l.length → d < k → prop_Get.l0 k id l l.length i = some (getL (l.drop i) id) := by
  intro d
  induction d with
  | zero =>
    intro k i hi hk
    obtain ⟨k, rfl⟩ : ∃ m, k = m + 1 := ⟨k - 1, by omega⟩
    rw [prop_Get.l0.eq_def]
    simp only []
    rw [if_neg (by omega), List.drop_of_length_le (by omega)]
    rfl
  | succ d ih =>
    intro k i hi hk
    obtain ⟨k, rfl⟩ : ∃ m, k = m + 1 := ⟨k - 1, by omega⟩
    rw [prop_Get.l0.eq_def]
    simp only []
    have hl : i < l.length := by omega
    rw [if_pos (by omega), if_pos (by omega), if_pos (by omega), rd_at l i hl, List.drop_eq_getElem_cons hl]
    unfold getL
    by_cases h : l[i].f0 = id
    · rw [if_pos h, List.find?_cons_of_pos (by simpa using h)]
    · rw [if_neg h, w64 _ (by omega) (by omega), show (i : Int) + 1 = ((i + 1 : Nat) : Int) by omega, ih k (i + 1) (by omega) (by omega), List.find?_cons_of_neg (by simpa using h)]
      rfl
theorem propGetL_f (k : Nat) (l : List PropT) (id : Int) (hk : l.length < k) (hm : l.length ≤ 1000000) : prop_Get.f k l id = some (getL l id) := by
  unfold prop_Get.f
  have := propGet_l0 l id hm l.length k 0 (by omega) hk
  rw [show ((0 : Nat) : Int) = 0 from rfl, List.drop_zero] at this
  exact this
theorem refSame_l0 (a b : List PropT) (hl : a.length = b.length) (hm : a.length ≤ 1000000) : ∀ (d k i : Nat), i + d = a.length → d < k → ∃ r, q11.l0 k a b i = some r ∧ (r = true ↔ a.drop i = b.drop i) := by
  intro d
  induction d with
  | zero =>
    intro k i hi hk
    obtain ⟨k, rfl⟩ : ∃ m, k = m + 1 := ⟨k - 1, by omega⟩
    rw [q11.l0.eq_def]
    simp only []
    rw [if_neg (by omega)]
    exact ⟨true, rfl, by rw [List.drop_of_length_le (by omega), List.drop_of_length_le (by omega)]; simp⟩
  | succ d ih =>
    intro k i hi hk
    obtain ⟨k, rfl⟩ : ∃ m, k = m + 1 := ⟨k - 1, by omega⟩
    rw [q11.l0.eq_def]
    simp only []
    rw [if_pos (by omega), if_pos (by omega), if_pos (by omega)]
    show ∃ r, (if neP (qu a i) (qu b i) = true then some false else q11.l0 k a b (wrap64 ((i : Int) + 1))) = some r ∧ _
    rw [rd_get a i (by omega), rd_get b i (by omega)]
    have ed : (a.drop i = b.drop i) ↔ (a[i] = b[i] ∧ a.drop (i + 1) = b.drop (i + 1)) := by
      rw [List.drop_eq_getElem_cons (show i < a.length by omega), List.drop_eq_getElem_cons (show i < b.length by omega), List.cons.injEq]
    by_cases e : a[i] = b[i]
    · rw [(neP_false _ _).2 e, if_neg (by decide), w64 _ (by omega) (by omega), show (i : Int) + 1 = ((i + 1 : Nat) : Int) by omega]
      obtain ⟨r, hr, h⟩ := ih k (i + 1) (by omega) (by omega)
      exact ⟨r, hr, by rw [ed, h]; exact ⟨fun q => ⟨e, q⟩, fun q => q.2⟩⟩
    · have : neP a[i] b[i] = true := by
        cases q : neP a[i] b[i] with
        | true => rfl
        | false => exact absurd ((neP_false _ _).1 q) e
      rw [this, if_pos rfl]
      exact ⟨false, rfl, by rw [ed]; simp [e]⟩
theorem refSame_f (k : Nat) (a b : List PropT) (hk : a.length < k) (hm : a.length ≤ 1000000) : ∃ r, q11.f k a b = some r ∧ (r = true ↔ a = b) := by
  unfold q11.f
  by_cases hl : a.length = b.length
  · rw [if_pos (by omega)]
    have := refSame_l0 a b hl hm a.length k 0 (by omega) hk
    rwa [show ((0 : Nat) : Int) = 0 from rfl, List.drop_zero, List.drop_zero] at this
  · rw [if_neg (by omega)]
    exact ⟨false, rfl, by simp; rintro rfl; exact hl rfl⟩
theorem read_short (kind : Int) (s : ByteArray) (hs : s.size ≤ 100000) : (readS kind s).1.length ≤ 1000 := by
  by_cases h : (readS kind s).2.2 = 0
  · exact (bytes_ok.1 (read_inv kind s (by omega) h).1).1.1
  · rw [(read_err kind s h).1]
    simp
end Go.Proofs.YtngmipfobcaojaaGreat.HA
namespace Go.Proofs.YtngmipfobcaojaaGreat.Pure
open Go.Proofs.YtngmipfobcaojaaGreat.HA
open Go.RowKit Go.Proofs.YtngmipfobcaojaaGreatW.PrintWords Go.Proofs.YtngmipfobcaojaaGreatW.PrintLast Go.Proofs.YtngmipfobcaojaaGreatW.PrintMore
theorem PropCalls : ∀ (a0 a1 : Int) (x2 : PropT) (l3 : List PropT) (a4 : ByteArray), (Lit.int .i64 a0).wf = true → (Lit.int .i64 a1).wf = true → OkP x2 → l3.length ≤ maxLen → (∀ x ∈ l3, OkP x) → a4.size ≤ 140737488351232 →
    ∃ k, qv.f k a0 a1 x2.f0 x2.f1 x2.f2 x2.f3 l3 a4 = some true := by
  intro a0 a1 x2 l3 a4 _ _ ok2 _ ok3 _
  obtain ⟨K, hK⟩ : ∃ K : Nat, 900000 ≤ K := ⟨_, Nat.le_refl _⟩
  refine ⟨K + 1, ?_⟩
  unfold qv.f
  rw [lives5_f]
  simp only [Option.bind_some, if_true]
  have hj0 : qv.j0 (K + 1) a0 a1 l3 a4 true x2.f0 x2.f1 x2.f2 x2.f3 = some true := by
    rw [qv.j0.eq_def]
    simp only [if_true]
  rcases light2_f (K + 1) l3 (by omega) (fun x hx => ⟨(ok3 x hx).s2, (ok3 x hx).s3⟩) with hl | ⟨hl, hlen, hlt⟩
  · rw [hl]
    simp only [Option.bind_some, Bool.false_eq_true, if_false]
    exact hj0
  rw [hl]
  simp only [Option.bind_some, if_true]
  rcases light2_f (K + 1) [(⟨x2.f0, x2.f1, x2.f2, x2.f3⟩ : PropT)] (by omega) (fun x hx => by rw [List.mem_singleton.1 hx]; exact ⟨ok2.s2, ok2.s3⟩) with hp | ⟨hp, _, hpt⟩
  · rw [hp]
    simp only [Option.bind_some, Bool.false_eq_true, if_false]
    exact hj0
  rw [hp]
  simp only [Option.bind_some, if_true]
  by_cases h4 : (a4.size : Int) > 2000
  · rw [decide_eq_true h4]; exact hj0
  have hps := hpt _ (List.mem_singleton.2 rfl)
  dsimp only at hps
  rw [decide_eq_false h4, qv.j0.eq_def]
  simp only [Bool.false_eq_true, if_false]
  have hrl := read_short a0 a4 (by omega)
  have hck : prop_Check.f K a0 x2.f0 x2.f1 x2.f2 x2.f3 = some (checkS (ruleOf x2.f0) a0 x2) := by
    obtain ⟨m, rfl⟩ : ∃ m, K = m + 2 := ⟨K - 2, by omega⟩
    exact check_f m (ruleOf x2.f0) a0 x2
  have hcr := refCheck_f K a0 x2 hps.1 hps.2 (by omega)
  obtain ⟨r1, hr1, q1⟩ := kitSame_f K (readS a0 a4).1 (readS a0 a4).1 (by omega) (by omega)
  obtain ⟨r2, hr2, q2⟩ := propSame_f K l3 (readS a0 a4).1 (by omega) (by omega)
  obtain ⟨r3, hr3, q3⟩ := refSame_f K l3 (readS a0 a4).1 (by omega) (by omega)
  obtain ⟨r4, hr4, q4⟩ := propSame_f K (readS a0 a4).1 (readS a0 a4).1 (by omega) (by omega)
  have e23 : r2 = r3 := by rw [Bool.eq_iff_iff, q2, q3]
  obtain rfl := q1.2 rfl
  obtain rfl := q4.2 rfl
  unfold prop_Bytes.f prop_Shape.f prop_May.f
  rw [own_f l3 hlen]
  simp only [Option.bind_some]
  rw [refBytes5_f K a0 l3 hlt (by omega), read5_f K a0 a4 (by omega) (by omega), refRead5_f K a0 a4 (by omega) (by omega), propGetL_f K l3 a1 (by omega) (by omega), refGetL_f K l3 a1 (by omega) (by omega)]
  simp only [Option.bind_some]
  rw [refShape_f K a1 (by omega), has_f, refMay_f K a0 a1 (by omega), propMany_f, refMany_f K a0 a1 (by omega), hck, hcr, valid5_f, refValid5_f K a0 l3 hlt (by omega), hr1, hr2, hr3, hr4, e23]
  simp
end Go.Proofs.YtngmipfobcaojaaGreat.Pure
end

-- YtngmipfobcaojaaGreatLawPropCalls
section
namespace Go.Proofs.YtngmipfobcaojaaGreat.propCalls
open Go.ChangeShapes Go.WideShapes Go.ChangeAt Go.RowKit Go.Proofs.YtngmipfobcaojaaGreat.HA
open Go.ChangeMaps (open_string shut_string)
theorem own : ownKnob Tryz.prog.godebug = none := by kernel_rfl
theorem laidOut : laidOutB Tryz.prog = true := by kernel_rfl
set_option maxRecDepth 100000 in
theorem lifted (os : Os) (started : os.Started) (H : Type) (enc : TypeId × Value → H) :
    ReturnsInHanded {} Tryz.checked os 3 .any (Rows.propCallsSpec.pre6 enc Tryz.prog Tryz.f3 Rows.propCallsRow.domain false) (Rows.propCallsSpec.post enc Tryz.prog Tryz.f3 false true false false) := by
  refine returnsInHanded_of_change_sized (C := Tryz.checked) own started (by kernel_rfl) Tryz.func3
    (ChangeSpec.witness6 (enc := enc) (C := Tryz.checked) false ⟨#[], #[.int .i64 0, .int .i64 0, .agg #[.int .i64 0, .int .u32 0, .string ByteArray.empty, .string ByteArray.empty], .slice none 0 0, .string ByteArray.empty], []⟩ 8 (by kernel_rfl) (by kernel_rfl) (by kernel_rfl) (by kernel_rfl)) ?_
  intro W base args ds gs before hval0 hW hcnd hsz0 _
  have hsz : (DataW.weightsEach Tryz.prog (Tryz.f3.params.toList ++ Rows.propCallsSpec.plain.varTypes Tryz.prog) (ds ++ gs)).all (· ≤ reachBytes) = true := hsz0
  have hval : ∀ (j : Nat) t v, Tryz.f3.params[j]? = some t → args[j]? = some v → Value.okWide Tryz.prog W .any base t v := hval0
  have hW' := hW
  obtain ⟨p, q, hA0, hV, rfl, hfz, hnd⟩ := hW
  have hA : DataW.TrodAll enc Tryz.prog W 0 (fun _ => true) true Tryz.f3.params.toList args.toList ds p := hA0
  rw [Tryz.params3] at hA hval hsz
  obtain ⟨v0, vs0, d0, ds0, p0, q0, hargs, rfl, rfl, h0, r0⟩ := trodAll_cons hA
  obtain ⟨v1, vs1, d1, ds1, p1, q1, rfl, rfl, rfl, h1, r1⟩ := trodAll_cons r0
  obtain ⟨v2, vs2, d2, ds2, p2, q2, rfl, rfl, rfl, h2, r2⟩ := trodAll_cons r1
  obtain ⟨v3, vs3, d3, ds3, p3, q3, rfl, rfl, rfl, h3, r3⟩ := trodAll_cons r2
  obtain ⟨v4, vs4, d4, ds4, p4, q4, rfl, rfl, rfl, h4, r4⟩ := trodAll_cons r3
  obtain ⟨rfl, rfl, rfl⟩ := trodAll_nil r4
  obtain rfl : args = #[v0, v1, v2, v3, v4] := by cases args; simp_all
  obtain ⟨rfl, rfl⟩ := trodVars_none hV
  obtain ⟨a0, rfl, rfl, rfl, w0⟩ := open_int Tryz.underlying3 (hval 0 3 v0 rfl rfl) h0
  obtain ⟨a1, rfl, rfl, rfl, w1⟩ := open_int Tryz.underlying3 (hval 1 3 v1 rfl rfl) h1
  have k2 := h2
  have lt2 : ∀ x ∈ p2, x.block < W.heap.size := by obtain ⟨m, hm⟩ := k2; exact DataW.trod_lt m _ _ _ hm
  obtain ⟨x2, rfl, ok2⟩ := open_prop (fun n hn => by have z := List.all_eq_true.1 hsz n (DataW.weights_mem_each (j := 2) rfl rfl n hn); exact of_decide_eq_true z) h2
  obtain ⟨a3, len3, cap3, rfl⟩ := okWide_slice Tryz.underlying25 (hval 3 25 v3 rfl rfl)
  have k3 := h3
  have lt3 : ∀ x ∈ p3, x.block < W.heap.size := by obtain ⟨m, hm⟩ := k3; exact DataW.trod_lt m _ _ _ hm
  obtain ⟨l3, hC3, rfl, hc3, m3, ok3⟩ := open_props (fun n hn => by have z := List.all_eq_true.1 hsz n (DataW.weights_mem_each (j := 3) rfl rfl n hn); exact of_decide_eq_true z) h3
  obtain ⟨a4, rfl, rfl, rfl, y4⟩ := open_string Tryz.underlying9 (hval 4 9 v4 rfl rfl) h4
  have w4 : a4.size ≤ 140737488351232 := by
    have z := sized_string hsz (j := 4) (t := 9) rfl rfl
    rw [Array.length_toList] at z
    exact z
  clear hA0 hval0 hsz0 hsz
  obtain ⟨k, hk⟩ := Pure.PropCalls a0 a1 x2 l3 a4 w0 w1 ok2 m3 ok3 w4
  refine (qv.calls k a0 a1 x2.f0 x2.f1 x2.f2 x2.f3 a3 cap3 l3 a4 true W hC3 hc3 hk).mono fun e W' ⟨he, bel⟩ => ?_
  subst he
  exact ⟨_, rfl, _, _, _, [], _, [], hW', trodAll_mk1 (shut_bool Tryz.underlying4 _), (trodAll_cons_mk (shut_int Tryz.underlying3 w0) (trodAll_cons_mk (shut_int Tryz.underlying3 w1) (trodAll_cons_mk (Below.trod laidOut (by kernel_rfl) (of_decide_eq_true (by kernel_rfl)) k2 bel lt2) (trodAll_cons_mk (Below.trod laidOut (by kernel_rfl) (of_decide_eq_true (by kernel_rfl)) k3 bel lt3) (trodAll_cons_mk (shut_string Tryz.underlying9 y4) trodAll_mk0))))), rfl, bel.frame _, fun h => by cases h⟩
theorem over : Rows.propCallsRow.holds Tryz.pinned (OpenSpec.ofChange Rows.propCallsSpec) :=
  OpenClaim.holds_of_wide 3 Tryz.f3 rfl rfl rfl rfl rfl rfl rfl ⟨rfl, rfl, rfl, rfl, rfl⟩ rfl rfl rfl rfl rfl (by kernel_rfl) Tryz.func3 (by kernel_rfl)
    (of_decide_eq_true (by kernel_rfl)) (by unfold Func.isWrapper; first | (rw [if_pos (by decide +kernel)]; kernel_rfl) | (rw [if_neg (by decide +kernel)]; exact ⟨rfl, rfl⟩))
    (fun os started H enc _ => lifted os started H enc)
theorem proved : Rows.PropCallsSaid := over
#print axioms proved
end Go.Proofs.YtngmipfobcaojaaGreat.propCalls
namespace Go.Proofs.YtngmipfobcaojaaGreat
theorem propCalls_holds : Rows.PropCallsSaid := propCalls.proved
end Go.Proofs.YtngmipfobcaojaaGreat
end
