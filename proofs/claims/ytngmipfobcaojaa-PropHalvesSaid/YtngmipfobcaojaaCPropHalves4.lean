/- The law PropHalves holds for every kind, list and split: its row, proved without a condition. -/
import Derived.Test.YtngmipfobcaojaaCPropHalves3
import Derived.RegionTactic
import Derived.ChangeAlike
import Derived.Deep.RegionHeld3
import Derived.Deep.AppendLies
import Derived.Lib.AppendStr
import Derived.Laws.Bits128
import Derived.Lib.SmallJoins
import Derived.Deep.Slices
import Derived.DataReads
import Derived.ChangeArms
import Derived.Test.YtngmipfobcaojaaRows
import Derived.WalkKit
import Derived.ProofKit
import Derived.OpenShut
import Derived.ShutString
import Derived.ChangeOld
import Derived.Below
import Derived.SizedLaws

-- YtngmipfobcaojaaHAhSeen
section
/- prop.seen counts properties by their ids: what (*seen).again and (*seen).lone answer, and what they leave in the array. -/
-- FOR (*polyglot/prop.seen).again
namespace Go.Proofs.Ytngmipfobcaojaa.HA
open Go.RowKit Go.Proofs.YtngmipfobcaojaaW.PrintWords Go.Proofs.YtngmipfobcaojaaW.PrintLast Go.Proofs.YtngmipfobcaojaaW.PrintMore
set_option linter.unusedVariables false
set_option linter.unusedSimpArgs false

/-- An array of 64 counts, told by a function. -/
def seenArr (c : Nat → Int) : Array Value := ((List.range 64).map fun j => Value.int .i64 (c j)).toArray
def seenObj (c : Nat → Int) : Obj := .cells (seenArr c) 71 (0, 0)
def upd (c : Nat → Int) (i : Nat) (x : Int) : Nat → Int := fun j => if j = i then x else c j
theorem seenArr_get (c : Nat → Int) (i : Nat) (h : i < 64) : (seenArr c)[i]? = some (.int .i64 (c i)) := by
  simp [seenArr, h]
theorem seenArr_set (c : Nat → Int) (i : Nat) (x : Int) : (seenArr c).setIfInBounds i (.int .i64 x) = seenArr (upd c i x) := by
  apply Array.ext'
  apply List.ext_getElem?
  intro j
  simp only [seenArr, upd, Array.toList_setIfInBounds, List.getElem?_set, List.getElem?_map, List.length_map, List.length_range]
  by_cases hj : j < 64
  · rw [List.getElem?_range hj]
    by_cases e : i = j
    · subst e; simp [hj]
    · simp [e, Ne.symm e]
  · rw [List.getElem?_eq_none (by simp; omega)]
    by_cases e : i = j
    · subst e; simp [hj]
    · simp [e]
def oftenB (kind id : Int) : Bool := id == 38 || (id == 11 && kind == 3)
theorem often_f (kind id : Int) : prop_often.f kind id = some (oftenB kind id) := by
  unfold prop_often.f oftenB
  by_cases h : id = 38
  · simp [h]
  · by_cases h2 : id = 11 <;> simp [h, h2]

theorem again_yes (g : Nat) (c : Nat → Int) (kind id : Int) (w : World) (hs : w.heap[g]? = some (seenObj c)) (h0 : 0 ≤ id) (h1 : id < 64) (hc0 : 0 ≤ c id.toNat) (hc1 : c id.toNat ≤ 2000) :
    Calls Try.prog 37 #[.pointer (some ⟨g, 0, none⟩), .int .i64 kind, .int .i64 id] w fun e w' =>
      e = .returned (.bool (decide (1 < c id.toNat + 1) && !oftenB kind id)) ∧ w'.heap[g]? = some (seenObj (upd c id.toNat (c id.toNat + 1))) ∧ w.grownBy w' (some g) := by
  have hcell : w.cell? ⟨g, id.toNat, none⟩ = some (.int .i64 (c id.toNat)) := (blk_cell hs id.toNat).trans (seenArr_get c _ (by omega))
  have hfz : w.frozen? ⟨g, id.toNat, none⟩ = false := blk_frozen hs _
  have ho : ∀ W, Calls Try.prog 41 #[.int .i64 kind, .int .i64 id] W fun e w' => e = .returned (.bool (oftenB kind id)) ∧ Drawn0 W w' := fun W => prop_often.calls kind id _ W (often_f kind id)
  have HO := Aside0.mk ho
  have HS := Aside0.mk hs
  clear ho hs
  generalize hx : c id.toNat = x at *
  have HX := Aside0.mk hx
  clear hx
  by_cases hlt : 1 < x + 1
  · have hd : decide (1 < x + 1) = true := decide_eq_true hlt
    generalize hob : oftenB kind id = ob at *
    clear hob
    go_enter Try.func37, Try.ntmps37
    go_wp2
    go_region
    go_wp2_with (go_at_call 41; refine (HO.out _).mono ?_; rintro e w' ⟨rfl, ⟨⟨nq, rfl⟩⟩⟩)
    go_ret
    refine ⟨by simp; first | (intros; omega; done) | (intros; exfalso; omega), ?_, ?_⟩
    · exact (blk_set (w := w) HS.out id.toNat (.int .i64 (x + 1))).trans (by rw [seenArr_set]; rfl)
    · exact ⟨rfl, rfl, rfl, by simp [World.setCell], fun i _ hi => Below.heap_setCell w _ _ i (fun e => hi (by rw [e]))⟩
  · have hd : decide (1 < x + 1) = false := decide_eq_false hlt
    go_enter Try.func37, Try.ntmps37
    go_wp2
    go_region
    go_wp2
    go_ret
    refine ⟨by simp; first | (intros; omega; done) | (intros; exfalso; omega), ?_, ?_⟩
    · exact (blk_set (w := w) HS.out id.toNat (.int .i64 (x + 1))).trans (by rw [seenArr_set]; rfl)
    · exact ⟨rfl, rfl, rfl, by simp [World.setCell], fun i _ hi => Below.heap_setCell w _ _ i (fun e => hi (by rw [e]))⟩

theorem lone_any (g : Nat) (c : Nat → Int) (w : World) (hs : w.heap[g]? = some (seenObj c)) :
    Calls Try.prog 39 #[.pointer (some ⟨g, 0, none⟩)] w fun e w' => e = .returned (.bool (decide (0 < c 22) && c 21 == 0)) ∧ w = w' := by
  have h22 : w.cell? ⟨g, 22, none⟩ = some (.int .i64 (c 22)) := (blk_cell hs 22).trans (seenArr_get c 22 (by omega))
  have h21 : w.cell? ⟨g, 21, none⟩ = some (.int .i64 (c 21)) := (blk_cell hs 21).trans (seenArr_get c 21 (by omega))
  clear hs
  generalize c 22 = x at *
  generalize c 21 = y at *
  by_cases hx : 0 < x
  · have hd : decide (0 < x) = true := decide_eq_true hx
    go_enter Try.func39, Try.ntmps39
    go_wp2
    go_ret
    exact ⟨by simp; intros; omega, rfl⟩
  · have hd : decide (0 < x) = false := decide_eq_false hx
    go_enter Try.func39, Try.ntmps39
    go_wp2
    go_ret
    exact ⟨by first | (simp; done) | (simp; intros; omega), rfl⟩
end Go.Proofs.Ytngmipfobcaojaa.HA
end

-- YtngmipfobcaojaaHAhBytes
section
/- prop.Bytes: its answer is told by 'bytesTo', property by property. -/
-- FOR polyglot/prop.Bytes
namespace Go.Proofs.Ytngmipfobcaojaa.HA
open Go.RowKit Go.Proofs.YtngmipfobcaojaaW.PrintWords Go.Proofs.YtngmipfobcaojaaW.PrintLast Go.Proofs.YtngmipfobcaojaaW.PrintMore
set_option linter.unusedVariables false
set_option linter.unusedSimpArgs false

/-- From the properties that are left on: the counts, the bytes so far. -/
def bytesTo (kind : Int) : List S27 → (Nat → Int) → List Int → ByteArray × Int
  | [], c, acc => if decide (0 < c 22) && c 21 == 0 then (⟨#[]⟩, 9) else if (varS acc.length).2 = 0 then ((varS acc.length).1 ++ strOfNums acc, 0) else (⟨#[]⟩, 4)
  | p :: l, c, acc =>
    if checkS (ruleOf p.f0) kind p ≠ 0 then (⟨#[]⟩, checkS (ruleOf p.f0) kind p)
    else if decide (1 < c p.f0.toNat + 1) && !oftenB kind p.f0 then (⟨#[]⟩, 9)
    else bytesTo kind l (upd c p.f0.toNat (c p.f0.toNat + 1)) (acc ++ [p.f0 % 256] ++ bytesOf (valS (ruleOf p.f0).1 p))
def bytesS (kind : Int) (l : List S27) : ByteArray × Int := if l.length > 1000 then (⟨#[]⟩, 4) else bytesTo kind l (fun _ => 0) []
def prop_Bytes.f (a0 : Int) (l1 : List S27) : Option (ByteArray × Int) := some (bytesS a0 l1)

/-- What passes the check has an id of the table. -/
theorem check_id (kind : Int) (p : S27) (h : checkS (ruleOf p.f0) kind p = 0) : 1 ≤ p.f0 ∧ p.f0 ≤ 42 := by
  have hf : ∀ l : List (Int × Int × Int × Int × Int), (∀ x ∈ l, 1 ≤ x.1 ∧ x.1 ≤ 42) → ∀ id r, ruleFind l id = some r → 1 ≤ id ∧ id ≤ 42 := by
    intro l
    induction l with
    | nil => intro _ id r h; simp [ruleFind] at h
    | cons x l ih =>
      intro hx id r h
      simp only [ruleFind] at h
      by_cases e : (id == x.1) = true
      · have := hx x List.mem_cons_self
        rw [beq_iff_eq.1 e]; exact this
      · rw [if_neg e] at h
        exact ih (fun y hy => hx y (List.mem_cons_of_mem _ hy)) id r h
  cases hr : ruleFind ruleTab p.f0 with
  | some r => exact hf ruleTab (by decide) p.f0 r hr
  | none =>
    exfalso
    have e : ruleOf p.f0 = (0, 0, 0, 0) := by unfold ruleOf; rw [hr]; rfl
    have hs : hasS (0, 0, 0, 0) kind = false := by
      unfold hasS
      have : shr .i64 0 (IntKind.u64.wrap kind) = 0 := by unfold shr; simp
      rw [this]
      have : (Go.bits .and .i64 0 1 == 1) = false := by decide
      rw [this]; simp
    rw [e] at h
    unfold checkS at h
    rw [if_pos hs] at h
    omega
theorem varS_size (n : Int) : (varS n).1.size ≤ 10 := by
  unfold varS
  split
  · rw [strOfNums_size]
    have : ∀ d x, (varTo d x).length ≤ d + 1 := by
      intro d
      induction d with
      | zero => intro x; simp [varTo]
      | succ d ih => intro x; rw [varTo]; split <;> simp; exact ih _
    have := this 3 n.toNat
    omega
  · simp [ByteArray.size]
theorem valS_size (shape : Int) (p : S27) : (valS shape p).size ≤ 131074 := by
  have h1 := binS_size p.f2
  have h2 := binS_size p.f3
  unfold valS
  split
  · rename_i h
    rw [putS_size]
    rcases h with h | h <;> rw [h] <;> decide
  · split
    · rw [putS_size]; omega
    · split
      · unfold varS
        split
        · rw [strOfNums_size]
          have : ∀ d x, (varTo d x).length ≤ d + 1 := by
            intro d
            induction d with
            | zero => intro x; simp [varTo]
            | succ d ih => intro x; rw [varTo]; split <;> simp; exact ih _
          have := this 3 (wrap64 p.f1).toNat
          omega
        · simp [ByteArray.size]
      · split
        · simp only [ByteArray.size_append]; omega
        · omega

theorem drop_rd (l : List S27) (n : Nat) (h : n < l.length) : l.drop n = rd_T27 l (n : Int) :: l.drop (n + 1) := by
  rw [List.drop_eq_getElem_cons h]
  congr 1
  simp [rd_T27, h]
theorem bytes_long (kind : Int) (A1 : Option Addr) (c1 : Nat) (l : List S27) (w : World) (h : 1000 < l.length) :
    Calls Try.prog 18 #[.int .i64 kind, .slice A1 l.length c1] w fun e w' => e = .returned (.tuple #[.string ⟨#[]⟩, .int .i64 4]) ∧ w = w' := by
  have hd : decide ((1000 : Int) < (l.length : Int)) = true := decide_eq_true (by omega)
  go_enter Try.func18, Try.ntmps18
  go_wp2
  go_ret2
  exact ⟨rfl, rfl⟩

theorem grow_drew {w W : World} {row : Option Nat} (h : w.grownBy W row) : w.grownBy W.drew row := ⟨h.os, h.tape, h.output, h.size, h.block⟩
theorem grow_alloc {w W : World} {row : Option Nat} (h : w.grownBy W row) (o : Obj) : w.grownBy (W.alloc o) row :=
  ⟨h.os, h.tape, h.output, by simp; have := h.size; omega, fun i hi hr => (Below.heap_alloc W o i (Nat.lt_of_lt_of_le hi h.size)).trans (h.block i hi hr)⟩
theorem grow_row {w W W' : World} {row row' : Option Nat} (h : w.grownBy W row) (hg : W.grownBy W' row') (hr : row' = row ∨ ∀ i, i < w.heap.size → some i ≠ row') : w.grownBy W' row :=
  ⟨hg.os.trans h.os, hg.tape.trans h.tape, hg.output.trans h.output, Nat.le_trans h.size hg.size, fun i hi hn => by
    refine (hg.block i (Nat.lt_of_lt_of_le hi h.size) ?_).trans (h.block i hi hn)
    rcases hr with rfl | hr
    · exact hn
    · exact hr i hi⟩
theorem grow_below {w W W' : World} {row : Option Nat} (h : w.grownBy W row) (hb : Below W.heap.size W W') : w.grownBy W' row := grow_row h (grown_of_below hb row) (.inl rfl)
theorem row_either {w W : World} {u : Option Nat} {g : Nat} (h : w.grownBy W u) (hat : u = some g ∨ g = W.heap.size) : some g = u ∨ ∀ i, i < w.heap.size → some i ≠ some g := by
  rcases hat with q | q
  · exact .inl q.symm
  · right
    intro i hi e
    have := h.size
    cases e
    omega
theorem grow_cell {w W : World} {row : Option Nat} (h : w.grownBy W row) {a : Addr} {v : Value} (hc : w.cell? a = some v) (hne : some a.block ≠ row) : W.cell? a = some v :=
  (h.cell_far a (World.block_lt_of_cell? w a hc) hne).trans hc
section
variable {P : Program} {w : World}
theorem step_append_str {ops : Array Oper} {o : Oper} {a : Act} {K : Act → World → Prop} {Q : Exit → Act → World → Prop} {E : Prop} (hgd : o.guard = none) (s x : Operand) (t u : TypeId)
    (ho : o.op = .call { callee := .builtin .append, args := #[s, x], argTypes := #[t, u] })
    (base : Nat) (e : TypeId) (i : TypeInfo) (ht : P.underlying t = some (.slice e)) (hu : P.underlying u = some .string) (hi : P.info? e = some i) (hz : i.zero = some (.int .u8 0))
    (hsize : i.size = 1) (hby : i.bytes = 1)
    (v : Value) (n : Nat) (xs : List Value) (hs : a.eval s = v) (hown : w.ownsRow base e 1 v n xs) (y : ByteArray) (hx : a.eval x = .string y)
    (h63 : n + y.size ≤ maxLen) (hbytes : n + y.size ≤ 140737488355328) (hbase : base ≤ w.heap.size)
    (h : ∀ v' w', w'.ownsRow base e 1 v' (n + y.size) (xs ++ Lib.strCells y) → w.grownBy w' v.ownBlock → K (a.put o.dst v') w') :
    if Region.wanted o (yielded ops a.tmps) = true then Oper.wp P o a w K Q else E := by
  have hw : Region.wanted o (yielded ops a.tmps) = true := by simp [Region.wanted, hgd]
  rw [if_pos hw]
  obtain ⟨v', w', hr, h2, h3, _⟩ := Lib.run_append_own_string (P := P) w base t u o.type e i ht hu hi hz hsize hby v n xs hown y h63 hbytes hbase
  unfold Oper.wp
  simp [execOp, ho, resolve, invoke, builtin, hs, hx, hr, Result.andThen]
  exact h v' w' h2 h3
end

/-- What holds at the head of each round. -/
structure BHead (kind : Int) (l : List S27) (res : ByteArray × Int) (w wr : World) (n : Nat) (c : Nat → Int) (acc : List Int) (v : Value) : Prop where
  map : wr.heap[w.heap.size]? = some ruleObj
  seen : wr.heap[w.heap.size + 1]? = some (seenObj c)
  own : wr.ownsRow (w.heap.size + 2) 5 1 v acc.length (nums .u8 acc)
  below : Below w.heap.size w wr
  left : bytesTo kind (l.drop n) c acc = res
  cnt : ∀ j, 0 ≤ c j ∧ c j ≤ n
  len : acc.length ≤ n * 131100

set_option maxHeartbeats 4000000 in
set_option maxRecDepth 100000 in
theorem bytes_short (kind : Int) (A1 : Option Addr) (c1 : Nat) (l : List S27) (w : World) (hr1 : Kd.C k27 w A1 l.length l) (h : l.length ≤ 1000) (res : ByteArray × Int) (hres : bytesTo kind l (fun _ => 0) [] = res) :
    Calls Try.prog 18 #[.int .i64 kind, .slice A1 l.length c1] w fun e w' => e = .returned (.tuple #[.string res.1, .int .i64 res.2]) ∧ Below w.heap.size w w' := by
  have hd : decide ((1000 : Int) < (l.length : Int)) = false := decide_eq_false (by omega)
  have HR := Aside0.mk hr1
  have HS := Aside0.mk hres
  clear hr1 hres
  go_enter Try.func18, Try.ntmps18
  go_wp2_with (first | (go_at_call 34; refine (prop_rules.calls0 _).mono ?_; rintro e w' ⟨rfl, rfl⟩) | ((with_reducible refine gate_dst (N := 7) rfl ?_); refine box_event ?hg (N := 7) ?hd (cs := seenArr (fun _ => 0)) (t := 71) ?hr ?_; (case hd => rfl); (case hg => rfl); (case hr => kernel_rfl); intro gs hg w1 hbox hb))
  have hw1 : w1.heap[w.heap.size]? = some ruleObj := (hb.block w.heap.size (by simp)).trans (heap_alloc_new w _)
  have hB1 : Below w.heap.size w w1 := below_then ((Below.refl _ _).alloc (Nat.le_refl _) _) (by simp) hb
  have hs1 : w1.heap[w.heap.size + 1]? = some (seenObj (fun _ => 0)) := by rw [hg] at hbox; simpa [seenObj] using hbox
  have H0 : BHead kind l res w w1 0 (fun _ => 0) [] (.slice none 0 0) := ⟨hw1, hs1, own_nil _ _ _ _, hB1, HS.out, fun _ => ⟨by omega, by omega⟩, by simp⟩
  clear hw1 hB1 hs1 hbox hb hg HS
  go_loopg [8, 21] l.length (fun gk v8 i21 wx => ∃ (n : Nat) (c : Nat → Int) (acc : List Int), i21 = .int .i64 n ∧ n + gk = l.length ∧ Aside0 (BHead kind l res w wx n c acc v8))
  case atStart => exact ⟨0, fun _ => 0, [], rfl, by omega, ⟨H0⟩⟩
  case round =>
    clear H0
    obtain ⟨n, c, acc, rfl, hn, HH⟩ := hrel
    cases gk with
    | zero =>
      obtain rfl : n = l.length := by omega
      have hlt : decide ((l.length : Int) < (l.length : Int)) = false := decide_eq_false (by omega)
      obtain ⟨A8, c8, rfl⟩ := own_slice HH.out.own
      have hlo := lone_any (w.heap.size + 1) c wr HH.out.seen
      have hleft := HH.out.left
      have hlen := HH.out.len
      rw [List.drop_length, bytesTo] at hleft
      have HLO := Aside0.mk hlo
      have HL := Aside0.mk hleft
      clear hlo hleft
      generalize hb : (decide (0 < c 22) && c 21 == 0) = b at *
      cases b with
      | true =>
        have hr := HL.out
        rw [if_pos rfl] at hr
        have HR1 := Aside0.mk hr
        clear hr HL hb
        go_wp2_with (go_at_call 39; refine HLO.out.mono ?_; rintro e w' ⟨rfl, rfl⟩)
        go_ret2
        exact ⟨by rw [← HR1.out]; rfl, HH.out.below⟩
      | false =>
        have hr := HL.out
        rw [if_neg (by simp)] at hr
        have hv := fun W => varint_Bytes.calls 10 (acc.length : Int) (varS acc.length).1 (varS acc.length).2 W (var_f 10 _ (by omega))
        have hvz : (varS acc.length).1.size ≤ 10 := varS_size _
        obtain ⟨vb, hvb⟩ : ∃ vb, varS acc.length = vb := ⟨_, rfl⟩
        rw [hvb] at hr hv hvz
        have HV := Aside0.mk hv
        clear HL hb hv hvb
        by_cases he : vb.2 = 0
        · rw [if_pos he] at hr
          have HR1 := Aside0.mk hr
          have ht : (vb.2 != 0) = false := by rw [bne_eq_false_iff_eq]; exact he
          have hsz := strOfNums_size acc
          have hc1 : vb.1.size + (strOfNums acc).size ≤ 9223372036854775807 := by omega
          have hc2 : decide (vb.1.size + (strOfNums acc).size ≤ 9223372036854775807) = true := decide_eq_true hc1
          have hc3 : (9223372036854775807 < vb.1.size + (strOfNums acc).size) = False := eq_false (Nat.not_lt.2 hc1)
          replace hc1 := eq_true hc1
          clear hr he hsz
          go_wp2_with (first | (go_at_call 39; refine HLO.out.mono ?_; rintro e w' ⟨rfl, rfl⟩) | (go_at_call 40; refine (HV.out _).mono ?_; rintro e w5 ⟨rfl, hb5⟩; have hcv := own_string (P := Try.prog) Try.underlying55 Try.underlying5 Try.underlying9 (pw_own_below HH.out.own hb5)))
          go_ret2
          exact ⟨by rw [← HR1.out]; rfl, below_step HH.out.below hb5⟩
        · rw [if_neg he] at hr
          have HR1 := Aside0.mk hr
          have ht : (vb.2 != 0) = true := by rw [bne_iff_ne]; exact he
          clear hr he
          go_wp2_with (first | (go_at_call 39; refine HLO.out.mono ?_; rintro e w' ⟨rfl, rfl⟩) | (go_at_call 40; refine (HV.out _).mono ?_; rintro e w5 ⟨rfl, hb5⟩))
          go_ret2
          exact ⟨by rw [← HR1.out]; rfl, below_step HH.out.below hb5⟩
    | succ g =>
      have hlt : decide ((n : Int) < (l.length : Int)) = true := decide_eq_true (by omega)
      have p0 : 0 ≤ (n : Int) := by omega
      have q0 : (n : Int) < (l.length : Int) := by omega
      obtain ⟨ad, e0, x0, x1, x2, x3⟩ := at_T27 HR.out (n : Int) p0 q0
      cases e0
      replace x0 := (HH.out.below.cell (World.block_lt_of_cell? w _ x0)).trans x0
      replace x1 := (HH.out.below.cell (World.block_lt_of_cell? w _ x1)).trans x1
      replace x2 := (HH.out.below.cell (World.block_lt_of_cell? w _ x2)).trans x2
      replace x3 := (HH.out.below.cell (World.block_lt_of_cell? w _ x3)).trans x3
      simp only [Int.toNat_natCast] at x0 x1 x2 x3
      generalize hp : rd_T27 l (n : Int) = p at *
      have HP := Aside0.mk hp
      clear hp
      have hl := run_rule_lookup (wr.alloc (.cells #[.int .i64 p.f0, .int .u32 p.f1, .string p.f2, .string p.f3] 27)) w.heap.size p.f0 (blk_alloc HH.out.map _)
      unfold ruleVal at hl
      obtain ⟨ru, hru⟩ : ∃ ru, ruleOf p.f0 = ru := ⟨_, rfl⟩
      have hck := fun W => prop_check.calls 2 ru.1 ru.2.1 ru.2.2.1 ru.2.2.2 kind p.f0 p.f1 p.f2 p.f3 _ W (check_f 0 ru kind p)
      have HCK := Aside0.mk hck
      rw [hru] at hl
      have HRU := Aside0.mk hru
      clear hck hru
      have hdrop : l.drop n = p :: l.drop (n + 1) := by rw [← HP.out]; exact drop_rd l n (by omega)
      have hleft := HH.out.left
      rw [hdrop, bytesTo, HRU.out] at hleft
      have HL := Aside0.mk hleft
      clear hdrop hleft
      go_wp2_with fail
      refine (HCK.out _).mono ?_
      rintro e w3 ⟨rfl, hb3⟩
      have HM3 := Aside0.mk (blk_below (blk_alloc (blk_alloc HH.out.map _) _) hb3)
      have HS3 := Aside0.mk (blk_below (blk_alloc (blk_alloc HH.out.seen _) _) hb3)
      have HO3 := Aside0.mk (pw_own_below (own_alloc (own_alloc HH.out.own _) _) hb3)
      have HB3 := Aside0.mk (below_step (below_alloc (below_alloc HH.out.below _) _) hb3)
      have HP3 := Aside0.mk (blk_below (blk_alloc (heap_alloc_new wr (.cells #[.int .i64 p.f0, .int .u32 p.f1, .string p.f2, .string p.f3] 27)) _) hb3)
      have HU3 := Aside0.mk (blk_below (heap_alloc_new (wr.alloc (.cells #[.int .i64 p.f0, .int .u32 p.f1, .string p.f2, .string p.f3] 27)) (.cells #[.int .i64 ru.1, .int .i64 ru.2.1, .int .u32 ru.2.2.1, .int .u32 ru.2.2.2] 65)) hb3)
      rw [World.size_alloc] at HU3
      clear hb3 x0 x1 x2 x3 hl HCK
      by_cases he : checkS ru kind p = 0
      · have ht : (checkS ru kind p != 0) = false := by rw [bne_eq_false_iff_eq]; exact he
        have hid := check_id kind p (by rw [HRU.out]; exact he)
        have hcn := HH.out.cnt p.f0.toNat
        have hsz := blk_lt HH.out.seen
        have hag := again_yes (w.heap.size + 1) c kind p.f0 w3 HS3.out (by omega) (by omega) hcn.1 (by omega)
        have HAG := Aside0.mk hag
        have hr := HL.out
        rw [if_neg (fun q => q he)] at hr
        have HR1 := Aside0.mk hr
        have hcP : w3.cell? ⟨wr.heap.size, 0, none⟩ = some (.int .i64 p.f0) := (blk_cell HP3.out 0).trans rfl
        have HE := Aside0.mk he
        have HCN := Aside0.mk hcn
        have HID := Aside0.mk hid
        clear hr HL hag he hcn hid
        generalize checkS ru kind p = ck at *
        go_wp2_with fail
        refine HAG.out.mono ?_
        rintro e w4 ⟨rfl, hs4, hg4⟩
        have HS4 := Aside0.mk hs4
        have HM4 := Aside0.mk (blk_grown HM3.out hg4 (by simp))
        have HP4 := Aside0.mk (blk_grown HP3.out hg4 (by simp; omega))
        have HU4 := Aside0.mk (blk_grown HU3.out hg4 (by simp; omega))
        have HO4 := Aside0.mk (own_other HO3.out hg4 (.inr (fun q => by have := own_base HO3.out _ q; omega)))
        have HB4 := Aside0.mk (pw_below_grown HB3.out (some (w.heap.size + 1)) HB3.out.size hg4 (fun k hk => by cases hk; omega))
        clear HS3 HM3 HP3 HU3 HO3 hs4 hg4 hcP HAG
        generalize hb : (decide (1 < c p.f0.toNat + 1) && !oftenB kind p.f0) = b at *
        cases b with
        | true =>
          have hr := HR1.out
          rw [if_pos rfl] at hr
          have HR2 := Aside0.mk hr
          clear hr HR1
          go_wp2
          go_ret2
          exact ⟨by rw [← HR2.out]; rfl, HB4.out⟩
        | false =>
          have hr := HR1.out
          rw [if_neg (by simp)] at hr
          have HR2 := Aside0.mk hr
          clear hr HR1
          obtain ⟨vs, hvs⟩ : ∃ vs, valS ru.1 p = vs := ⟨_, rfl⟩
          have hval := fun W => prop_value.calls 20 ru.1 p.f0 p.f1 p.f2 p.f3 _ W (val_f 20 ru.1 p (by omega))
          have hvz := valS_size ru.1 p
          rw [hvs] at hval hvz
          have HV := Aside0.mk hval
          have HVS := Aside0.mk hvs
          have hc0 : w4.cell? ⟨wr.heap.size, 0, none⟩ = some (.int .i64 p.f0) := (blk_cell HP4.out 0).trans rfl
          have hc1 : w4.cell? ⟨wr.heap.size, 1, none⟩ = some (.int .u32 p.f1) := (blk_cell HP4.out 1).trans rfl
          have hc2 : w4.cell? ⟨wr.heap.size, 2, none⟩ = some (.string p.f2) := (blk_cell HP4.out 2).trans rfl
          have hc3 : w4.cell? ⟨wr.heap.size, 3, none⟩ = some (.string p.f3) := (blk_cell HP4.out 3).trans rfl
          have hcu : w4.cell? ⟨wr.heap.size + 1, 0, none⟩ = some (.int .i64 ru.1) := (blk_cell HU4.out 0).trans rfl
          have hnp : some wr.heap.size ≠ u8.ownBlock := fun q => by have := own_lt HH.out.own _ q.symm; omega
          have hnu : some (wr.heap.size + 1) ≠ u8.ownBlock := fun q => by have := own_lt HH.out.own _ q.symm; omega
          obtain ⟨i0, hi0, hz0, hz1, hz2⟩ := info_parts info5
          have hlen := HH.out.len
          have hbig : w.heap.size + 2 ≤ w4.heap.size := by have := HS4.out; have := blk_lt HU4.out; omega
          have HOc := HO4
          have hwr : IntKind.u8.wrap p.f0 = p.f0 % 256 := IntKind.wrap_u8 _
          clear hval hvs HP4 HU4
          go_wp2_with fail
          go_region_held3 (fun w' => w'.cell? ⟨wr.heap.size, 0, none⟩ = some (.int .i64 p.f0) ∧ w'.cell? ⟨wr.heap.size, 1, none⟩ = some (.int .u32 p.f1) ∧ w'.cell? ⟨wr.heap.size, 2, none⟩ = some (.string p.f2) ∧ w'.cell? ⟨wr.heap.size, 3, none⟩ = some (.string p.f3) ∧ w'.cell? ⟨wr.heap.size + 1, 0, none⟩ = some (.int .i64 ru.1) ∧ w4.grownBy w' u8.ownBlock)
            ((refine (fun (hG : w4.grownBy _ u8.ownBlock) => ⟨grow_cell hG hc0 hnp, grow_cell hG hc1 hnp, grow_cell hG hc2 hnp, grow_cell hG hc3 hnp, grow_cell hG hcu hnu, hG⟩) ?_; (first | exact HG.out | exact grow_drew (World.grownBy.refl _ _) | exact grow_drew (grow_alloc (World.grownBy.refl _ _) _))))
            (first
              | (go_at_call 38; refine (HV.out _).mono ?_; rintro e w5 ⟨rfl, hbc⟩; have HOd := Aside0.mk (pw_own_below HOc.out hbc); have HGd := Aside0.mk (grow_below HG.out hbc); clear HOc HG; have HOc := HOd; have HG := HGd; clear HOd HGd)
              | (refine step_append_lies _ (by rfl) _ _ _ (by rfl) (w.heap.size + 2) 5 i0 _ 1 1 Try.underlying55 hi0 hz0 hz1 hz2 rfl (by omega) u8 acc.length (nums .u8 acc) (by rfl) ((HOc.out.alloc _).drew) ⟨w4.heap.size, 0, none⟩ 1 1 [.int .u8 (p.f0 % 256)] (by rfl) (by rfl) (World.news_of_block (cs := #[.int .u8 (p.f0 % 256)]) (t := 5) (fr := (0, 0)) (heap_alloc_new w4 _)) (by simp [Value.oneCell']) (by omega) (by unfold maxLen; omega) (by omega) (by simp; omega) _ rfl ?_; intro gq cap w6 ho6 hgrow hat hlt6; have HROW := Aside0.mk (row_either (grow_drew (grow_alloc (World.grownBy.refl w4 u8.ownBlock) (.cells #[.int .u8 (p.f0 % 256)] 5))) hat); have HG := Aside0.mk (grow_row (grow_drew (grow_alloc (World.grownBy.refl w4 u8.ownBlock) (.cells #[.int .u8 (p.f0 % 256)] 5))) hgrow (.inl rfl)); clear HOc hat; have HOc := Aside0.mk ho6; clear ho6)
              | (refine step_append_str (by rfl) _ _ _ _ (by rfl) (w.heap.size + 2) 5 i0 Try.underlying55 Try.underlying9 hi0 hz0 hz1 hz2 _ (acc.length + 1) (nums .u8 acc ++ [.int .u8 (p.f0 % 256)]) (by rfl) HOc.out vs (by rfl) (by unfold maxLen; omega) (by omega) (Nat.le_trans hbig HG.out.size) ?_; intro v7 w7 ho7 hgrow2; have HGd := Aside0.mk (grow_row HG.out hgrow2 HROW.out); clear HOc HG; have HG := HGd; have HOc := Aside0.mk ho7; clear ho7 HGd))
          have hnb : ∀ k, u8.ownBlock = some k → w.heap.size + 2 ≤ k := fun k q => own_base HH.out.own k q
          have hHH : BHead kind l res w w7 (n + 1) (upd c p.f0.toNat (c p.f0.toNat + 1)) (acc ++ [p.f0 % 256] ++ bytesOf vs) v7 := by
            refine ⟨?_, ?_, ?_, ?_, ?_, ?_, ?_⟩
            · exact (HG.out.block _ (blk_lt HM4.out) (fun q => by have := hnb _ q.symm; omega)).trans HM4.out
            · exact (HG.out.block _ (blk_lt HS4.out) (fun q => by have := hnb _ q.symm; omega)).trans HS4.out
            · have hx := HOc.out
              have e1 : nums .u8 (acc ++ [p.f0 % 256] ++ bytesOf vs) = nums .u8 acc ++ [.int .u8 (p.f0 % 256)] ++ Lib.strCells vs := by simp [nums, bytesOf, Lib.strCells]
              have e2 : (acc ++ [p.f0 % 256] ++ bytesOf vs).length = acc.length + 1 + vs.size := by simp [bytesOf_length]; omega
              rw [e1, e2]; exact hx
            · exact pw_below_grown HB4.out u8.ownBlock HB4.out.size HG.out (fun k q => by have := hnb _ q; omega)
            · rw [← HVS.out]; exact HR2.out
            · intro j
              have := HH.out.cnt j
              have := HH.out.cnt p.f0.toNat
              unfold upd
              split <;> omega
            · have e2 : (acc ++ [p.f0 % 256] ++ bytesOf vs).length = acc.length + 1 + vs.size := by simp [bytesOf_length]; omega
              rw [e2]; omega
          have HF := Aside0.mk hHH
          clear hHH HR2 HM4 HS4 HO4 HB4 HG HOc HROW HV hlen hbc hgrow hgrow2 hc0 hc1 hc2 hc3 hcu hvz HCN HID HE
          go_wp2
          go_roundg g
          case measure => omega
          case rel => exact ⟨n + 1, _, _, by first | rfl | simp, by omega, HF⟩
      · have ht : (checkS ru kind p != 0) = true := by rw [bne_iff_ne]; exact he
        have hr := HL.out
        rw [if_pos he] at hr
        have HR1 := Aside0.mk hr
        clear hr
        generalize checkS ru kind p = ck at *
        go_wp2
        go_ret2
        exact ⟨by rw [← HR1.out]; rfl, HB3.out⟩

theorem prop_Bytes.calls (a0 : Int) (A1 : Option Addr) (c1 : Nat) (l1 : List S27) (r1 : ByteArray) (r2 : Int) (w : World) (hr1 : Kd.C k27 w A1 l1.length l1) (hc1 : l1.length ≤ c1) (h : prop_Bytes.f a0 l1 = some (r1, r2)) :
    Calls Try.prog 18 #[.int .i64 a0, .slice A1 l1.length c1] w fun e w' => e = .returned (.tuple #[.string r1, .int .i64 r2]) ∧ Below w.heap.size w w' := by
  have hb : bytesS a0 l1 = (r1, r2) := Option.some.inj h
  unfold bytesS at hb
  by_cases hl : 1000 < l1.length
  · rw [if_pos hl] at hb
    cases hb
    exact (bytes_long a0 A1 c1 l1 w hl).mono fun e w' ⟨he, hw⟩ => ⟨he, hw ▸ Below.refl _ _⟩
  · rw [if_neg hl] at hb
    exact bytes_short a0 A1 c1 l1 w hr1 (by omega) (r1, r2) hb
end Go.Proofs.Ytngmipfobcaojaa.HA
end

-- YtngmipfobcaojaaHA33
section
-- Written by hp.py (a driver over the kit's print). Not trusted: Lean checks it.
namespace Go.Proofs.Ytngmipfobcaojaa.HA
open Go.RowKit Go.Proofs.YtngmipfobcaojaaW.PrintWords Go.Proofs.YtngmipfobcaojaaW.PrintLast Go.Proofs.YtngmipfobcaojaaW.PrintMore
attribute [local go_sem] max2_int min2_int max_two min_two max_three min_three max_four min_four   -- for this text's walks alone
set_option linter.unusedVariables false
set_option linter.unusedSimpArgs false

/-! ### polyglotlaw05_lives: function 11 -/
def polyglotlaw05_lives.f  : Option (Bool) := (prop_Bytes.f 3 (([(⟨1, 1, (⟨#[]⟩ : ByteArray), (⟨#[]⟩ : ByteArray)⟩ : S27)] : List (S27)))).bind fun bt140 => (if bt140.2 = 0 then (some (bt140.1.toList == ([2, 1, 1] : List UInt8))) else (some false))
set_option maxHeartbeats 8000000 in
set_option maxRecDepth 100000 in
theorem polyglotlaw05_lives.calls  (r : Bool) (w : World) (h : polyglotlaw05_lives.f  = some r) :
    Calls Try.prog 11 #[] w fun e w' => e = .returned (.bool r) ∧ Below w.heap.size w w' := by
  have hu27 := Try.underlying27
  have HB := Aside0.mk (Below.refl w.heap.size w)
  have H : ((prop_Bytes.f 3 (([(⟨1, 1, (⟨#[]⟩ : ByteArray), (⟨#[]⟩ : ByteArray)⟩ : S27)] : List (S27)))).bind fun bt140 => (if bt140.2 = 0 then (some (bt140.1.toList == ([2, 1, 1] : List UInt8))) else (some false))) = some r := h
  clear h
  obtain ⟨y137, hy137⟩ : ∃ y_ : List (S27), y_ = (([(⟨1, 1, (⟨#[]⟩ : ByteArray), (⟨#[]⟩ : ByteArray)⟩ : S27)] : List (S27))) := ⟨_, rfl⟩
  replace H : ((prop_Bytes.f 3 y137).bind fun bt140 => (if bt140.2 = 0 then (some (bt140.1.toList == ([2, 1, 1] : List UInt8))) else (some false))) = some r := by first | (rw [hy137]; with_reducible exact H) | (have H2_ := (Option.bind_some _ _).symm.trans H; rw [hy137]; with_reducible exact H2_) | (have H2_ := (Option.bind_some _ _).symm.trans H; with_reducible exact H2_) | with_reducible exact H | (rw [hy137]; exact H) | exact H
  have Ny137 := Aside0.mk hy137
  clear hy137
  replace H := Option.bind_eq_some_iff.mp H
  obtain ⟨⟨t140, t141⟩, A10, H⟩ := H
  replace H : (if t141 = 0 then (some (t140.toList == ([2, 1, 1] : List UInt8))) else (some false)) = some r := H
  have A1 := Aside0.mk A10
  clear A10
  by_cases c2 : t141 = 0
  · rw [if_pos c2] at H
    have c2b0 : (t141 == 0) = true := beq_iff_eq.mpr c2
    have c2b1 : (t141 != 0) = false := bne_eq_false_iff_eq.mpr c2
    clear c2
    obtain rfl := Option.some.inj H
    go_enter Try.func11, Try.ntmps11
    go_wp2_with (first | ((with_reducible refine gate_dst (N := 5) rfl ?_); refine Kd.R_lit k27 _ 27 ?hg (N := 5) ?hd (xs := ([(⟨1, 1, (⟨#[]⟩ : ByteArray), (⟨#[]⟩ : ByteArray)⟩ : S27)] : List (S27))) (inner := [.int .i64 1, .int .u32 1, .string (⟨#[]⟩ : ByteArray), .string (⟨#[]⟩ : ByteArray)]) (ok := fun _ => True) (okp := fun _ => True) ?hr ?hp (fun _ hk => hk) trivial (Below.refl _ _) (Nat.le_refl _) (by simp) ?_; (case hd => rfl); (case hg => rfl); (case hr => first | (go_simp; done) | (go_simp; rfl)); (case hp => exact (Reps.c4 (show Kd.M k27 _ _ _ (⟨1, 1, (⟨#[]⟩ : ByteArray), (⟨#[]⟩ : ByteArray)⟩ : S27) [.int .i64 1, .int .u32 1, .string (⟨#[]⟩ : ByteArray), .string (⟨#[]⟩ : ByteArray)] from (k27_mkM _ _ _ (⟨1, 1, (⟨#[]⟩ : ByteArray), (⟨#[]⟩ : ByteArray)⟩ : S27) )) (Reps.none _ _))); intro v138 w3 ho4 hb hg_ hnew_; clear hg_ hnew_; (first | rw [← Ny137.out] at ho4 | (simp only [Int.reduceToNat] at ho4; rw [← Ny137.out] at ho4)); have n0_ := Aside0.mk (Kd.R_lower ho4 (below_size (by repeat (first | (with_reducible first | exact HB.out | apply below_alloc | apply pw_below_drewN | apply below_drew1) | exact HB.out)))); have n1_ := Aside0.mk (below_step (by repeat (first | (with_reducible first | exact HB.out | apply below_alloc | apply pw_below_drewN | apply below_drew1) | exact HB.out)) hb); clear HB; have HO139 := n0_; have HB := n1_; clear n0_ n1_; clear hb ho4; obtain ⟨Ao5, co5, eo5⟩ := Kd.R_slice HO139.out; subst eo5) | ((with_reducible refine gate_callee (f := 18) rfl ?_); refine goesL_ (some 6) rfl rfl Try.func18 (by kernel_rfl) rfl #[.int .i64 3, .slice Ao5 y137.length co5] rfl (by (try simp only [List.map_toArray, List.map_cons, List.map_nil]); first | done | rfl | (simp only [List.length_drop, List.length_take]; rfl)) ?_; (with_reducible refine (prop_Bytes.calls 3 _ _ y137 t140 t141 _ ?side1 ?side2 A1.out).mono ?_); (case side1 => repeat (first | exact (Kd.R_reads' HO139.out).2.2 | (with_reducible refine Kd.C_alloc ?_ _) | (with_reducible refine Kd.C_drewN ?_ _) | (with_reducible refine Kd.C_drew ?_))); (case side2 => exact (Kd.R_reads' HO139.out).2.1); rintro e w6 ⟨rfl, hb⟩; refine ⟨_, rfl, ?_⟩; have n0_ := Aside0.mk (Kd.R_below (by (with_reducible repeat (first | apply Kd.R_alloc | apply Kd.R_drewN | apply Kd.R_drew)); exact HO139.out) hb); have n1_ := Aside0.mk (below_step (by repeat (first | (with_reducible first | exact HB.out | apply below_alloc | apply pw_below_drewN | apply below_drew1) | exact HB.out)) hb); clear HO139; clear HB; have HO139 := n0_; have HB := n1_; clear n0_ n1_; (try clear hb); (try clear hb2); (try clear hk); (try clear hi)))
    go_ret
    exact ⟨by first | rfl | (simp [errW_none, errW_some] <;> rfl) | (simp [*, errW_none, errW_some] <;> rfl), by repeat (first | (with_reducible first | exact HB.out | apply below_alloc | apply pw_below_drewN | apply below_drew1) | exact HB.out)⟩
  · rw [if_neg c2] at H
    have c2b0 : (t141 == 0) = false := beq_eq_false_iff_ne.mpr c2
    have c2b1 : (t141 != 0) = true := bne_iff_ne.mpr c2
    obtain rfl := Option.some.inj H
    go_enter Try.func11, Try.ntmps11
    go_wp2_with (first | ((with_reducible refine gate_dst (N := 5) rfl ?_); refine Kd.R_lit k27 _ 27 ?hg (N := 5) ?hd (xs := ([(⟨1, 1, (⟨#[]⟩ : ByteArray), (⟨#[]⟩ : ByteArray)⟩ : S27)] : List (S27))) (inner := [.int .i64 1, .int .u32 1, .string (⟨#[]⟩ : ByteArray), .string (⟨#[]⟩ : ByteArray)]) (ok := fun _ => True) (okp := fun _ => True) ?hr ?hp (fun _ hk => hk) trivial (Below.refl _ _) (Nat.le_refl _) (by simp) ?_; (case hd => rfl); (case hg => rfl); (case hr => first | (go_simp; done) | (go_simp; rfl)); (case hp => exact (Reps.c4 (show Kd.M k27 _ _ _ (⟨1, 1, (⟨#[]⟩ : ByteArray), (⟨#[]⟩ : ByteArray)⟩ : S27) [.int .i64 1, .int .u32 1, .string (⟨#[]⟩ : ByteArray), .string (⟨#[]⟩ : ByteArray)] from (k27_mkM _ _ _ (⟨1, 1, (⟨#[]⟩ : ByteArray), (⟨#[]⟩ : ByteArray)⟩ : S27) )) (Reps.none _ _))); intro v138 w7 ho8 hb hg_ hnew_; clear hg_ hnew_; (first | rw [← Ny137.out] at ho8 | (simp only [Int.reduceToNat] at ho8; rw [← Ny137.out] at ho8)); have n0_ := Aside0.mk (Kd.R_lower ho8 (below_size (by repeat (first | (with_reducible first | exact HB.out | apply below_alloc | apply pw_below_drewN | apply below_drew1) | exact HB.out)))); have n1_ := Aside0.mk (below_step (by repeat (first | (with_reducible first | exact HB.out | apply below_alloc | apply pw_below_drewN | apply below_drew1) | exact HB.out)) hb); clear HB; have HO139 := n0_; have HB := n1_; clear n0_ n1_; clear hb ho8; obtain ⟨Ao9, co9, eo9⟩ := Kd.R_slice HO139.out; subst eo9) | ((with_reducible refine gate_callee (f := 18) rfl ?_); refine goesL_ (some 6) rfl rfl Try.func18 (by kernel_rfl) rfl #[.int .i64 3, .slice Ao9 y137.length co9] rfl (by (try simp only [List.map_toArray, List.map_cons, List.map_nil]); first | done | rfl | (simp only [List.length_drop, List.length_take]; rfl)) ?_; (with_reducible refine (prop_Bytes.calls 3 _ _ y137 t140 t141 _ ?side1 ?side2 A1.out).mono ?_); (case side1 => repeat (first | exact (Kd.R_reads' HO139.out).2.2 | (with_reducible refine Kd.C_alloc ?_ _) | (with_reducible refine Kd.C_drewN ?_ _) | (with_reducible refine Kd.C_drew ?_))); (case side2 => exact (Kd.R_reads' HO139.out).2.1); rintro e w10 ⟨rfl, hb⟩; refine ⟨_, rfl, ?_⟩; have n0_ := Aside0.mk (Kd.R_below (by (with_reducible repeat (first | apply Kd.R_alloc | apply Kd.R_drewN | apply Kd.R_drew)); exact HO139.out) hb); have n1_ := Aside0.mk (below_step (by repeat (first | (with_reducible first | exact HB.out | apply below_alloc | apply pw_below_drewN | apply below_drew1) | exact HB.out)) hb); clear HO139; clear HB; have HO139 := n0_; have HB := n1_; clear n0_ n1_; (try clear hb); (try clear hb2); (try clear hk); (try clear hi)))
    go_ret
    exact ⟨by first | rfl | (simp [errW_none, errW_some] <;> rfl) | (simp [*, errW_none, errW_some] <;> rfl), by repeat (first | (with_reducible first | exact HB.out | apply below_alloc | apply pw_below_drewN | apply below_drew1) | exact HB.out)⟩

end Go.Proofs.Ytngmipfobcaojaa.HA
end

-- YtngmipfobcaojaaHA34
section
-- Written by hp.py (a driver over the kit's print). Not trusted: Lean checks it.
namespace Go.Proofs.Ytngmipfobcaojaa.HA
open Go.RowKit Go.Proofs.YtngmipfobcaojaaW.PrintWords Go.Proofs.YtngmipfobcaojaaW.PrintLast Go.Proofs.YtngmipfobcaojaaW.PrintMore
attribute [local go_sem] max2_int min2_int max_two min_two max_three min_three max_four min_four   -- for this text's walks alone
set_option linter.unusedVariables false
set_option linter.unusedSimpArgs false

/-! ### polyglotkit_Pick: function 12 -/
def polyglotkit_Pick.f (a0 : Int) (a1 : Int) : Option (Int) := if a1 < 1 then (some 0) else (if a1 = 0 then (none) else (if (Int.tmod a0 a1) < 0 then (some (wrap64 ((Int.tmod a0 a1) + a1))) else (some (Int.tmod a0 a1))))
set_option maxHeartbeats 8000000 in
set_option maxRecDepth 100000 in
theorem polyglotkit_Pick.calls (a0 : Int) (a1 : Int) (r : Int) (w : World) (h : polyglotkit_Pick.f a0 a1 = some r) :
    Calls Try.prog 12 #[.int .i64 a0, .int .i64 a1] w fun e w' => e = .returned (.int .i64 r) ∧ Drawn0 w w' := by
  have H : (if a1 < 1 then (some 0) else (if a1 = 0 then (none) else (if (Int.tmod a0 a1) < 0 then (some (wrap64 ((Int.tmod a0 a1) + a1))) else (some (Int.tmod a0 a1))))) = some r := h
  clear h
  by_cases c3 : a1 < 1
  · rw [if_pos c3] at H
    have c3b0 : decide (a1 < 1) = true := decide_eq_true c3
    clear c3
    obtain rfl := Option.some.inj H
    go_enter Try.func12, Try.ntmps12
    go_wp2
    go_ret
    exact ⟨by first | rfl | (simp; done) | (simp [*]; done) | (simp; exact bne_nil_isEmpty _) | exact bne_nil_isEmpty _ | (simp; exact (bne_nil_isEmpty _).symm) | (simp; exact bne_nil_isEmpty' _), by repeat (first | exact Drawn0.refl _ | apply Drawn0.step)⟩
  · rw [if_neg c3] at H
    have c3b0 : decide (a1 < 1) = false := decide_eq_false c3
    clear c3
    by_cases c4 : a1 = 0
    · rw [if_pos c4] at H
      exact absurd H (by simp)
    · rw [if_neg c4] at H
      have c4b0 : (a1 == 0) = false := beq_eq_false_iff_ne.mpr c4
      have c4b1 : (a1 != 0) = true := bne_iff_ne.mpr c4
      by_cases c5 : (Int.tmod a0 a1) < 0
      · rw [if_pos c5] at H
        have c5b0 : decide ((Int.tmod a0 a1) < 0) = true := decide_eq_true c5
        clear c5
        obtain rfl := Option.some.inj H
        go_enter Try.func12, Try.ntmps12
        go_wp2
        go_ret
        exact ⟨by first | rfl | (simp; done) | (simp [*]; done) | (simp; exact bne_nil_isEmpty _) | exact bne_nil_isEmpty _ | (simp; exact (bne_nil_isEmpty _).symm) | (simp; exact bne_nil_isEmpty' _), by repeat (first | exact Drawn0.refl _ | apply Drawn0.step)⟩
      · rw [if_neg c5] at H
        have c5b0 : decide ((Int.tmod a0 a1) < 0) = false := decide_eq_false c5
        clear c5
        obtain rfl := Option.some.inj H
        go_enter Try.func12, Try.ntmps12
        go_wp2
        go_ret
        exact ⟨by first | rfl | (simp; done) | (simp [*]; done) | (simp; exact bne_nil_isEmpty _) | exact bne_nil_isEmpty _ | (simp; exact (bne_nil_isEmpty _).symm) | (simp; exact bne_nil_isEmpty' _), by repeat (first | exact Drawn0.refl _ | apply Drawn0.step)⟩

end Go.Proofs.Ytngmipfobcaojaa.HA
end

-- YtngmipfobcaojaaHA41
section
-- Written by hp.py (a driver over the kit's print). Not trusted: Lean checks it.
namespace Go.Proofs.Ytngmipfobcaojaa.HA
open Go.RowKit Go.Proofs.YtngmipfobcaojaaW.PrintWords Go.Proofs.YtngmipfobcaojaaW.PrintLast Go.Proofs.YtngmipfobcaojaaW.PrintMore
attribute [local go_sem] max2_int min2_int max_two min_two max_three min_three max_four min_four   -- for this text's walks alone
set_option linter.unusedVariables false
set_option linter.unusedSimpArgs false

/-! ### polyglotkit_weight: function 36 -/
def polyglotkit_weight.l0 : Nat → List (S27) → Int → Int → Option (Int)
  | 0, _, _, _ => none
  | k + 1, x0, x3, x4 => if x4 < (x0.length : Int) then (if 0 ≤ x4 then (polyglotkit_weight.l0 k x0 (wrap64 ((wrap64 (x3 + (((rd_T27 x0 x4).f2).size : Int))) + (((rd_T27 x0 x4).f3).size : Int))) (wrap64 (x4 + 1))) else (none)) else (some x3)
def polyglotkit_weight.f (k : Nat) (l0 : List (S27)) : Option (Int) := polyglotkit_weight.l0 k l0 0 0
theorem polyglotkit_weight.mono_l : ∀ k, (∀ y0 y1 y2, LeO (polyglotkit_weight.l0 k y0 y1 y2) (polyglotkit_weight.l0 (k + 1) y0 y1 y2))
  | 0 => fun _ _ _ r h => by simp [polyglotkit_weight.l0] at h
  | k + 1 => by
    have ih0 := polyglotkit_weight.mono_l k
    · intro y0 y1 y2
      unfold polyglotkit_weight.l0
      repeat' first
      | (with_reducible exact ih0 _ _ _)
      | (with_reducible exact LeO.refl _)
      | (with_reducible exact LeO.none _)
      | (with_reducible refine LeO.ite ?_ ?_)
      | (with_reducible refine LeO.bind ?_ (fun _ => ?_))
      | exact ih0 _ _ _
      | exact LeO.none _
      | refine LeO.ite ?_ ?_
      | refine LeO.bind ?_ (fun _ => ?_)
theorem polyglotkit_weight.mono : ∀ a0 k, LeO (polyglotkit_weight.f k a0) (polyglotkit_weight.f (k + 1) a0) := by
  intro a0 k
  have ih0 := polyglotkit_weight.mono_l k
  unfold polyglotkit_weight.f
  repeat' first
      | (with_reducible exact ih0 _ _ _)
      | (with_reducible exact LeO.refl _)
      | (with_reducible exact LeO.none _)
      | (with_reducible refine LeO.ite ?_ ?_)
      | (with_reducible refine LeO.bind ?_ (fun _ => ?_))
      | exact ih0 _ _ _
      | exact LeO.none _
      | refine LeO.ite ?_ ?_
      | refine LeO.bind ?_ (fun _ => ?_)
set_option maxHeartbeats 8000000 in
set_option maxRecDepth 100000 in
theorem polyglotkit_weight.calls (k : Nat) (A0 : Option Addr) (c0 : Nat) (l0 : List (S27)) (r : Int) (w : World) (hr0 : Kd.C k27 w A0 l0.length l0) (hc0 : l0.length ≤ c0) (h : polyglotkit_weight.f k l0 = some r) :
    Calls Try.prog 36 #[.slice A0 l0.length c0] w fun e w' => e = .returned (.int .i64 r) ∧ Drawn0 w w' := by
  have HR0 := Aside0.mk hr0
  have HC0 := Aside0.mk hc0
  clear hr0 hc0
  have H : (polyglotkit_weight.l0 k l0 0 0) = some r := h
  clear h
  have H' := Aside0.mk H
  clear H
  go_enter Try.func36, Try.ntmps36
  go_wp2
  repeat (go_quiet (fail); try go_wp2)
  go_loopg [3, 4] k (fun kq v3 v4 w' => ∃ (x3_1 : Int) (x4_1 : Int), v3 = .int .i64 x3_1 ∧ v4 = .int .i64 x4_1 ∧ Aside0 (polyglotkit_weight.l0 kq l0 x3_1 x4_1 = some r) ∧ Aside0 (kq ≤ k) ∧ Drawn0 w w')
  case atStart => exact ⟨(0), (0), (by first | rfl | (simp; done) | (simp [*]; done) | (simp; exact bne_nil_isEmpty _) | exact bne_nil_isEmpty _ | (simp; exact (bne_nil_isEmpty _).symm) | (simp; exact bne_nil_isEmpty' _)), (by first | rfl | (simp; done) | (simp [*]; done) | (simp; exact bne_nil_isEmpty _) | exact bne_nil_isEmpty _ | (simp; exact (bne_nil_isEmpty _).symm) | (simp; exact bne_nil_isEmpty' _)), H', ⟨Nat.le_refl _⟩, by repeat (first | exact Drawn0.refl _ | apply Drawn0.step)⟩
  case round =>
    clear H'
    obtain ⟨x3_1, x4_1, rfl, rfl, HA, HK1, ⟨m1, rfl⟩⟩ := hrel
    cases gk with
    | zero => exact absurd HA.out (by simp [polyglotkit_weight.l0])
    | succ k1 =>
      have H := HA.out
      clear HA
      simp only [polyglotkit_weight.l0] at H
      by_cases c2 : x4_1 < (l0.length : Int)
      · rw [if_pos c2] at H
        have c2b0 : decide (x4_1 < (l0.length : Int)) = true := decide_eq_true c2
        clear c2
        by_cases c3 : 0 ≤ x4_1
        · rw [if_pos c3] at H
          have c3b0 : decide (0 ≤ x4_1) = true := decide_eq_true c3
          clear c3
          have H' := Aside0.mk H
          clear H
          have p156 : 0 ≤ (x4_1 : Int) := of_decide_eq_true (by first | (with_reducible assumption) | assumption)
          have q156 : x4_1 < (l0.length : Int) := of_decide_eq_true (by first | (with_reducible assumption) | assumption)
          obtain ⟨ad156, e156, hx156_0, hx156_1, hx156_2, hx156_3⟩ := at_T27 HR0.out x4_1 p156 q156
          cases e156
          replace p156 := eq_true p156
          replace q156 := eq_true q156
          have p157 : 0 ≤ (x4_1 : Int) := of_decide_eq_true (by first | (with_reducible assumption) | assumption)
          have q157 : x4_1 < (l0.length : Int) := of_decide_eq_true (by first | (with_reducible assumption) | assumption)
          obtain ⟨ad157, e157, hx157_0, hx157_1, hx157_2, hx157_3⟩ := at_T27 HR0.out x4_1 p157 q157
          obtain rfl : ad156 = ad157 := (by injection e157)
          replace p157 := eq_true p157
          replace q157 := eq_true q157
          go_wp2
          repeat (go_quiet (fail); try go_wp2)
          go_roundg k1
          case measure => have := HK1.out; omega
          case rel => exact ⟨(wrap64 ((wrap64 (x3_1 + (((rd_T27 l0 x4_1).f2).size : Int))) + (((rd_T27 l0 x4_1).f3).size : Int))), (wrap64 (x4_1 + 1)), (by first | rfl | (simp; done) | (simp [*]; done) | (simp; exact bne_nil_isEmpty _) | exact bne_nil_isEmpty _ | (simp; exact (bne_nil_isEmpty _).symm) | (simp; exact bne_nil_isEmpty' _)), (by first | rfl | (simp; done) | (simp [*]; done) | (simp; exact bne_nil_isEmpty _) | exact bne_nil_isEmpty _ | (simp; exact (bne_nil_isEmpty _).symm) | (simp; exact bne_nil_isEmpty' _)), H', ⟨by have := HK1.out; omega⟩, by repeat (first | exact Drawn0.refl _ | apply Drawn0.step)⟩
        · rw [if_neg c3] at H
          exact absurd H (by simp)
      · rw [if_neg c2] at H
        have c2b0 : decide (x4_1 < (l0.length : Int)) = false := decide_eq_false c2
        clear c2
        obtain rfl := Option.some.inj H
        go_wp2
        repeat (go_quiet (fail); try go_wp2)
        go_ret
        exact ⟨by first | rfl | (simp; done) | (simp [*]; done) | (simp; exact bne_nil_isEmpty _) | exact bne_nil_isEmpty _ | (simp; exact (bne_nil_isEmpty _).symm) | (simp; exact bne_nil_isEmpty' _), by repeat (first | exact Drawn0.refl _ | apply Drawn0.step)⟩

end Go.Proofs.Ytngmipfobcaojaa.HA
end

-- YtngmipfobcaojaaHA42
section
-- Written by hp.py (a driver over the kit's print). Not trusted: Lean checks it.
namespace Go.Proofs.Ytngmipfobcaojaa.HA
open Go.RowKit Go.Proofs.YtngmipfobcaojaaW.PrintWords Go.Proofs.YtngmipfobcaojaaW.PrintLast Go.Proofs.YtngmipfobcaojaaW.PrintMore
attribute [local go_sem] max2_int min2_int max_two min_two max_three min_three max_four min_four   -- for this text's walks alone
set_option linter.unusedVariables false
set_option linter.unusedSimpArgs false

/-! ### polyglotkit_LightProps: function 15 -/
def polyglotkit_LightProps.f (k : Nat) (l0 : List (S27)) : Option (Bool) := if (l0.length : Int) ≤ 1010 then ((polyglotkit_weight.f k l0).bind fun t158 => (some (decide (t158 ≤ 140000)))) else (some false)
theorem polyglotkit_LightProps.mono : ∀ a0 k, LeO (polyglotkit_LightProps.f k a0) (polyglotkit_LightProps.f (k + 1) a0) := by
  intro a0 k
  unfold polyglotkit_LightProps.f
  repeat' first
      | (with_reducible exact polyglotkit_weight.mono _ _)
      | (with_reducible exact LeO.refl _)
      | (with_reducible exact LeO.none _)
      | (with_reducible refine LeO.ite ?_ ?_)
      | (with_reducible refine LeO.bind ?_ (fun _ => ?_))
      | exact polyglotkit_weight.mono _ _
      | exact LeO.none _
      | refine LeO.ite ?_ ?_
      | refine LeO.bind ?_ (fun _ => ?_)
set_option maxHeartbeats 8000000 in
set_option maxRecDepth 100000 in
theorem polyglotkit_LightProps.calls (k : Nat) (A0 : Option Addr) (c0 : Nat) (l0 : List (S27)) (r : Bool) (w : World) (hr0 : Kd.C k27 w A0 l0.length l0) (hc0 : l0.length ≤ c0) (h : polyglotkit_LightProps.f k l0 = some r) :
    Calls Try.prog 15 #[.slice A0 l0.length c0] w fun e w' => e = .returned (.bool r) ∧ Drawn0 w w' := by
  have HR0 := Aside0.mk hr0
  have HC0 := Aside0.mk hc0
  clear hr0 hc0
  have H : (if (l0.length : Int) ≤ 1010 then ((polyglotkit_weight.f k l0).bind fun t158 => (some (decide (t158 ≤ 140000)))) else (some false)) = some r := h
  clear h
  by_cases c2 : (l0.length : Int) ≤ 1010
  · rw [if_pos c2] at H
    have c2b0 : decide ((l0.length : Int) ≤ 1010) = true := decide_eq_true c2
    have c2b1 : decide (l0.length ≤ 1010) = true := decide_eq_true (by omega)
    clear c2
    replace H := Option.bind_eq_some_iff.mp H
    obtain ⟨t158, A30, H⟩ := H
    replace H : (some (decide (t158 ≤ 140000))) = some r := H
    have A3 := Aside0.mk A30
    clear A30
    obtain rfl := Option.some.inj H
    go_enter Try.func15, Try.ntmps15
    go_wp2_with (first | (go_at_call 36; (with_reducible refine (polyglotkit_weight.calls k _ _ l0 t158 _ ?side1 ?side2 A3.out).mono ?_); (case side1 => repeat (first | exact HR0.out | (with_reducible refine Kd.C_alloc ?_ _) | (with_reducible refine Kd.C_drewN ?_ _) | (with_reducible refine Kd.C_drew ?_))); (case side2 => exact HC0.out); rintro e w' ⟨rfl, ⟨nd, rfl⟩⟩))
    go_ret
    exact ⟨by first | rfl | (simp; done) | (simp [*]; done) | (simp; exact bne_nil_isEmpty _) | exact bne_nil_isEmpty _ | (simp; exact (bne_nil_isEmpty _).symm) | (simp; exact bne_nil_isEmpty' _), by repeat (first | exact Drawn0.refl _ | apply Drawn0.step)⟩
  · rw [if_neg c2] at H
    have c2b0 : decide ((l0.length : Int) ≤ 1010) = false := decide_eq_false c2
    have c2b1 : decide (l0.length ≤ 1010) = false := decide_eq_false (by omega)
    clear c2
    obtain rfl := Option.some.inj H
    go_enter Try.func15, Try.ntmps15
    go_wp2
    go_ret
    exact ⟨by first | rfl | (simp; done) | (simp [*]; done) | (simp; exact bne_nil_isEmpty _) | exact bne_nil_isEmpty _ | (simp; exact (bne_nil_isEmpty _).symm) | (simp; exact bne_nil_isEmpty' _), by repeat (first | exact Drawn0.refl _ | apply Drawn0.step)⟩

end Go.Proofs.Ytngmipfobcaojaa.HA
end

-- YtngmipfobcaojaaHA43
section
-- Written by hp.py (a driver over the kit's print). Not trusted: Lean checks it.
namespace Go.Proofs.Ytngmipfobcaojaa.HA
open Go.RowKit Go.Proofs.YtngmipfobcaojaaW.PrintWords Go.Proofs.YtngmipfobcaojaaW.PrintLast Go.Proofs.YtngmipfobcaojaaW.PrintMore
attribute [local go_sem] max2_int min2_int max_two min_two max_three min_three max_four min_four   -- for this text's walks alone
set_option linter.unusedVariables false
set_option linter.unusedSimpArgs false

/-! ### prop_Valid: function 16 -/
def prop_Valid.f (a0 : Int) (l1 : List (S27)) : Option (Int) := (prop_Bytes.f a0 l1).bind fun bt159 => (some bt159.2)
set_option maxHeartbeats 8000000 in
set_option maxRecDepth 100000 in
theorem prop_Valid.calls (a0 : Int) (A1 : Option Addr) (c1 : Nat) (l1 : List (S27)) (r : Int) (w : World) (hr1 : Kd.C k27 w A1 l1.length l1) (hc1 : l1.length ≤ c1) (h : prop_Valid.f a0 l1 = some r) :
    Calls Try.prog 16 #[.int .i64 a0, .slice A1 l1.length c1] w fun e w' => e = .returned (.int .i64 r) ∧ Below w.heap.size w w' := by
  have HR1 := Aside0.mk hr1
  have HC1 := Aside0.mk hc1
  clear hr1 hc1
  have HB := Aside0.mk (Below.refl w.heap.size w)
  have H : ((prop_Bytes.f a0 l1).bind fun bt159 => (some bt159.2)) = some r := h
  clear h
  replace H := Option.bind_eq_some_iff.mp H
  obtain ⟨⟨t159, t160⟩, A30, H⟩ := H
  replace H : (some t160) = some r := H
  have A3 := Aside0.mk A30
  clear A30
  obtain rfl := Option.some.inj H
  go_enter Try.func16, Try.ntmps16
  go_wp2_with (first | ((with_reducible refine gate_callee (f := 18) rfl ?_); refine goesL_ (some 10) rfl rfl Try.func18 (by kernel_rfl) rfl #[.int .i64 a0, .slice A1 l1.length c1] rfl (by (try simp only [List.map_toArray, List.map_cons, List.map_nil]); first | done | rfl | (simp only [List.length_drop, List.length_take]; rfl)) ?_; (with_reducible refine (prop_Bytes.calls a0 _ _ l1 t159 t160 _ ?side1 ?side2 A3.out).mono ?_); (case side1 => repeat (first | exact HR1.out | (with_reducible refine Kd.C_alloc ?_ _) | (with_reducible refine Kd.C_drewN ?_ _) | (with_reducible refine Kd.C_drew ?_))); (case side2 => exact HC1.out); rintro e w4 ⟨rfl, hb⟩; refine ⟨_, rfl, ?_⟩; have n0_ := Aside0.mk (below_step (by repeat (first | (with_reducible first | exact HB.out | apply below_alloc | apply pw_below_drewN | apply below_drew1) | exact HB.out)) hb); clear HB; have HB := n0_; clear n0_; (try clear hb); (try clear hb2); (try clear hk); (try clear hi)))
  go_ret
  exact ⟨by first | rfl | (simp [errW_none, errW_some] <;> rfl) | (simp [*, errW_none, errW_some] <;> rfl), by repeat (first | (with_reducible first | exact HB.out | apply below_alloc | apply pw_below_drewN | apply below_drew1) | exact HB.out)⟩

end Go.Proofs.Ytngmipfobcaojaa.HA
end

-- YtngmipfobcaojaaHA44
section
-- Written by hp.py (a driver over the kit's print). Not trusted: Lean checks it.
namespace Go.Proofs.Ytngmipfobcaojaa.HA
open Go.RowKit Go.Proofs.YtngmipfobcaojaaW.PrintWords Go.Proofs.YtngmipfobcaojaaW.PrintLast Go.Proofs.YtngmipfobcaojaaW.PrintMore
attribute [local go_sem] max2_int min2_int max_two min_two max_three min_three max_four min_four   -- for this text's walks alone
set_option linter.unusedVariables false
set_option linter.unusedSimpArgs false

/-! ### api_Prop_17: function 17 -/
def api_Prop_17.f (l0 : List (S27)) : Option ((List (S27))) := (some (([] : List (S27)) : List (S27))).bind fun y161 => (if y161.length + l0.length < 2932031007402 then (some (y161 ++ l0)) else (none))
set_option maxHeartbeats 8000000 in
set_option maxRecDepth 100000 in
theorem api_Prop_17.calls (A0 : Option Addr) (c0 : Nat) (l0 : List (S27)) (r : List (S27)) (w : World) (hr0 : Kd.C k27 w A0 l0.length l0) (hc0 : l0.length ≤ c0) (h : api_Prop_17.f l0 = some r) :
    Calls Try.prog 17 #[.slice A0 l0.length c0] w fun e w' => ∃ v0_ : Value, e = .returned (v0_) ∧ Kd.R k27 27 w' w.heap.size (fun _ => True) v0_ r ∧ Below w.heap.size w w' := by
  have HR0 := Aside0.mk hr0
  have HC0 := Aside0.mk hc0
  clear hr0 hc0
  have HB := Aside0.mk (Below.refl w.heap.size w)
  have H : ((some (([] : List (S27)) : List (S27))).bind fun y161 => (if y161.length + l0.length < 2932031007402 then (some (y161 ++ l0)) else (none))) = some r := h
  clear h
  obtain ⟨y161, hy161⟩ : ∃ y_ : List (S27), y_ = (([] : List (S27))) := ⟨_, rfl⟩
  replace H : (if y161.length + l0.length < 2932031007402 then (some (y161 ++ l0)) else (none)) = some r := by first | (rw [hy161]; with_reducible exact H) | (have H2_ := (Option.bind_some _ _).symm.trans H; rw [hy161]; with_reducible exact H2_) | (have H2_ := (Option.bind_some _ _).symm.trans H; with_reducible exact H2_) | with_reducible exact H | (rw [hy161]; exact H) | exact H
  have Ny161 := Aside0.mk hy161
  clear hy161
  by_cases c2 : y161.length + l0.length < 2932031007402
  · rw [if_pos c2] at H
    have LMc2 := Aside0.mk c2
    clear c2
    obtain ⟨y164, hy164⟩ : ∃ y_ : List (S27), y_ = (y161 ++ l0) := ⟨_, rfl⟩
    replace H : (some y164) = some r := by first | (rw [hy164]; with_reducible exact H) | (have H2_ := (Option.bind_some _ _).symm.trans H; rw [hy164]; with_reducible exact H2_) | (have H2_ := (Option.bind_some _ _).symm.trans H; with_reducible exact H2_) | with_reducible exact H | (rw [hy164]; exact H) | exact H
    have Ny164 := Aside0.mk hy164
    clear hy164
    obtain rfl := Option.some.inj H
    go_enter Try.func17, Try.ntmps17
    go_wp2_with (first | ((with_reducible refine gate_dst (N := 3) rfl ?_); refine Kd.R_lit k27 _ 27 ?hg (N := 3) ?hd (xs := ([] : List (S27))) (inner := []) (ok := fun _ => True) (okp := fun _ => True) ?hr ?hp (fun _ hk => hk) trivial (Below.refl _ _) (Nat.le_refl _) (by simp) ?_; (case hd => rfl); (case hg => rfl); (case hr => first | (go_simp; done) | (go_simp; rfl)); (case hp => exact (Reps.none _ _)); intro v162 w3 ho4 hb hg_ hnew_; clear hg_ hnew_; (first | rw [← Ny161.out] at ho4 | (simp only [Int.reduceToNat] at ho4; rw [← Ny161.out] at ho4)); have n0_ := Aside0.mk (Kd.R_lower ho4 (below_size (by repeat (first | (with_reducible first | exact HB.out | apply below_alloc | apply pw_below_drewN | apply below_drew1) | exact HB.out)))); have n1_ := Aside0.mk (below_step (by repeat (first | (with_reducible first | exact HB.out | apply below_alloc | apply pw_below_drewN | apply below_drew1) | exact HB.out)) hb); clear HB; have HO163 := n0_; have HB := n1_; clear n0_ n1_; clear hb ho4) | ((with_reducible refine gate_builtin (b := .append) (xs := #[.tmp 3, .tmp 4]) rfl ?_); at_builtin; refine Kd.R_append_rows k27 (w0 := w) w.heap.size rfl (.tmp 3) (.tmp 4) 32 27 (.agg #[(.int .i64 0), (.int .u32 0), (.string ⟨#[]⟩), (.string ⟨#[]⟩)]) 48 rfl Try.underlying32 info27 rfl (by decide) (by omega) v162 y161 l0 _ _ _ (fun _ => True) (fun _ => False) rfl rfl ?aO ?aR (fun _ _ h => h) (fun _ h => h.elim) ?aF ?aB ?aS ?aL ?_; (case aR => repeat (first | exact (Kd.C_below HR0.out HB.out) | (with_reducible refine Kd.C_alloc ?_ _) | (with_reducible refine Kd.C_drewN ?_ _) | (with_reducible refine Kd.C_drew ?_))); (case aB => exact (by repeat (first | (with_reducible first | exact HB.out | apply below_alloc | apply pw_below_drewN | apply below_drew1) | exact HB.out))); (case aF => exact (fun _ _ => trivial)); (case aO => exact (by (with_reducible repeat (first | apply Kd.R_alloc | apply Kd.R_drewN | apply Kd.R_drew)); exact HO163.out)); (case aS => exact (below_size (by repeat (first | (with_reducible first | exact HB.out | apply below_alloc | apply pw_below_drewN | apply below_drew1) | exact HB.out)))); (case aL => have := LMc2.out; omega); intro v165 w5 ho hb hg hat; rw [← Ny164.out] at ho; have n0_ := Aside0.mk (hb); have n1_ := Aside0.mk (ho); clear HB; clear HO163; have HB := n0_; have HO166 := n1_; clear n0_ n1_; clear ho hb hg hat))
    go_ret
    exact ⟨_, by first | rfl | (simp [errW_none, errW_some] <;> rfl) | (simp [*, errW_none, errW_some] <;> rfl), by (with_reducible repeat (first | apply Kd.R_alloc | apply Kd.R_drewN | apply Kd.R_drew)); exact HO166.out, by repeat (first | (with_reducible first | exact HB.out | apply below_alloc | apply pw_below_drewN | apply below_drew1) | exact HB.out)⟩
  · rw [if_neg c2] at H
    exact absurd H (by simp)

end Go.Proofs.Ytngmipfobcaojaa.HA
end

-- YtngmipfobcaojaaHA48
section
-- Written by hp.py (a driver over the kit's print). Not trusted: Lean checks it.
namespace Go.Proofs.Ytngmipfobcaojaa.HA
open Go.RowKit Go.Proofs.YtngmipfobcaojaaW.PrintWords Go.Proofs.YtngmipfobcaojaaW.PrintLast Go.Proofs.YtngmipfobcaojaaW.PrintMore
attribute [local go_sem] max2_int min2_int max_two min_two max_three min_three max_four min_four   -- for this text's walks alone
set_option linter.unusedVariables false
set_option linter.unusedSimpArgs false

/-! ### prop_Get: function 20 -/
def prop_Get.l0 : Nat → Int → List (S27) → Int → Int → Option (Int × Int × ByteArray × ByteArray × Bool)
  | 0, _, _, _, _ => none
  | k + 1, x1, x8, x9, x10 => if x10 < x9 then (if 0 ≤ x10 then (if x10 < (x8.length : Int) then (if ((rd_T27 x8 x10).f0) = x1 then (some ((rd_T27 x8 x10).f0, (rd_T27 x8 x10).f1, (rd_T27 x8 x10).f2, (rd_T27 x8 x10).f3, true)) else (prop_Get.l0 k x1 x8 x9 (wrap64 (x10 + 1)))) else (none)) else (none)) else (some (0, 0, (⟨#[]⟩ : ByteArray), (⟨#[]⟩ : ByteArray), false))
def prop_Get.f (k : Nat) (l0 : List (S27)) (a1 : Int) : Option (Int × Int × ByteArray × ByteArray × Bool) := prop_Get.l0 k a1 l0 (l0.length : Int) 0
theorem prop_Get.mono_l : ∀ k, (∀ y0 y1 y2 y3, LeO (prop_Get.l0 k y0 y1 y2 y3) (prop_Get.l0 (k + 1) y0 y1 y2 y3))
  | 0 => fun _ _ _ _ r h => by simp [prop_Get.l0] at h
  | k + 1 => by
    have ih0 := prop_Get.mono_l k
    · intro y0 y1 y2 y3
      unfold prop_Get.l0
      repeat' first
      | (with_reducible exact ih0 _ _ _ _)
      | (with_reducible exact LeO.refl _)
      | (with_reducible exact LeO.none _)
      | (with_reducible refine LeO.ite ?_ ?_)
      | (with_reducible refine LeO.bind ?_ (fun _ => ?_))
      | exact ih0 _ _ _ _
      | exact LeO.none _
      | refine LeO.ite ?_ ?_
      | refine LeO.bind ?_ (fun _ => ?_)
theorem prop_Get.mono : ∀ a0 a1 k, LeO (prop_Get.f k a0 a1) (prop_Get.f (k + 1) a0 a1) := by
  intro a0 a1 k
  have ih0 := prop_Get.mono_l k
  unfold prop_Get.f
  repeat' first
      | (with_reducible exact ih0 _ _ _ _)
      | (with_reducible exact LeO.refl _)
      | (with_reducible exact LeO.none _)
      | (with_reducible refine LeO.ite ?_ ?_)
      | (with_reducible refine LeO.bind ?_ (fun _ => ?_))
      | exact ih0 _ _ _ _
      | exact LeO.none _
      | refine LeO.ite ?_ ?_
      | refine LeO.bind ?_ (fun _ => ?_)
set_option maxHeartbeats 8000000 in
set_option maxRecDepth 100000 in
theorem prop_Get.calls (k : Nat) (A0 : Option Addr) (c0 : Nat) (l0 : List (S27)) (a1 : Int) (r1 : Int) (r2 : Int) (r3 : ByteArray) (r4 : ByteArray) (r5 : Bool) (w : World) (hr0 : Kd.C k27 w A0 l0.length l0) (hc0 : l0.length ≤ c0) (h : prop_Get.f k l0 a1 = some (r1, r2, r3, r4, r5)) :
    Calls Try.prog 20 #[.slice A0 l0.length c0, .int .i64 a1] w fun e w' => e = .returned (.tuple #[.agg #[.int .i64 r1, .int .u32 r2, .string r3, .string r4], .bool r5]) ∧ Below w.heap.size w w' := by
  have hu27 := Try.underlying27
  have HR0 := Aside0.mk hr0
  have HC0 := Aside0.mk hc0
  clear hr0 hc0
  have HB := Aside0.mk (Below.refl w.heap.size w)
  have H : (prop_Get.l0 k a1 l0 (l0.length : Int) 0) = some (r1, r2, r3, r4, r5) := h
  clear h
  have H' := Aside0.mk H
  clear H
  go_enter Try.func20, Try.ntmps20
  go_wp2_with (first | ((with_reducible refine gate_dst (N := 4) rfl ?_); refine box_event ?hg (N := 4) ?hd (cs := #[.int .i64 0, .int .u32 0, .string (⟨#[]⟩ : ByteArray), .string (⟨#[]⟩ : ByteArray)]) (t := 27) ?hr ?_; (case hd => rfl); (case hg => rfl); (case hr => first | (go_simp; done) | (go_simp; rfl)); intro gb222 hg w3 hbox hb; have n0_ := Aside0.mk (below_step (by repeat (first | (with_reducible first | exact HB.out | apply below_alloc | apply pw_below_drewN | apply below_drew1) | exact HB.out)) hb); have n1_ := Aside0.mk (hbox); have n2_ := Aside0.mk ((by rw [hg]; exact (below_size (by repeat (first | (with_reducible first | exact HB.out | apply below_alloc | apply pw_below_drewN | apply below_drew1) | exact HB.out))) : w.heap.size ≤ gb222)); have n3_ := Aside0.mk ((by rw [hg]; exact (below_size (by repeat (first | (with_reducible first | exact HB.out | apply below_alloc | apply pw_below_drewN | apply below_drew1) | exact HB.out))) : w.heap.size ≤ gb222)); clear HB; have HB := n0_; have BK222 := n1_; have GW222 := n2_; have GE222 := n3_; clear n0_ n1_ n2_ n3_; clear hb hbox hg))
  go_loopg [10] k (fun kq v10 w' => ∃ (x10_1 : Int) (x223000_1 : Int) (x223001_1 : Int) (x223002_1 : ByteArray) (x223003_1 : ByteArray), v10 = .int .i64 x10_1 ∧ Aside0 (prop_Get.l0 kq a1 l0 (l0.length : Int) x10_1 = some (r1, r2, r3, r4, r5)) ∧ Aside0 (kq ≤ k) ∧ Aside0 (w'.heap[gb222]? = some (.cells #[.int .i64 x223000_1, .int .u32 x223001_1, .string x223002_1, .string x223003_1] 27 (0, 0))) ∧ Aside0 (Below w.heap.size w w'))
  case atStart => exact ⟨(0), (0), (0), ((⟨#[]⟩ : ByteArray)), ((⟨#[]⟩ : ByteArray)), (by first | rfl | (simp; done) | (simp [*]; done) | (simp; exact bne_nil_isEmpty _) | exact bne_nil_isEmpty _ | (simp; exact (bne_nil_isEmpty _).symm) | (simp; exact bne_nil_isEmpty' _)), H', ⟨Nat.le_refl _⟩, ⟨by (with_reducible repeat (first | refine blk_drewN ?_ _ | refine blk_drew ?_ | refine blk_alloc ?_ _)); exact BK222.out⟩, ⟨by repeat (first | (with_reducible first | exact HB.out | apply below_alloc | apply pw_below_drewN | apply below_drew1 | refine below_set ?_ GE222.out) | exact HB.out)⟩⟩
  case round =>
    clear H'
    try clear c2
    try clear p2
    obtain ⟨x10_1, x223000_1, x223001_1, x223002_1, x223003_1, rfl, HA, HK1, BK222, HB⟩ := hrel
    cases gk with
    | zero => exact absurd HA.out (by simp [prop_Get.l0])
    | succ k1 =>
      have H := HA.out
      clear HA
      simp only [prop_Get.l0] at H
      by_cases c4 : x10_1 < (l0.length : Int)
      · rw [if_pos c4] at H
        have c4b0 : decide (x10_1 < (l0.length : Int)) = true := decide_eq_true c4
        clear c4
        by_cases c5 : 0 ≤ x10_1
        · rw [if_pos c5] at H
          have c5b0 : decide (0 ≤ x10_1) = true := decide_eq_true c5
          clear c5
          by_cases c6 : x10_1 < (l0.length : Int)
          · rw [if_pos c6] at H
            have c6b0 : decide (x10_1 < (l0.length : Int)) = true := decide_eq_true c6
            clear c6
            by_cases c7 : ((rd_T27 l0 x10_1).f0) = a1
            · rw [if_pos c7] at H
              have c7b0 : (((rd_T27 l0 x10_1).f0) == a1) = true := beq_iff_eq.mpr c7
              have c7b1 : (((rd_T27 l0 x10_1).f0) != a1) = false := bne_eq_false_iff_eq.mpr c7
              clear c7
              simp only [Option.some.injEq, Prod.mk.injEq] at H
              obtain ⟨rfl, rfl, rfl, rfl, rfl⟩ := H
              have p223 : 0 ≤ (x10_1 : Int) := of_decide_eq_true (by first | (with_reducible assumption) | assumption)
              have q223 : x10_1 < (l0.length : Int) := of_decide_eq_true (by first | (with_reducible assumption) | assumption)
              obtain ⟨ad223, e223, hx223_0, hx223_1, hx223_2, hx223_3⟩ := at_T27 HR0.out x10_1 p223 q223
              cases e223
              replace hx223_0 := (HB.out.cell (World.block_lt_of_cell? w _ hx223_0)).trans hx223_0
              replace hx223_1 := (HB.out.cell (World.block_lt_of_cell? w _ hx223_1)).trans hx223_1
              replace hx223_2 := (HB.out.cell (World.block_lt_of_cell? w _ hx223_2)).trans hx223_2
              replace hx223_3 := (HB.out.cell (World.block_lt_of_cell? w _ hx223_3)).trans hx223_3
              replace p223 := eq_true p223
              replace q223 := eq_true q223
              go_wp2_with (first | ((with_reducible refine gate_dst (N := 7) rfl ?_); refine box_event ?hg (N := 7) ?hd (cs := #[.int .i64 0, .int .u32 0, .string (⟨#[]⟩ : ByteArray), .string (⟨#[]⟩ : ByteArray)]) (t := 27) ?hr ?_; (case hd => rfl); (case hg => rfl); (case hr => first | (go_simp; done) | (go_simp; rfl)); intro gb224 hg w8 hbox hb; have n0_ := Aside0.mk (blk_below (g := gb222) (o := .cells #[.int .i64 x223000_1, .int .u32 x223001_1, .string x223002_1, .string x223003_1] 27 (0, 0)) (by (with_reducible repeat (first | refine blk_drewN ?_ _ | refine blk_drew ?_ | refine blk_alloc ?_ _)); exact BK222.out) hb); have n1_ := Aside0.mk (below_step (by repeat (first | (with_reducible first | exact HB.out | apply below_alloc | apply pw_below_drewN | apply below_drew1 | refine below_set ?_ GE222.out) | exact HB.out)) hb); have n2_ := Aside0.mk (hbox); have n3_ := Aside0.mk ((by rw [hg]; exact (below_size (by repeat (first | (with_reducible first | exact HB.out | apply below_alloc | apply pw_below_drewN | apply below_drew1 | refine below_set ?_ GE222.out) | exact HB.out))) : w.heap.size ≤ gb224)); have n4_ := Aside0.mk ((by rw [hg]; exact (below_size (by repeat (first | (with_reducible first | exact HB.out | apply below_alloc | apply pw_below_drewN | apply below_drew1 | refine below_set ?_ GE222.out) | exact HB.out))) : w.heap.size ≤ gb224)); have n5_ := Aside0.mk ((by rw [hg]; exact Nat.ne_of_lt (blk_lt (g := gb222) (o := .cells #[.int .i64 x223000_1, .int .u32 x223001_1, .string x223002_1, .string x223003_1] 27 (0, 0)) (by (with_reducible repeat (first | refine blk_drewN ?_ _ | refine blk_drew ?_ | refine blk_alloc ?_ _)); exact BK222.out)) : gb222 ≠ gb224)); have n6_ := Aside0.mk ((by rw [hg]; exact Nat.ne_of_gt (blk_lt (g := gb222) (o := .cells #[.int .i64 x223000_1, .int .u32 x223001_1, .string x223002_1, .string x223003_1] 27 (0, 0)) (by (with_reducible repeat (first | refine blk_drewN ?_ _ | refine blk_drew ?_ | refine blk_alloc ?_ _)); exact BK222.out)) : gb224 ≠ gb222)); clear BK222; clear HB; have BK222 := n0_; have HB := n1_; have BK224 := n2_; have GW224 := n3_; have GE224 := n4_; have NB222_224 := n5_; have NB224_222 := n6_; clear n0_ n1_ n2_ n3_ n4_ n5_ n6_; clear hb hbox hg; have hnb9 := NB224_222.out; have hnc9 := NB222_224.out; have hcz10_0 : w8.cell? ⟨gb224, 0, none⟩ = some (.int .i64 0) := (blk_cell BK224.out 0).trans rfl; have hcz10_1 : w8.cell? ⟨gb224, 1, none⟩ = some (.int .u32 0) := (blk_cell BK224.out 1).trans rfl; have hcz10_2 : w8.cell? ⟨gb224, 2, none⟩ = some (.string (⟨#[]⟩ : ByteArray)) := (blk_cell BK224.out 2).trans rfl; have hcz10_3 : w8.cell? ⟨gb224, 3, none⟩ = some (.string (⟨#[]⟩ : ByteArray)) := (blk_cell BK224.out 3).trans rfl; have hfz10_0 := blk_frozen BK224.out 0; have hfz10_1 := blk_frozen BK224.out 1; have hfz10_2 := blk_frozen BK224.out 2; have hfz10_3 := blk_frozen BK224.out 3; have hcz11_0 : w8.cell? ⟨gb222, 0, none⟩ = some (.int .i64 x223000_1) := (blk_cell BK222.out 0).trans rfl; have hcz11_1 : w8.cell? ⟨gb222, 1, none⟩ = some (.int .u32 x223001_1) := (blk_cell BK222.out 1).trans rfl; have hcz11_2 : w8.cell? ⟨gb222, 2, none⟩ = some (.string x223002_1) := (blk_cell BK222.out 2).trans rfl; have hcz11_3 : w8.cell? ⟨gb222, 3, none⟩ = some (.string x223003_1) := (blk_cell BK222.out 3).trans rfl; have hfz11_0 := blk_frozen BK222.out 0; have hfz11_1 := blk_frozen BK222.out 1; have hfz11_2 := blk_frozen BK222.out 2; have hfz11_3 := blk_frozen BK222.out 3))
              refine bodyPost_ret (results_ct rfl _ _ gb222 27 #[.int .i64 ((rd_T27 l0 x10_1).f0), .int .u32 ((rd_T27 l0 x10_1).f1), .string ((rd_T27 l0 x10_1).f2), .string ((rd_T27 l0 x10_1).f3)] (0, 0) _ rfl (by (with_reducible repeat (first | refine blk_drewN ?_ _ | refine blk_drew ?_ | refine blk_alloc ?_ _)); refine blk_put (cs := #[.int .i64 ((rd_T27 l0 x10_1).f0), .int .u32 ((rd_T27 l0 x10_1).f1), .string ((rd_T27 l0 x10_1).f2), .string x223003_1]) ?_ 3 _ rfl; (with_reducible repeat (first | refine blk_drewN ?_ _ | refine blk_drew ?_ | refine blk_alloc ?_ _)); refine blk_put (cs := #[.int .i64 ((rd_T27 l0 x10_1).f0), .int .u32 ((rd_T27 l0 x10_1).f1), .string x223002_1, .string x223003_1]) ?_ 2 _ rfl; (with_reducible repeat (first | refine blk_drewN ?_ _ | refine blk_drew ?_ | refine blk_alloc ?_ _)); refine blk_put (cs := #[.int .i64 ((rd_T27 l0 x10_1).f0), .int .u32 x223001_1, .string x223002_1, .string x223003_1]) ?_ 1 _ rfl; (with_reducible repeat (first | refine blk_drewN ?_ _ | refine blk_drew ?_ | refine blk_alloc ?_ _)); refine blk_put (cs := #[.int .i64 x223000_1, .int .u32 x223001_1, .string x223002_1, .string x223003_1]) ?_ 0 _ rfl; (with_reducible repeat (first | refine blk_drewN ?_ _ | refine blk_drew ?_ | refine blk_alloc ?_ _)); refine blk_far ?_ NB222_224.out _; (with_reducible repeat (first | refine blk_drewN ?_ _ | refine blk_drew ?_ | refine blk_alloc ?_ _)); refine blk_far ?_ NB222_224.out _; (with_reducible repeat (first | refine blk_drewN ?_ _ | refine blk_drew ?_ | refine blk_alloc ?_ _)); refine blk_far ?_ NB222_224.out _; (with_reducible repeat (first | refine blk_drewN ?_ _ | refine blk_drew ?_ | refine blk_alloc ?_ _)); refine blk_far ?_ NB222_224.out _; (with_reducible repeat (first | refine blk_drewN ?_ _ | refine blk_drew ?_ | refine blk_alloc ?_ _)); exact BK222.out) Try.underlying27 rfl (by kernel_rfl)) rfl ?_
              exact ⟨by first | rfl | (simp [errW_none, errW_some] <;> rfl) | (simp [*, errW_none, errW_some] <;> rfl), by repeat (first | (with_reducible first | exact HB.out | apply below_alloc | apply pw_below_drewN | apply below_drew1 | refine below_set ?_ GE222.out | refine below_set ?_ GE224.out) | exact HB.out)⟩
            · rw [if_neg c7] at H
              have c7b0 : (((rd_T27 l0 x10_1).f0) == a1) = false := beq_eq_false_iff_ne.mpr c7
              have c7b1 : (((rd_T27 l0 x10_1).f0) != a1) = true := bne_iff_ne.mpr c7
              have H' := Aside0.mk H
              clear H
              have p223 : 0 ≤ (x10_1 : Int) := of_decide_eq_true (by first | (with_reducible assumption) | assumption)
              have q223 : x10_1 < (l0.length : Int) := of_decide_eq_true (by first | (with_reducible assumption) | assumption)
              obtain ⟨ad223, e223, hx223_0, hx223_1, hx223_2, hx223_3⟩ := at_T27 HR0.out x10_1 p223 q223
              cases e223
              replace hx223_0 := (HB.out.cell (World.block_lt_of_cell? w _ hx223_0)).trans hx223_0
              replace hx223_1 := (HB.out.cell (World.block_lt_of_cell? w _ hx223_1)).trans hx223_1
              replace hx223_2 := (HB.out.cell (World.block_lt_of_cell? w _ hx223_2)).trans hx223_2
              replace hx223_3 := (HB.out.cell (World.block_lt_of_cell? w _ hx223_3)).trans hx223_3
              replace p223 := eq_true p223
              replace q223 := eq_true q223
              go_wp2_with (first | ((with_reducible refine gate_dst (N := 7) rfl ?_); refine box_event ?hg (N := 7) ?hd (cs := #[.int .i64 0, .int .u32 0, .string (⟨#[]⟩ : ByteArray), .string (⟨#[]⟩ : ByteArray)]) (t := 27) ?hr ?_; (case hd => rfl); (case hg => rfl); (case hr => first | (go_simp; done) | (go_simp; rfl)); intro gb224 hg w12 hbox hb; have n0_ := Aside0.mk (blk_below (g := gb222) (o := .cells #[.int .i64 x223000_1, .int .u32 x223001_1, .string x223002_1, .string x223003_1] 27 (0, 0)) (by (with_reducible repeat (first | refine blk_drewN ?_ _ | refine blk_drew ?_ | refine blk_alloc ?_ _)); exact BK222.out) hb); have n1_ := Aside0.mk (below_step (by repeat (first | (with_reducible first | exact HB.out | apply below_alloc | apply pw_below_drewN | apply below_drew1 | refine below_set ?_ GE222.out) | exact HB.out)) hb); have n2_ := Aside0.mk (hbox); have n3_ := Aside0.mk ((by rw [hg]; exact (below_size (by repeat (first | (with_reducible first | exact HB.out | apply below_alloc | apply pw_below_drewN | apply below_drew1 | refine below_set ?_ GE222.out) | exact HB.out))) : w.heap.size ≤ gb224)); have n4_ := Aside0.mk ((by rw [hg]; exact (below_size (by repeat (first | (with_reducible first | exact HB.out | apply below_alloc | apply pw_below_drewN | apply below_drew1 | refine below_set ?_ GE222.out) | exact HB.out))) : w.heap.size ≤ gb224)); have n5_ := Aside0.mk ((by rw [hg]; exact Nat.ne_of_lt (blk_lt (g := gb222) (o := .cells #[.int .i64 x223000_1, .int .u32 x223001_1, .string x223002_1, .string x223003_1] 27 (0, 0)) (by (with_reducible repeat (first | refine blk_drewN ?_ _ | refine blk_drew ?_ | refine blk_alloc ?_ _)); exact BK222.out)) : gb222 ≠ gb224)); have n6_ := Aside0.mk ((by rw [hg]; exact Nat.ne_of_gt (blk_lt (g := gb222) (o := .cells #[.int .i64 x223000_1, .int .u32 x223001_1, .string x223002_1, .string x223003_1] 27 (0, 0)) (by (with_reducible repeat (first | refine blk_drewN ?_ _ | refine blk_drew ?_ | refine blk_alloc ?_ _)); exact BK222.out)) : gb224 ≠ gb222)); clear BK222; clear HB; have BK222 := n0_; have HB := n1_; have BK224 := n2_; have GW224 := n3_; have GE224 := n4_; have NB222_224 := n5_; have NB224_222 := n6_; clear n0_ n1_ n2_ n3_ n4_ n5_ n6_; clear hb hbox hg; have hnb13 := NB224_222.out; have hnc13 := NB222_224.out; have hcz14_0 : w12.cell? ⟨gb224, 0, none⟩ = some (.int .i64 0) := (blk_cell BK224.out 0).trans rfl; have hcz14_1 : w12.cell? ⟨gb224, 1, none⟩ = some (.int .u32 0) := (blk_cell BK224.out 1).trans rfl; have hcz14_2 : w12.cell? ⟨gb224, 2, none⟩ = some (.string (⟨#[]⟩ : ByteArray)) := (blk_cell BK224.out 2).trans rfl; have hcz14_3 : w12.cell? ⟨gb224, 3, none⟩ = some (.string (⟨#[]⟩ : ByteArray)) := (blk_cell BK224.out 3).trans rfl; have hfz14_0 := blk_frozen BK224.out 0; have hfz14_1 := blk_frozen BK224.out 1; have hfz14_2 := blk_frozen BK224.out 2; have hfz14_3 := blk_frozen BK224.out 3))
              go_roundg k1
              case measure => have := HK1.out; omega
              case rel => exact ⟨(wrap64 (x10_1 + 1)), (x223000_1), (x223001_1), (x223002_1), (x223003_1), (by first | rfl | (simp; done) | (simp [*]; done) | (simp; exact bne_nil_isEmpty _) | exact bne_nil_isEmpty _ | (simp; exact (bne_nil_isEmpty _).symm) | (simp; exact bne_nil_isEmpty' _)), H', ⟨by have := HK1.out; omega⟩, ⟨by (with_reducible repeat (first | refine blk_drewN ?_ _ | refine blk_drew ?_ | refine blk_alloc ?_ _)); refine blk_far ?_ NB222_224.out _; (with_reducible repeat (first | refine blk_drewN ?_ _ | refine blk_drew ?_ | refine blk_alloc ?_ _)); refine blk_far ?_ NB222_224.out _; (with_reducible repeat (first | refine blk_drewN ?_ _ | refine blk_drew ?_ | refine blk_alloc ?_ _)); refine blk_far ?_ NB222_224.out _; (with_reducible repeat (first | refine blk_drewN ?_ _ | refine blk_drew ?_ | refine blk_alloc ?_ _)); refine blk_far ?_ NB222_224.out _; (with_reducible repeat (first | refine blk_drewN ?_ _ | refine blk_drew ?_ | refine blk_alloc ?_ _)); exact BK222.out⟩, ⟨by repeat (first | (with_reducible first | exact HB.out | apply below_alloc | apply pw_below_drewN | apply below_drew1 | refine below_set ?_ GE222.out | refine below_set ?_ GE224.out) | exact HB.out)⟩⟩
          · rw [if_neg c6] at H
            exact absurd H (by simp)
        · rw [if_neg c5] at H
          exact absurd H (by simp)
      · rw [if_neg c4] at H
        have c4b0 : decide (x10_1 < (l0.length : Int)) = false := decide_eq_false c4
        clear c4
        simp only [Option.some.injEq, Prod.mk.injEq] at H
        obtain ⟨rfl, rfl, rfl, rfl, rfl⟩ := H
        have hcz15_0 : wr.cell? ⟨gb222, 0, none⟩ = some (.int .i64 x223000_1) := (blk_cell BK222.out 0).trans rfl
        have hcz15_1 : wr.cell? ⟨gb222, 1, none⟩ = some (.int .u32 x223001_1) := (blk_cell BK222.out 1).trans rfl
        have hcz15_2 : wr.cell? ⟨gb222, 2, none⟩ = some (.string x223002_1) := (blk_cell BK222.out 2).trans rfl
        have hcz15_3 : wr.cell? ⟨gb222, 3, none⟩ = some (.string x223003_1) := (blk_cell BK222.out 3).trans rfl
        have hfz15_0 := blk_frozen BK222.out 0
        have hfz15_1 := blk_frozen BK222.out 1
        have hfz15_2 := blk_frozen BK222.out 2
        have hfz15_3 := blk_frozen BK222.out 3
        go_wp2
        refine bodyPost_ret (results_ct rfl _ _ gb222 27 #[.int .i64 0, .int .u32 0, .string (⟨#[]⟩ : ByteArray), .string (⟨#[]⟩ : ByteArray)] (0, 0) _ rfl (by (with_reducible repeat (first | refine blk_drewN ?_ _ | refine blk_drew ?_ | refine blk_alloc ?_ _)); refine blk_put (cs := #[.int .i64 0, .int .u32 0, .string (⟨#[]⟩ : ByteArray), .string x223003_1]) ?_ 3 _ rfl; (with_reducible repeat (first | refine blk_drewN ?_ _ | refine blk_drew ?_ | refine blk_alloc ?_ _)); refine blk_put (cs := #[.int .i64 0, .int .u32 0, .string x223002_1, .string x223003_1]) ?_ 2 _ rfl; (with_reducible repeat (first | refine blk_drewN ?_ _ | refine blk_drew ?_ | refine blk_alloc ?_ _)); refine blk_put (cs := #[.int .i64 0, .int .u32 x223001_1, .string x223002_1, .string x223003_1]) ?_ 1 _ rfl; (with_reducible repeat (first | refine blk_drewN ?_ _ | refine blk_drew ?_ | refine blk_alloc ?_ _)); refine blk_put (cs := #[.int .i64 x223000_1, .int .u32 x223001_1, .string x223002_1, .string x223003_1]) ?_ 0 _ rfl; (with_reducible repeat (first | refine blk_drewN ?_ _ | refine blk_drew ?_ | refine blk_alloc ?_ _)); exact BK222.out) Try.underlying27 rfl (by kernel_rfl)) rfl ?_
        exact ⟨by first | rfl | (simp [errW_none, errW_some] <;> rfl) | (simp [*, errW_none, errW_some] <;> rfl), by repeat (first | (with_reducible first | exact HB.out | apply below_alloc | apply pw_below_drewN | apply below_drew1 | refine below_set ?_ GE222.out) | exact HB.out)⟩

end Go.Proofs.Ytngmipfobcaojaa.HA
end

-- YtngmipfobcaojaaHA49
section
-- Written by hp.py (a driver over the kit's print). Not trusted: Lean checks it.
namespace Go.Proofs.Ytngmipfobcaojaa.HA
open Go.RowKit Go.Proofs.YtngmipfobcaojaaW.PrintWords Go.Proofs.YtngmipfobcaojaaW.PrintLast Go.Proofs.YtngmipfobcaojaaW.PrintMore
attribute [local go_sem] max2_int min2_int max_two min_two max_three min_three max_four min_four   -- for this text's walks alone
set_option linter.unusedVariables false
set_option linter.unusedSimpArgs false

/-! ### polyglotref02_Read: function 42 -/
def polyglotref02_Read.l0 : Nat → ByteArray → Int → Int → Int → Option (Int × Int × Int)
  | 0, _, _, _, _ => none
  | k + 1, x0, x5, x6, x7 => if x7 < 4 then (if x7 ≥ (x0.size : Int) then (some (0, 0, 3)) else (if 0 ≤ x7 then (if x7 < (x0.size : Int) then (if (bt x0 x7) < 128 then (if x7 > 0 then (if (bt x0 x7) = 0 then (some (0, 0, 5)) else (some (wrap64 (x5 + (wrap64 ((wrap64 (Int.tmod (bt x0 x7) 128)) * x6))), wrap64 (x7 + 1), 0))) else (some (wrap64 (x5 + (wrap64 ((wrap64 (Int.tmod (bt x0 x7) 128)) * x6))), wrap64 (x7 + 1), 0))) else (polyglotref02_Read.l0 k x0 (wrap64 (x5 + (wrap64 ((wrap64 (Int.tmod (bt x0 x7) 128)) * x6)))) (wrap64 (x6 * 128)) (wrap64 (x7 + 1)))) else (none)) else (none))) else (some (0, 0, 5))
def polyglotref02_Read.f (k : Nat) (a0 : ByteArray) : Option (Int × Int × Int) := polyglotref02_Read.l0 k a0 0 1 0
theorem polyglotref02_Read.mono_l : ∀ k, (∀ y0 y1 y2 y3, LeO (polyglotref02_Read.l0 k y0 y1 y2 y3) (polyglotref02_Read.l0 (k + 1) y0 y1 y2 y3))
  | 0 => fun _ _ _ _ r h => by simp [polyglotref02_Read.l0] at h
  | k + 1 => by
    have ih0 := polyglotref02_Read.mono_l k
    · intro y0 y1 y2 y3
      unfold polyglotref02_Read.l0
      repeat' first
      | (with_reducible exact ih0 _ _ _ _)
      | (with_reducible exact LeO.refl _)
      | (with_reducible exact LeO.none _)
      | (with_reducible refine LeO.ite ?_ ?_)
      | (with_reducible refine LeO.bind ?_ (fun _ => ?_))
      | exact ih0 _ _ _ _
      | exact LeO.none _
      | refine LeO.ite ?_ ?_
      | refine LeO.bind ?_ (fun _ => ?_)
theorem polyglotref02_Read.mono : ∀ a0 k, LeO (polyglotref02_Read.f k a0) (polyglotref02_Read.f (k + 1) a0) := by
  intro a0 k
  have ih0 := polyglotref02_Read.mono_l k
  unfold polyglotref02_Read.f
  repeat' first
      | (with_reducible exact ih0 _ _ _ _)
      | (with_reducible exact LeO.refl _)
      | (with_reducible exact LeO.none _)
      | (with_reducible refine LeO.ite ?_ ?_)
      | (with_reducible refine LeO.bind ?_ (fun _ => ?_))
      | exact ih0 _ _ _ _
      | exact LeO.none _
      | refine LeO.ite ?_ ?_
      | refine LeO.bind ?_ (fun _ => ?_)
set_option maxHeartbeats 8000000 in
set_option maxRecDepth 100000 in
theorem polyglotref02_Read.calls (k : Nat) (a0 : ByteArray) (r1 : Int) (r2 : Int) (r3 : Int) (w : World) (h : polyglotref02_Read.f k a0 = some (r1, r2, r3)) :
    Calls Try.prog 42 #[.string a0] w fun e w' => e = .returned (.tuple #[.int .i64 r1, .int .i64 r2, .int .i64 r3]) ∧ Drawn0 w w' := by
  have H : (polyglotref02_Read.l0 k a0 0 1 0) = some (r1, r2, r3) := h
  clear h
  have H' := Aside0.mk H
  clear H
  go_enter Try.func42, Try.ntmps42
  go_wp2
  go_loopg [5, 6, 7] k (fun kq v5 v6 v7 w' => ∃ (x5_1 : Int) (x6_1 : Int) (x7_1 : Int), v5 = .int .i64 x5_1 ∧ v6 = .int .i64 x6_1 ∧ v7 = .int .i64 x7_1 ∧ Aside0 (polyglotref02_Read.l0 kq a0 x5_1 x6_1 x7_1 = some (r1, r2, r3)) ∧ Aside0 (kq ≤ k) ∧ Drawn0 w w')
  case atStart => exact ⟨(0), (1), (0), (by first | rfl | (simp; done) | (simp [*]; done) | (simp; exact bne_nil_isEmpty _) | exact bne_nil_isEmpty _ | (simp; exact (bne_nil_isEmpty _).symm) | (simp; exact bne_nil_isEmpty' _)), (by first | rfl | (simp; done) | (simp [*]; done) | (simp; exact bne_nil_isEmpty _) | exact bne_nil_isEmpty _ | (simp; exact (bne_nil_isEmpty _).symm) | (simp; exact bne_nil_isEmpty' _)), (by first | rfl | (simp; done) | (simp [*]; done) | (simp; exact bne_nil_isEmpty _) | exact bne_nil_isEmpty _ | (simp; exact (bne_nil_isEmpty _).symm) | (simp; exact bne_nil_isEmpty' _)), H', ⟨Nat.le_refl _⟩, by repeat (first | exact Drawn0.refl _ | apply Drawn0.step)⟩
  case round =>
    clear H'
    obtain ⟨x5_1, x6_1, x7_1, rfl, rfl, rfl, HA, HK1, ⟨m1, rfl⟩⟩ := hrel
    cases gk with
    | zero => exact absurd HA.out (by simp [polyglotref02_Read.l0])
    | succ k1 =>
      have H := HA.out
      clear HA
      simp only [polyglotref02_Read.l0] at H
      by_cases c2 : x7_1 < 4
      · rw [if_pos c2] at H
        have c2b0 : decide (x7_1 < 4) = true := decide_eq_true c2
        clear c2
        by_cases c3 : x7_1 ≥ (a0.size : Int)
        · rw [if_pos c3] at H
          have c3b0 : decide ((a0.size : Int) ≤ x7_1) = true := decide_eq_true c3
          clear c3
          simp only [Option.some.injEq, Prod.mk.injEq] at H
          obtain ⟨rfl, rfl, rfl⟩ := H
          go_wp2
          go_ret3
          exact ⟨by first | rfl | (simp; done) | (simp [*]; done) | (simp; exact bne_nil_isEmpty _) | exact bne_nil_isEmpty _ | (simp; exact (bne_nil_isEmpty _).symm) | (simp; exact bne_nil_isEmpty' _), by repeat (first | exact Drawn0.refl _ | apply Drawn0.step)⟩
        · rw [if_neg c3] at H
          have c3b0 : decide ((a0.size : Int) ≤ x7_1) = false := decide_eq_false c3
          clear c3
          by_cases c4 : 0 ≤ x7_1
          · rw [if_pos c4] at H
            have c4b0 : decide (0 ≤ x7_1) = true := decide_eq_true c4
            clear c4
            by_cases c5 : x7_1 < (a0.size : Int)
            · rw [if_pos c5] at H
              have c5b0 : decide (x7_1 < (a0.size : Int)) = true := decide_eq_true c5
              clear c5
              by_cases c8 : (bt a0 x7_1) < 128
              · rw [if_pos c8] at H
                have c8b0 : decide ((bt a0 x7_1) < 128) = true := decide_eq_true c8
                clear c8
                by_cases c9 : x7_1 > 0
                · rw [if_pos c9] at H
                  have c9b0 : decide (0 < x7_1) = true := decide_eq_true c9
                  clear c9
                  by_cases c11 : (bt a0 x7_1) = 0
                  · rw [if_pos c11] at H
                    have c11b0 : ((bt a0 x7_1) == 0) = true := beq_iff_eq.mpr c11
                    have c11b1 : ((bt a0 x7_1) != 0) = false := bne_eq_false_iff_eq.mpr c11
                    clear c11
                    simp only [Option.some.injEq, Prod.mk.injEq] at H
                    obtain ⟨rfl, rfl, rfl⟩ := H
                    have p6 : 0 ≤ (x7_1 : Int) := of_decide_eq_true (by first | (with_reducible assumption) | assumption)
                    have q6 : x7_1 < (a0.size : Int) := of_decide_eq_true (by first | (with_reducible assumption) | assumption)
                    have hx6 := bt_at a0 x7_1
                    replace p6 := eq_true p6
                    replace q6 := eq_true q6
                    have p7 : 0 ≤ (x7_1 : Int) := of_decide_eq_true (by first | (with_reducible assumption) | assumption)
                    have q7 : x7_1 < (a0.size : Int) := of_decide_eq_true (by first | (with_reducible assumption) | assumption)
                    have hx7 := bt_at a0 x7_1
                    replace p7 := eq_true p7
                    replace q7 := eq_true q7
                    have p10 : 0 ≤ (x7_1 : Int) := of_decide_eq_true (by first | (with_reducible assumption) | assumption)
                    have q10 : x7_1 < (a0.size : Int) := of_decide_eq_true (by first | (with_reducible assumption) | assumption)
                    have hx10 := bt_at a0 x7_1
                    replace p10 := eq_true p10
                    replace q10 := eq_true q10
                    go_wp2
                    go_ret3
                    exact ⟨by first | rfl | (simp; done) | (simp [*]; done) | (simp; exact bne_nil_isEmpty _) | exact bne_nil_isEmpty _ | (simp; exact (bne_nil_isEmpty _).symm) | (simp; exact bne_nil_isEmpty' _), by repeat (first | exact Drawn0.refl _ | apply Drawn0.step)⟩
                  · rw [if_neg c11] at H
                    have c11b0 : ((bt a0 x7_1) == 0) = false := beq_eq_false_iff_ne.mpr c11
                    have c11b1 : ((bt a0 x7_1) != 0) = true := bne_iff_ne.mpr c11
                    simp only [Option.some.injEq, Prod.mk.injEq] at H
                    obtain ⟨rfl, rfl, rfl⟩ := H
                    have p6 : 0 ≤ (x7_1 : Int) := of_decide_eq_true (by first | (with_reducible assumption) | assumption)
                    have q6 : x7_1 < (a0.size : Int) := of_decide_eq_true (by first | (with_reducible assumption) | assumption)
                    have hx6 := bt_at a0 x7_1
                    replace p6 := eq_true p6
                    replace q6 := eq_true q6
                    have p7 : 0 ≤ (x7_1 : Int) := of_decide_eq_true (by first | (with_reducible assumption) | assumption)
                    have q7 : x7_1 < (a0.size : Int) := of_decide_eq_true (by first | (with_reducible assumption) | assumption)
                    have hx7 := bt_at a0 x7_1
                    replace p7 := eq_true p7
                    replace q7 := eq_true q7
                    have p10 : 0 ≤ (x7_1 : Int) := of_decide_eq_true (by first | (with_reducible assumption) | assumption)
                    have q10 : x7_1 < (a0.size : Int) := of_decide_eq_true (by first | (with_reducible assumption) | assumption)
                    have hx10 := bt_at a0 x7_1
                    replace p10 := eq_true p10
                    replace q10 := eq_true q10
                    go_wp2
                    go_ret3
                    exact ⟨by first | rfl | (simp; done) | (simp [*]; done) | (simp; exact bne_nil_isEmpty _) | exact bne_nil_isEmpty _ | (simp; exact (bne_nil_isEmpty _).symm) | (simp; exact bne_nil_isEmpty' _), by repeat (first | exact Drawn0.refl _ | apply Drawn0.step)⟩
                · rw [if_neg c9] at H
                  have c9b0 : decide (0 < x7_1) = false := decide_eq_false c9
                  clear c9
                  simp only [Option.some.injEq, Prod.mk.injEq] at H
                  obtain ⟨rfl, rfl, rfl⟩ := H
                  have p6 : 0 ≤ (x7_1 : Int) := of_decide_eq_true (by first | (with_reducible assumption) | assumption)
                  have q6 : x7_1 < (a0.size : Int) := of_decide_eq_true (by first | (with_reducible assumption) | assumption)
                  have hx6 := bt_at a0 x7_1
                  replace p6 := eq_true p6
                  replace q6 := eq_true q6
                  have p7 : 0 ≤ (x7_1 : Int) := of_decide_eq_true (by first | (with_reducible assumption) | assumption)
                  have q7 : x7_1 < (a0.size : Int) := of_decide_eq_true (by first | (with_reducible assumption) | assumption)
                  have hx7 := bt_at a0 x7_1
                  replace p7 := eq_true p7
                  replace q7 := eq_true q7
                  go_wp2
                  go_ret3
                  exact ⟨by first | rfl | (simp; done) | (simp [*]; done) | (simp; exact bne_nil_isEmpty _) | exact bne_nil_isEmpty _ | (simp; exact (bne_nil_isEmpty _).symm) | (simp; exact bne_nil_isEmpty' _), by repeat (first | exact Drawn0.refl _ | apply Drawn0.step)⟩
              · rw [if_neg c8] at H
                have c8b0 : decide ((bt a0 x7_1) < 128) = false := decide_eq_false c8
                clear c8
                have H' := Aside0.mk H
                clear H
                have p6 : 0 ≤ (x7_1 : Int) := of_decide_eq_true (by first | (with_reducible assumption) | assumption)
                have q6 : x7_1 < (a0.size : Int) := of_decide_eq_true (by first | (with_reducible assumption) | assumption)
                have hx6 := bt_at a0 x7_1
                replace p6 := eq_true p6
                replace q6 := eq_true q6
                have p7 : 0 ≤ (x7_1 : Int) := of_decide_eq_true (by first | (with_reducible assumption) | assumption)
                have q7 : x7_1 < (a0.size : Int) := of_decide_eq_true (by first | (with_reducible assumption) | assumption)
                have hx7 := bt_at a0 x7_1
                replace p7 := eq_true p7
                replace q7 := eq_true q7
                go_wp2
                go_roundg k1
                case measure => have := HK1.out; omega
                case rel => exact ⟨(wrap64 (x5_1 + (wrap64 ((wrap64 (Int.tmod (bt a0 x7_1) 128)) * x6_1)))), (wrap64 (x6_1 * 128)), (wrap64 (x7_1 + 1)), (by first | rfl | (simp; done) | (simp [*]; done) | (simp; exact bne_nil_isEmpty _) | exact bne_nil_isEmpty _ | (simp; exact (bne_nil_isEmpty _).symm) | (simp; exact bne_nil_isEmpty' _)), (by first | rfl | (simp; done) | (simp [*]; done) | (simp; exact bne_nil_isEmpty _) | exact bne_nil_isEmpty _ | (simp; exact (bne_nil_isEmpty _).symm) | (simp; exact bne_nil_isEmpty' _)), (by first | rfl | (simp; done) | (simp [*]; done) | (simp; exact bne_nil_isEmpty _) | exact bne_nil_isEmpty _ | (simp; exact (bne_nil_isEmpty _).symm) | (simp; exact bne_nil_isEmpty' _)), H', ⟨by have := HK1.out; omega⟩, by repeat (first | exact Drawn0.refl _ | apply Drawn0.step)⟩
            · rw [if_neg c5] at H
              exact absurd H (by simp)
          · rw [if_neg c4] at H
            exact absurd H (by simp)
      · rw [if_neg c2] at H
        have c2b0 : decide (x7_1 < 4) = false := decide_eq_false c2
        clear c2
        simp only [Option.some.injEq, Prod.mk.injEq] at H
        obtain ⟨rfl, rfl, rfl⟩ := H
        go_wp2
        go_ret3
        exact ⟨by first | rfl | (simp; done) | (simp [*]; done) | (simp; exact bne_nil_isEmpty _) | exact bne_nil_isEmpty _ | (simp; exact (bne_nil_isEmpty _).symm) | (simp; exact bne_nil_isEmpty' _), by repeat (first | exact Drawn0.refl _ | apply Drawn0.step)⟩

end Go.Proofs.Ytngmipfobcaojaa.HA
end

-- YtngmipfobcaojaaHA50
section
-- Written by hp.py (a driver over the kit's print). Not trusted: Lean checks it.
namespace Go.Proofs.Ytngmipfobcaojaa.HA
open Go.RowKit Go.Proofs.YtngmipfobcaojaaW.PrintWords Go.Proofs.YtngmipfobcaojaaW.PrintLast Go.Proofs.YtngmipfobcaojaaW.PrintMore
attribute [local go_sem] max2_int min2_int max_two min_two max_three min_three max_four min_four   -- for this text's walks alone
set_option linter.unusedVariables false
set_option linter.unusedSimpArgs false

/-! ### polyglotlaw05_behind: function 21 -/
def polyglotlaw05_behind.f (k : Nat) (a0 : ByteArray) : Option (ByteArray) := (polyglotref02_Read.f k a0).bind fun bt225 => (if 0 ≤ bt225.2.1 then (if bt225.2.1 ≤ (a0.size : Int) then (some (a0.extract (bt225.2.1 : Int).toNat a0.size)) else (none)) else (none))
theorem polyglotlaw05_behind.mono : ∀ a0 k, LeO (polyglotlaw05_behind.f k a0) (polyglotlaw05_behind.f (k + 1) a0) := by
  intro a0 k
  unfold polyglotlaw05_behind.f
  repeat' first
      | (with_reducible exact polyglotref02_Read.mono _ _)
      | (with_reducible exact LeO.refl _)
      | (with_reducible exact LeO.none _)
      | (with_reducible refine LeO.ite ?_ ?_)
      | (with_reducible refine LeO.bind ?_ (fun _ => ?_))
      | exact polyglotref02_Read.mono _ _
      | exact LeO.none _
      | refine LeO.ite ?_ ?_
      | refine LeO.bind ?_ (fun _ => ?_)
set_option maxHeartbeats 8000000 in
set_option maxRecDepth 100000 in
theorem polyglotlaw05_behind.calls (k : Nat) (a0 : ByteArray) (r : ByteArray) (w : World) (h : polyglotlaw05_behind.f k a0 = some r) :
    Calls Try.prog 21 #[.string a0] w fun e w' => e = .returned (.string r) ∧ Drawn0 w w' := by
  have H : ((polyglotref02_Read.f k a0).bind fun bt225 => (if 0 ≤ bt225.2.1 then (if bt225.2.1 ≤ (a0.size : Int) then (some (a0.extract (bt225.2.1 : Int).toNat a0.size)) else (none)) else (none))) = some r := h
  clear h
  replace H := Option.bind_eq_some_iff.mp H
  obtain ⟨⟨t225, t226, t227⟩, A20, H⟩ := H
  replace H : (if 0 ≤ t226 then (if t226 ≤ (a0.size : Int) then (some (a0.extract (t226 : Int).toNat a0.size)) else (none)) else (none)) = some r := H
  have A2 := Aside0.mk A20
  clear A20
  by_cases c3 : 0 ≤ t226
  · rw [if_pos c3] at H
    have c3b0 := eq_true c3
    have c3b1 : decide (0 ≤ t226) = true := decide_eq_true c3
    clear c3
    by_cases c4 : t226 ≤ (a0.size : Int)
    · rw [if_pos c4] at H
      have c4b0 := eq_true c4
      have c4b1 : decide (t226 ≤ (a0.size : Int)) = true := decide_eq_true c4
      clear c4
      obtain rfl := Option.some.inj H
      go_enter Try.func21, Try.ntmps21
      go_wp2_with (first | ((with_reducible refine gate_callee (f := 42) rfl ?_); refine goesL_ (some 8) rfl rfl Try.func42 (by kernel_rfl) rfl #[.string a0] rfl (by (try simp only [List.map_toArray, List.map_cons, List.map_nil]); first | done | rfl | (simp only [List.length_drop, List.length_take]; rfl)) ?_; (with_reducible refine (polyglotref02_Read.calls k a0 t225 t226 t227 _ A2.out).mono ?_); rintro e w' ⟨rfl, ⟨nd, rfl⟩⟩; refine ⟨_, rfl, ?_⟩))
      go_ret
      exact ⟨by first | rfl | (simp; done) | (simp [*]; done) | (simp; exact bne_nil_isEmpty _) | exact bne_nil_isEmpty _ | (simp; exact (bne_nil_isEmpty _).symm) | (simp; exact bne_nil_isEmpty' _), by repeat (first | exact Drawn0.refl _ | apply Drawn0.step)⟩
    · rw [if_neg c4] at H
      exact absurd H (by simp)
  · rw [if_neg c3] at H
    exact absurd H (by simp)

end Go.Proofs.Ytngmipfobcaojaa.HA
end

-- YtngmipfobcaojaaHA51
section
-- Written by hp.py (a driver over the kit's print). Not trusted: Lean checks it.
namespace Go.Proofs.Ytngmipfobcaojaa.HA
open Go.RowKit Go.Proofs.YtngmipfobcaojaaW.PrintWords Go.Proofs.YtngmipfobcaojaaW.PrintLast Go.Proofs.YtngmipfobcaojaaW.PrintMore
attribute [local go_sem] max2_int min2_int max_two min_two max_three min_three max_four min_four   -- for this text's walks alone
set_option linter.unusedVariables false
set_option linter.unusedSimpArgs false

/-! ### polyglotlaw05_PropHalves: function 5 -/
mutual
def polyglotlaw05_PropHalves.j0 : Nat → Int → List (S27) → Int → Bool → Option (Bool)
  | 0, _, _, _, _ => none
  | k + 1, x0, x1, x2, x26 => if x26 = true then (some true) else ((polyglotkit_Pick.f x2 (wrap64 ((x1.length : Int) + 1))).bind fun t231 => ((prop_Bytes.f x0 x1).bind fun bt232 => (if 0 ≤ t231 then (if t231 ≤ (x1.length : Int) then ((api_Prop_17.f (x1.take (t231 : Int).toNat)).bind fun t238 => ((prop_Bytes.f x0 t238).bind fun bt241 => ((api_Prop_17.f (x1.drop (t231 : Int).toNat)).bind fun t247 => ((prop_Bytes.f x0 t247).bind fun bt250 => (if bt232.2 = 0 then (if bt241.2 = 0 then (polyglotlaw05_PropHalves.j1 k x1 bt232.1 bt232.2 bt241.1 bt241.2 bt250.1 bt250.2 (bt250.2 != 0)) else (polyglotlaw05_PropHalves.j1 k x1 bt232.1 bt232.2 bt241.1 bt241.2 bt250.1 bt250.2 true)) else (polyglotlaw05_PropHalves.j1 k x1 bt232.1 bt232.2 bt241.1 bt241.2 bt250.1 bt250.2 true)))))) else (none)) else (none))))
def polyglotlaw05_PropHalves.j1 : Nat → List (S27) → ByteArray → Int → ByteArray → Int → ByteArray → Int → Bool → Option (Bool)
  | 0, _, _, _, _, _, _, _, _ => none
  | k + 1, x1, x8, x9, x10, x11, x12, x13, x65 => if x65 = true then ((prop_Get.f k x1 22).bind fun bt252 => (if x9 = 0 then (if bt252.2.2.2.2 = true then (if x11 = 0 then (if x13 = 0 then (some true) else (some (x13 == 9))) else (if x11 = 9 then (if x13 = 0 then (some true) else (some (x13 == 9))) else (some false))) else (some false)) else (some false))) else ((polyglotlaw05_behind.f k x8).bind fun t258 => ((polyglotlaw05_behind.f k x10).bind fun t259 => ((polyglotlaw05_behind.f k x12).bind fun t260 => (if t259.size + t260.size ≤ 9223372036854775807 then (some (t258.toList == (t259 ++ t260).toList)) else (none)))))
end
def polyglotlaw05_PropHalves.f (k : Nat) (a0 : Int) (l1 : List (S27)) (a2 : Int) : Option (Bool) := (polyglotlaw05_lives.f).bind fun t228 => (if t228 = true then ((polyglotkit_LightProps.f k l1).bind fun t229 => (if t229 = true then ((prop_Valid.f a0 l1).bind fun t230 => (polyglotlaw05_PropHalves.j0 k a0 l1 a2 (t230 != 0))) else (polyglotlaw05_PropHalves.j0 k a0 l1 a2 true))) else (some false))
theorem polyglotlaw05_PropHalves.mono_l : ∀ k, (∀ y0 y1 y2 y3, LeO (polyglotlaw05_PropHalves.j0 k y0 y1 y2 y3) (polyglotlaw05_PropHalves.j0 (k + 1) y0 y1 y2 y3)) ∧ (∀ y0 y1 y2 y3 y4 y5 y6 y7, LeO (polyglotlaw05_PropHalves.j1 k y0 y1 y2 y3 y4 y5 y6 y7) (polyglotlaw05_PropHalves.j1 (k + 1) y0 y1 y2 y3 y4 y5 y6 y7))
  | 0 => ⟨fun _ _ _ _ r h => by simp [polyglotlaw05_PropHalves.j0] at h, fun _ _ _ _ _ _ _ _ r h => by simp [polyglotlaw05_PropHalves.j1] at h⟩
  | k + 1 => by
    obtain ⟨ih0, ih1⟩ := polyglotlaw05_PropHalves.mono_l k
    refine ⟨?_, ?_⟩
    · intro y0 y1 y2 y3
      unfold polyglotlaw05_PropHalves.j0
      repeat' first
      | (with_reducible exact ih0 _ _ _ _)
      | (with_reducible exact ih1 _ _ _ _ _ _ _ _)
      | (with_reducible exact polyglotkit_LightProps.mono _ _)
      | (with_reducible exact polyglotlaw05_behind.mono _ _)
      | (with_reducible exact prop_Get.mono _ _ _)
      | (with_reducible exact LeO.refl _)
      | (with_reducible exact LeO.none _)
      | (with_reducible refine LeO.ite ?_ ?_)
      | (with_reducible refine LeO.bind ?_ (fun _ => ?_))
      | exact ih0 _ _ _ _
      | exact ih1 _ _ _ _ _ _ _ _
      | exact polyglotkit_LightProps.mono _ _
      | exact polyglotlaw05_behind.mono _ _
      | exact prop_Get.mono _ _ _
      | exact LeO.none _
      | refine LeO.ite ?_ ?_
      | refine LeO.bind ?_ (fun _ => ?_)
    · intro y0 y1 y2 y3 y4 y5 y6 y7
      unfold polyglotlaw05_PropHalves.j1
      repeat' first
      | (with_reducible exact ih0 _ _ _ _)
      | (with_reducible exact ih1 _ _ _ _ _ _ _ _)
      | (with_reducible exact polyglotkit_LightProps.mono _ _)
      | (with_reducible exact polyglotlaw05_behind.mono _ _)
      | (with_reducible exact prop_Get.mono _ _ _)
      | (with_reducible exact LeO.refl _)
      | (with_reducible exact LeO.none _)
      | (with_reducible refine LeO.ite ?_ ?_)
      | (with_reducible refine LeO.bind ?_ (fun _ => ?_))
      | exact ih0 _ _ _ _
      | exact ih1 _ _ _ _ _ _ _ _
      | exact polyglotkit_LightProps.mono _ _
      | exact polyglotlaw05_behind.mono _ _
      | exact prop_Get.mono _ _ _
      | exact LeO.none _
      | refine LeO.ite ?_ ?_
      | refine LeO.bind ?_ (fun _ => ?_)
theorem polyglotlaw05_PropHalves.mono : ∀ a0 a1 a2 k, LeO (polyglotlaw05_PropHalves.f k a0 a1 a2) (polyglotlaw05_PropHalves.f (k + 1) a0 a1 a2) := by
  intro a0 a1 a2 k
  obtain ⟨ih0, ih1⟩ := polyglotlaw05_PropHalves.mono_l k
  unfold polyglotlaw05_PropHalves.f
  repeat' first
      | (with_reducible exact ih0 _ _ _ _)
      | (with_reducible exact ih1 _ _ _ _ _ _ _ _)
      | (with_reducible exact polyglotkit_LightProps.mono _ _)
      | (with_reducible exact polyglotlaw05_behind.mono _ _)
      | (with_reducible exact prop_Get.mono _ _ _)
      | (with_reducible exact LeO.refl _)
      | (with_reducible exact LeO.none _)
      | (with_reducible refine LeO.ite ?_ ?_)
      | (with_reducible refine LeO.bind ?_ (fun _ => ?_))
      | exact ih0 _ _ _ _
      | exact ih1 _ _ _ _ _ _ _ _
      | exact polyglotkit_LightProps.mono _ _
      | exact polyglotlaw05_behind.mono _ _
      | exact prop_Get.mono _ _ _
      | exact LeO.none _
      | refine LeO.ite ?_ ?_
      | refine LeO.bind ?_ (fun _ => ?_)
set_option maxHeartbeats 8000000 in
set_option maxRecDepth 100000 in
theorem polyglotlaw05_PropHalves.calls (k : Nat) (a0 : Int) (A1 : Option Addr) (c1 : Nat) (l1 : List (S27)) (a2 : Int) (r : Bool) (w : World) (hr1 : Kd.C k27 w A1 l1.length l1) (hc1 : l1.length ≤ c1) (h : polyglotlaw05_PropHalves.f k a0 l1 a2 = some r) :
    Calls Try.prog 5 #[.int .i64 a0, .slice A1 l1.length c1, .int .i64 a2] w fun e w' => e = .returned (.bool r) ∧ Below w.heap.size w w' := by
  have hu27 := Try.underlying27
  have HR1 := Aside0.mk hr1
  have HC1 := Aside0.mk hc1
  clear hr1 hc1
  have HB := Aside0.mk (Below.refl w.heap.size w)
  have H : ((polyglotlaw05_lives.f).bind fun t228 => (if t228 = true then ((polyglotkit_LightProps.f k l1).bind fun t229 => (if t229 = true then ((prop_Valid.f a0 l1).bind fun t230 => (polyglotlaw05_PropHalves.j0 k a0 l1 a2 (t230 != 0))) else (polyglotlaw05_PropHalves.j0 k a0 l1 a2 true))) else (some false))) = some r := h
  clear h
  replace H := Option.bind_eq_some_iff.mp H
  obtain ⟨t228, A40, H⟩ := H
  replace H : (if t228 = true then ((polyglotkit_LightProps.f k l1).bind fun t229 => (if t229 = true then ((prop_Valid.f a0 l1).bind fun t230 => (polyglotlaw05_PropHalves.j0 k a0 l1 a2 (t230 != 0))) else (polyglotlaw05_PropHalves.j0 k a0 l1 a2 true))) else (some false)) = some r := H
  have A4 := Aside0.mk A40
  clear A40
  by_cases c5 : t228 = true
  · subst c5
    have H1 : ((polyglotkit_LightProps.f k l1).bind fun t229 => (if t229 = true then ((prop_Valid.f a0 l1).bind fun t230 => (polyglotlaw05_PropHalves.j0 k a0 l1 a2 (t230 != 0))) else (polyglotlaw05_PropHalves.j0 k a0 l1 a2 true))) = some r := by rw [if_pos rfl] at H; exact H
    clear H
    have H := H1
    clear H1
    have HC6 := Aside0.mk H
    clear H
    go_enter Try.func5, Try.ntmps5
    go_upto_region 3 with (first | ((with_reducible refine gate_callee (f := 11) rfl ?_); refine goesL_ (some 16) rfl rfl Try.func11 (by kernel_rfl) rfl #[] rfl (by (try simp only [List.map_toArray, List.map_cons, List.map_nil]); first | done | rfl | (simp only [List.length_drop, List.length_take]; rfl)) ?_; (with_reducible refine (polyglotlaw05_lives.calls  true _ A4.out).mono ?_); rintro e w7 ⟨rfl, hb⟩; refine ⟨_, rfl, ?_⟩; have n0_ := Aside0.mk (below_step (by repeat (first | (with_reducible first | exact HB.out | apply below_alloc | apply pw_below_drewN | apply below_drew1) | exact HB.out)) hb); clear HB; have HB := n0_; clear n0_; (try clear hb); (try clear hb2); (try clear hk); (try clear hi)))
    (try simp only [Act.put, List.setIfInBounds_toArray, List.set_cons_zero, List.set_cons_succ])
    go_cut [26] (fun v26 wc => ∃ (kq : Nat) (x26_5 : Bool), v26 = .bool x26_5 ∧ Aside0 (polyglotlaw05_PropHalves.j0 kq a0 l1 a2 x26_5 = some r) ∧ Aside0 (kq ≤ k) ∧ Aside0 (Below w.heap.size w wc))
    case first =>
      have H := HC6.out
      clear HC6
      replace H := Option.bind_eq_some_iff.mp H
      obtain ⟨t229, A80, H⟩ := H
      replace H : (if t229 = true then ((prop_Valid.f a0 l1).bind fun t230 => (polyglotlaw05_PropHalves.j0 k a0 l1 a2 (t230 != 0))) else (polyglotlaw05_PropHalves.j0 k a0 l1 a2 true)) = some r := H
      have A8 := Aside0.mk A80
      clear A80
      by_cases c9 : t229 = true
      · subst c9
        have H1 : ((prop_Valid.f a0 l1).bind fun t230 => (polyglotlaw05_PropHalves.j0 k a0 l1 a2 (t230 != 0))) = some r := by rw [if_pos rfl] at H; exact H
        clear H
        have H := H1
        clear H1
        replace H := Option.bind_eq_some_iff.mp H
        obtain ⟨t230, A100, H⟩ := H
        replace H : (polyglotlaw05_PropHalves.j0 k a0 l1 a2 (t230 != 0)) = some r := H
        have A10 := Aside0.mk A100
        clear A100
        have H' := Aside0.mk H
        clear H
        go_wp2_with (first | ((with_reducible refine gate_callee (f := 15) rfl ?_); refine goesL_ (some 19) rfl rfl Try.func15 (by kernel_rfl) rfl #[.slice A1 l1.length c1] rfl (by (try simp only [List.map_toArray, List.map_cons, List.map_nil]); first | done | rfl | (simp only [List.length_drop, List.length_take]; rfl)) ?_; (with_reducible refine (polyglotkit_LightProps.calls k _ _ l1 true _ ?side1 ?side2 A8.out).mono ?_); (case side1 => repeat (first | exact (Kd.C_below HR1.out HB.out) | (with_reducible refine Kd.C_alloc ?_ _) | (with_reducible refine Kd.C_drewN ?_ _) | (with_reducible refine Kd.C_drew ?_))); (case side2 => exact HC1.out); rintro e w' ⟨rfl, ⟨nd, rfl⟩⟩; refine ⟨_, rfl, ?_⟩) | (go_at_call 16; (with_reducible refine (prop_Valid.calls a0 _ _ l1 t230 _ ?side1 ?side2 A10.out).mono ?_); (case side1 => repeat (first | exact (Kd.C_below HR1.out (by repeat (first | (with_reducible first | exact HB.out | apply below_alloc | apply pw_below_drewN | apply below_drew1) | exact HB.out))) | (with_reducible refine Kd.C_alloc ?_ _) | (with_reducible refine Kd.C_drewN ?_ _) | (with_reducible refine Kd.C_drew ?_))); (case side2 => exact HC1.out); rintro e w11 ⟨rfl, hb⟩; have n0_ := Aside0.mk (below_step (by repeat (first | (with_reducible first | exact HB.out | apply below_alloc | apply pw_below_drewN | apply below_drew1) | exact HB.out)) hb); clear HB; have HB := n0_; clear n0_; (try clear hb); (try clear hb2); (try clear hk); (try clear hi)))
        go_meet
        case rel => exact ⟨_, ((t230 != 0)), (by first | rfl | (simp; done) | (simp [*]; done) | (simp; exact bne_nil_isEmpty _) | exact bne_nil_isEmpty _ | (simp; exact (bne_nil_isEmpty _).symm) | (simp; exact bne_nil_isEmpty' _)), H', ⟨by first | omega | exact Nat.le_refl _⟩, ⟨by repeat (first | (with_reducible first | exact HB.out | apply below_alloc | apply pw_below_drewN | apply below_drew1) | exact HB.out)⟩⟩
      · replace c9 := Bool.eq_false_iff.mpr c9
        subst c9
        have H1 : (polyglotlaw05_PropHalves.j0 k a0 l1 a2 true) = some r := by rw [if_neg (show ¬ (false = true) by decide)] at H; exact H
        clear H
        have H := H1
        clear H1
        have H' := Aside0.mk H
        clear H
        go_wp2_with (first | ((with_reducible refine gate_callee (f := 15) rfl ?_); refine goesL_ (some 19) rfl rfl Try.func15 (by kernel_rfl) rfl #[.slice A1 l1.length c1] rfl (by (try simp only [List.map_toArray, List.map_cons, List.map_nil]); first | done | rfl | (simp only [List.length_drop, List.length_take]; rfl)) ?_; (with_reducible refine (polyglotkit_LightProps.calls k _ _ l1 false _ ?side1 ?side2 A8.out).mono ?_); (case side1 => repeat (first | exact (Kd.C_below HR1.out HB.out) | (with_reducible refine Kd.C_alloc ?_ _) | (with_reducible refine Kd.C_drewN ?_ _) | (with_reducible refine Kd.C_drew ?_))); (case side2 => exact HC1.out); rintro e w' ⟨rfl, ⟨nd, rfl⟩⟩; refine ⟨_, rfl, ?_⟩))
        go_meet
        case rel => exact ⟨_, (true), (by first | rfl | (simp; done) | (simp [*]; done) | (simp; exact bne_nil_isEmpty _) | exact bne_nil_isEmpty _ | (simp; exact (bne_nil_isEmpty _).symm) | (simp; exact bne_nil_isEmpty' _)), H', ⟨by first | omega | exact Nat.le_refl _⟩, ⟨by repeat (first | (with_reducible first | exact HB.out | apply below_alloc | apply pw_below_drewN | apply below_drew1) | exact HB.out)⟩⟩
    case rest =>
      clear HC6
      try clear c1
      try clear p2
      try clear c5
      try clear c9
      try clear c11
      obtain ⟨kq, x26_5, rfl, HA, HJ5, HB⟩ := hcut
      cases kq with
      | zero => exact absurd HA.out (by simp [polyglotlaw05_PropHalves.j0])
      | succ kj5 =>
        have H := HA.out
        clear HA
        simp only [polyglotlaw05_PropHalves.j0] at H
        by_cases c12 : x26_5 = true
        · subst c12
          have H1 : (some true) = some r := by rw [if_pos rfl] at H; exact H
          clear H
          have H := H1
          clear H1
          obtain rfl := Option.some.inj H
          go_wp2
          go_ret
          exact ⟨by first | rfl | (simp [errW_none, errW_some] <;> rfl) | (simp [*, errW_none, errW_some] <;> rfl), by repeat (first | (with_reducible first | exact HB.out | apply below_alloc | apply pw_below_drewN | apply below_drew1) | exact HB.out)⟩
        · replace c12 := Bool.eq_false_iff.mpr c12
          subst c12
          have H1 : ((polyglotkit_Pick.f a2 (wrap64 ((l1.length : Int) + 1))).bind fun t231 => ((prop_Bytes.f a0 l1).bind fun bt232 => (if 0 ≤ t231 then (if t231 ≤ (l1.length : Int) then ((api_Prop_17.f (l1.take (t231 : Int).toNat)).bind fun t238 => ((prop_Bytes.f a0 t238).bind fun bt241 => ((api_Prop_17.f (l1.drop (t231 : Int).toNat)).bind fun t247 => ((prop_Bytes.f a0 t247).bind fun bt250 => (if bt232.2 = 0 then (if bt241.2 = 0 then (polyglotlaw05_PropHalves.j1 kj5 l1 bt232.1 bt232.2 bt241.1 bt241.2 bt250.1 bt250.2 (bt250.2 != 0)) else (polyglotlaw05_PropHalves.j1 kj5 l1 bt232.1 bt232.2 bt241.1 bt241.2 bt250.1 bt250.2 true)) else (polyglotlaw05_PropHalves.j1 kj5 l1 bt232.1 bt232.2 bt241.1 bt241.2 bt250.1 bt250.2 true)))))) else (none)) else (none)))) = some r := by rw [if_neg (show ¬ (false = true) by decide)] at H; exact H
          clear H
          have H := H1
          clear H1
          replace H := Option.bind_eq_some_iff.mp H
          obtain ⟨t231, A130, H⟩ := H
          replace H : ((prop_Bytes.f a0 l1).bind fun bt232 => (if 0 ≤ t231 then (if t231 ≤ (l1.length : Int) then ((api_Prop_17.f (l1.take (t231 : Int).toNat)).bind fun t238 => ((prop_Bytes.f a0 t238).bind fun bt241 => ((api_Prop_17.f (l1.drop (t231 : Int).toNat)).bind fun t247 => ((prop_Bytes.f a0 t247).bind fun bt250 => (if bt232.2 = 0 then (if bt241.2 = 0 then (polyglotlaw05_PropHalves.j1 kj5 l1 bt232.1 bt232.2 bt241.1 bt241.2 bt250.1 bt250.2 (bt250.2 != 0)) else (polyglotlaw05_PropHalves.j1 kj5 l1 bt232.1 bt232.2 bt241.1 bt241.2 bt250.1 bt250.2 true)) else (polyglotlaw05_PropHalves.j1 kj5 l1 bt232.1 bt232.2 bt241.1 bt241.2 bt250.1 bt250.2 true)))))) else (none)) else (none))) = some r := H
          have A13 := Aside0.mk A130
          clear A130
          replace H := Option.bind_eq_some_iff.mp H
          obtain ⟨⟨t232, t233⟩, A140, H⟩ := H
          replace H : (if 0 ≤ t231 then (if t231 ≤ (l1.length : Int) then ((api_Prop_17.f (l1.take (t231 : Int).toNat)).bind fun t238 => ((prop_Bytes.f a0 t238).bind fun bt241 => ((api_Prop_17.f (l1.drop (t231 : Int).toNat)).bind fun t247 => ((prop_Bytes.f a0 t247).bind fun bt250 => (if t233 = 0 then (if bt241.2 = 0 then (polyglotlaw05_PropHalves.j1 kj5 l1 t232 t233 bt241.1 bt241.2 bt250.1 bt250.2 (bt250.2 != 0)) else (polyglotlaw05_PropHalves.j1 kj5 l1 t232 t233 bt241.1 bt241.2 bt250.1 bt250.2 true)) else (polyglotlaw05_PropHalves.j1 kj5 l1 t232 t233 bt241.1 bt241.2 bt250.1 bt250.2 true)))))) else (none)) else (none)) = some r := H
          have A14 := Aside0.mk A140
          clear A140
          by_cases c15 : 0 ≤ t231
          · rw [if_pos c15] at H
            have c15b0 := eq_true c15
            have c15b1 : decide (0 ≤ t231) = true := decide_eq_true c15
            clear c15
            by_cases c16 : t231 ≤ (l1.length : Int)
            · rw [if_pos c16] at H
              have c16b0 := eq_true c16
              have c16b1 : decide (t231 ≤ (l1.length : Int)) = true := decide_eq_true c16
              clear c16
              obtain ⟨y234, hy234⟩ : ∃ y_ : List (S27), y_ = (l1.take (t231 : Int).toNat) := ⟨_, rfl⟩
              replace H : ((api_Prop_17.f y234).bind fun t238 => ((prop_Bytes.f a0 t238).bind fun bt241 => ((api_Prop_17.f (l1.drop (t231 : Int).toNat)).bind fun t247 => ((prop_Bytes.f a0 t247).bind fun bt250 => (if t233 = 0 then (if bt241.2 = 0 then (polyglotlaw05_PropHalves.j1 kj5 l1 t232 t233 bt241.1 bt241.2 bt250.1 bt250.2 (bt250.2 != 0)) else (polyglotlaw05_PropHalves.j1 kj5 l1 t232 t233 bt241.1 bt241.2 bt250.1 bt250.2 true)) else (polyglotlaw05_PropHalves.j1 kj5 l1 t232 t233 bt241.1 bt241.2 bt250.1 bt250.2 true)))))) = some r := by first | (rw [hy234]; with_reducible exact H) | (have H2_ := (Option.bind_some _ _).symm.trans H; rw [hy234]; with_reducible exact H2_) | (have H2_ := (Option.bind_some _ _).symm.trans H; with_reducible exact H2_) | with_reducible exact H | (rw [hy234]; exact H) | exact H
              have Ny234 := Aside0.mk hy234
              clear hy234
              replace H := Option.bind_eq_some_iff.mp H
              obtain ⟨t238, A170, H⟩ := H
              replace H : ((prop_Bytes.f a0 t238).bind fun bt241 => ((api_Prop_17.f (l1.drop (t231 : Int).toNat)).bind fun t247 => ((prop_Bytes.f a0 t247).bind fun bt250 => (if t233 = 0 then (if bt241.2 = 0 then (polyglotlaw05_PropHalves.j1 kj5 l1 t232 t233 bt241.1 bt241.2 bt250.1 bt250.2 (bt250.2 != 0)) else (polyglotlaw05_PropHalves.j1 kj5 l1 t232 t233 bt241.1 bt241.2 bt250.1 bt250.2 true)) else (polyglotlaw05_PropHalves.j1 kj5 l1 t232 t233 bt241.1 bt241.2 bt250.1 bt250.2 true))))) = some r := H
              have A17 := Aside0.mk A170
              clear A170
              replace H := Option.bind_eq_some_iff.mp H
              obtain ⟨⟨t241, t242⟩, A180, H⟩ := H
              replace H : ((api_Prop_17.f (l1.drop (t231 : Int).toNat)).bind fun t247 => ((prop_Bytes.f a0 t247).bind fun bt250 => (if t233 = 0 then (if t242 = 0 then (polyglotlaw05_PropHalves.j1 kj5 l1 t232 t233 t241 t242 bt250.1 bt250.2 (bt250.2 != 0)) else (polyglotlaw05_PropHalves.j1 kj5 l1 t232 t233 t241 t242 bt250.1 bt250.2 true)) else (polyglotlaw05_PropHalves.j1 kj5 l1 t232 t233 t241 t242 bt250.1 bt250.2 true)))) = some r := H
              have A18 := Aside0.mk A180
              clear A180
              have c19b0 := eq_true (of_decide_eq_true (by first | (with_reducible assumption) | assumption) : 0 ≤ t231)
              have c20b0 := eq_true (of_decide_eq_true (by first | (with_reducible assumption) | assumption) : t231 ≤ (l1.length : Int))
              obtain ⟨y243, hy243⟩ : ∃ y_ : List (S27), y_ = (l1.drop (t231 : Int).toNat) := ⟨_, rfl⟩
              replace H : ((api_Prop_17.f y243).bind fun t247 => ((prop_Bytes.f a0 t247).bind fun bt250 => (if t233 = 0 then (if t242 = 0 then (polyglotlaw05_PropHalves.j1 kj5 l1 t232 t233 t241 t242 bt250.1 bt250.2 (bt250.2 != 0)) else (polyglotlaw05_PropHalves.j1 kj5 l1 t232 t233 t241 t242 bt250.1 bt250.2 true)) else (polyglotlaw05_PropHalves.j1 kj5 l1 t232 t233 t241 t242 bt250.1 bt250.2 true)))) = some r := by first | (rw [hy243]; with_reducible exact H) | (have H2_ := (Option.bind_some _ _).symm.trans H; rw [hy243]; with_reducible exact H2_) | (have H2_ := (Option.bind_some _ _).symm.trans H; with_reducible exact H2_) | with_reducible exact H | (rw [hy243]; exact H) | exact H
              have Ny243 := Aside0.mk hy243
              clear hy243
              replace H := Option.bind_eq_some_iff.mp H
              obtain ⟨t247, A210, H⟩ := H
              replace H : ((prop_Bytes.f a0 t247).bind fun bt250 => (if t233 = 0 then (if t242 = 0 then (polyglotlaw05_PropHalves.j1 kj5 l1 t232 t233 t241 t242 bt250.1 bt250.2 (bt250.2 != 0)) else (polyglotlaw05_PropHalves.j1 kj5 l1 t232 t233 t241 t242 bt250.1 bt250.2 true)) else (polyglotlaw05_PropHalves.j1 kj5 l1 t232 t233 t241 t242 bt250.1 bt250.2 true))) = some r := H
              have A21 := Aside0.mk A210
              clear A210
              replace H := Option.bind_eq_some_iff.mp H
              obtain ⟨⟨t250, t251⟩, A220, H⟩ := H
              replace H : (if t233 = 0 then (if t242 = 0 then (polyglotlaw05_PropHalves.j1 kj5 l1 t232 t233 t241 t242 t250 t251 (t251 != 0)) else (polyglotlaw05_PropHalves.j1 kj5 l1 t232 t233 t241 t242 t250 t251 true)) else (polyglotlaw05_PropHalves.j1 kj5 l1 t232 t233 t241 t242 t250 t251 true)) = some r := H
              have A22 := Aside0.mk A220
              clear A220
              have HC23 := Aside0.mk H
              clear H
              go_upto_region 9 with (first | ((with_reducible refine gate_callee (f := 12) rfl ?_); refine goesL_ (some 31) rfl rfl Try.func12 (by kernel_rfl) rfl #[.int .i64 a2, .int .i64 (wrap64 ((l1.length : Int) + 1))] rfl (by (try simp only [List.map_toArray, List.map_cons, List.map_nil]); first | done | rfl | (simp only [List.length_drop, List.length_take]; rfl)) ?_; (with_reducible refine (polyglotkit_Pick.calls a2 (wrap64 ((l1.length : Int) + 1)) t231 _ A13.out).mono ?_); rintro e w' ⟨rfl, ⟨nd, rfl⟩⟩; refine ⟨_, rfl, ?_⟩) | ((with_reducible refine gate_callee (f := 18) rfl ?_); refine goesL_ (some 35) rfl rfl Try.func18 (by kernel_rfl) rfl #[.int .i64 a0, .slice A1 l1.length c1] rfl (by (try simp only [List.map_toArray, List.map_cons, List.map_nil]); first | done | rfl | (simp only [List.length_drop, List.length_take]; rfl)) ?_; (with_reducible refine (prop_Bytes.calls a0 _ _ l1 t232 t233 _ ?side1 ?side2 A14.out).mono ?_); (case side1 => repeat (first | exact (Kd.C_below HR1.out (by repeat (first | (with_reducible first | exact HB.out | apply below_alloc | apply pw_below_drewN | apply below_drew1) | exact HB.out))) | (with_reducible refine Kd.C_alloc ?_ _) | (with_reducible refine Kd.C_drewN ?_ _) | (with_reducible refine Kd.C_drew ?_))); (case side2 => exact HC1.out); rintro e w24 ⟨rfl, hb⟩; refine ⟨_, rfl, ?_⟩; have n0_ := Aside0.mk (below_step (by repeat (first | (with_reducible first | exact HB.out | apply below_alloc | apply pw_below_drewN | apply below_drew1) | exact HB.out)) hb); clear HB; have HB := n0_; clear n0_; (try clear hb); (try clear hb2); (try clear hk); (try clear hi); have q25 : (t231 : Int) ≤ ((l1.length : Int) : Int) := of_decide_eq_true (by first | (with_reducible assumption) | assumption); obtain ⟨i025, hi025, _, hsz25, _⟩ := info_parts info27; have hroom25 : l1.length ≤ c1 := HC1.out; have hC25 : Kd.C k27 _ A1 l1.length l1 := HR1.out; have hcut25 := cut_to (P := Try.prog) 32 27 .i64 Try.underlying32 hi025 A1 l1.length c1 t231 (of_decide_eq_true (by first | (with_reducible assumption) | assumption)) q25 hroom25; have hr25 := Kd.C_take (m := (t231 : Int).toNat) hC25 (by omega); have hy25 : y234.length = (t231 : Int).toNat := (by rw [Ny234.out, List.length_take]; omega); rw [← Ny234.out] at hr25; rw [← hy25] at hcut25; have HR237 := Aside0.mk hr25; have HC237 := Aside0.mk (show y234.length ≤ c1 from by omega); clear hr25 hC25 hroom25 hi025 hsz25; have KY25 := Aside0.mk hy25; clear hy25; replace q25 := eq_true q25) | ((with_reducible refine gate_callee (f := 17) rfl ?_); refine goesL_ (some 43) rfl rfl Try.func17 (by kernel_rfl) rfl #[.slice A1 y234.length c1] rfl (by (try simp only [List.map_toArray, List.map_cons, List.map_nil]); first | done | rfl | (simp only [List.length_drop, List.length_take]; rfl)) ?_; (with_reducible refine (api_Prop_17.calls _ _ y234 t238 _ ?side1 ?side2 A17.out).mono ?_); (case side1 => repeat (first | exact (Kd.C_below HR237.out HB.out) | (with_reducible refine Kd.C_alloc ?_ _) | (with_reducible refine Kd.C_drewN ?_ _) | (with_reducible refine Kd.C_drew ?_))); (case side2 => exact HC237.out); rintro e w26 ⟨v239, rfl, ho0, hb⟩; refine ⟨_, rfl, ?_⟩; have n0_ := Aside0.mk (Kd.R_lower ho0 (below_size (by repeat (first | (with_reducible first | exact HB.out | apply below_alloc | apply pw_below_drewN | apply below_drew1) | exact HB.out)))); have n1_ := Aside0.mk (below_step (by repeat (first | (with_reducible first | exact HB.out | apply below_alloc | apply pw_below_drewN | apply below_drew1) | exact HB.out)) hb); clear HB; have HO240 := n0_; have HB := n1_; clear n0_ n1_; (try clear hb); (try clear hb2); (try clear hk); (try clear hi); (try clear ho0); obtain ⟨Ao27, co27, eo27⟩ := Kd.R_slice HO240.out; subst eo27) | ((with_reducible refine gate_callee (f := 18) rfl ?_); refine goesL_ (some 44) rfl rfl Try.func18 (by kernel_rfl) rfl #[.int .i64 a0, .slice Ao27 t238.length co27] rfl (by (try simp only [List.map_toArray, List.map_cons, List.map_nil]); first | done | rfl | (simp only [List.length_drop, List.length_take]; rfl)) ?_; (with_reducible refine (prop_Bytes.calls a0 _ _ t238 t241 t242 _ ?side1 ?side2 A18.out).mono ?_); (case side1 => repeat (first | exact (Kd.R_reads' HO240.out).2.2 | (with_reducible refine Kd.C_alloc ?_ _) | (with_reducible refine Kd.C_drewN ?_ _) | (with_reducible refine Kd.C_drew ?_))); (case side2 => exact (Kd.R_reads' HO240.out).2.1); rintro e w28 ⟨rfl, hb⟩; refine ⟨_, rfl, ?_⟩; have n0_ := Aside0.mk (Kd.R_below (by (with_reducible repeat (first | apply Kd.R_alloc | apply Kd.R_drewN | apply Kd.R_drew)); exact HO240.out) hb); have n1_ := Aside0.mk (below_step (by repeat (first | (with_reducible first | exact HB.out | apply below_alloc | apply pw_below_drewN | apply below_drew1) | exact HB.out)) hb); clear HO240; clear HB; have HO240 := n0_; have HB := n1_; clear n0_ n1_; (try clear hb); (try clear hb2); (try clear hk); (try clear hi); have q29 : (t231 : Int) ≤ ((l1.length : Int) : Int) := of_decide_eq_true (by first | (with_reducible assumption) | assumption); obtain ⟨i029, hi029, _, hsz29, _⟩ := info_parts info27; have hroom29 : l1.length ≤ c1 := HC1.out; have hC29 : Kd.C k27 _ A1 l1.length l1 := HR1.out; have q029 : (0 : Int) ≤ (t231 : Int) := of_decide_eq_true (by first | (with_reducible assumption) | assumption); have hcut29 := cut_from (P := Try.prog) 32 27 .i64 Try.underlying32 hi029 4 hsz29 A1 l1.length c1 t231 q029 q29; have hr29 := Kd.C_drop (m := (t231 : Int).toNat) (c := c1) hC29 (by omega) hroom29; obtain ⟨A29, hA29⟩ : ∃ X_, X_ = (if c1 = (t231 : Int).toNat then A1 else (A1 : Option Addr).map (·.add ((t231 : Int).toNat * 4))) := ⟨_, rfl⟩; obtain ⟨c29, hc29⟩ : ∃ X_, X_ = c1 - (t231 : Int).toNat := ⟨_, rfl⟩; have hy29 : y243.length = l1.length - (t231 : Int).toNat := (by rw [Ny243.out, List.length_drop] <;> omega); rw [show (l1).drop (t231 : Int).toNat = y243 from Ny243.out.symm] at hr29; replace hr29 : Kd.C k27 _ A29 y243.length y243 := (by rw [hA29]; exact hr29); rw [← hy29, ← hA29, ← hc29] at hcut29; have HR246 := Aside0.mk hr29; have HC246 := Aside0.mk (show y243.length ≤ c29 from by rw [hy29, hc29]; exact Nat.sub_le_sub_right hroom29 _); clear hr29 hC29 hroom29 hi029 hsz29 hc29; have KY29 := Aside0.mk hy29; have KA29 := Aside0.mk hA29; clear hy29 hA29; replace q29 := eq_true q29) | ((with_reducible refine gate_callee (f := 17) rfl ?_); refine goesL_ (some 52) rfl rfl Try.func17 (by kernel_rfl) rfl #[.slice A29 y243.length c29] rfl (by (try simp only [List.map_toArray, List.map_cons, List.map_nil]); first | done | rfl | (simp only [List.length_drop, List.length_take]; rfl)) ?_; (with_reducible refine (api_Prop_17.calls _ _ y243 t247 _ ?side1 ?side2 A21.out).mono ?_); (case side1 => repeat (first | exact (Kd.C_below HR246.out HB.out) | (with_reducible refine Kd.C_alloc ?_ _) | (with_reducible refine Kd.C_drewN ?_ _) | (with_reducible refine Kd.C_drew ?_))); (case side2 => exact HC246.out); rintro e w30 ⟨v248, rfl, ho0, hb⟩; refine ⟨_, rfl, ?_⟩; have n0_ := Aside0.mk (Kd.R_elder' (by (with_reducible repeat (first | apply Kd.R_alloc | apply Kd.R_drewN | apply Kd.R_drew)); exact HO240.out) (Kd.R_base ho0) hb); have n1_ := Aside0.mk (Kd.R_lower (Kd.R_new' ho0 (Kd.R_lt (by (with_reducible repeat (first | apply Kd.R_alloc | apply Kd.R_drewN | apply Kd.R_drew)); exact HO240.out))) (below_size (by repeat (first | (with_reducible first | exact HB.out | apply below_alloc | apply pw_below_drewN | apply below_drew1) | exact HB.out)))); have n2_ := Aside0.mk (below_step (by repeat (first | (with_reducible first | exact HB.out | apply below_alloc | apply pw_below_drewN | apply below_drew1) | exact HB.out)) hb); clear HO240; clear HB; have HO240 := n0_; have HO249 := n1_; have HB := n2_; clear n0_ n1_ n2_; (try clear hb); (try clear hb2); (try clear hk); (try clear hi); (try clear ho0); obtain ⟨Ao31, co31, eo31⟩ := Kd.R_slice HO249.out; subst eo31) | ((with_reducible refine gate_callee (f := 18) rfl ?_); refine goesL_ (some 53) rfl rfl Try.func18 (by kernel_rfl) rfl #[.int .i64 a0, .slice Ao31 t247.length co31] rfl (by (try simp only [List.map_toArray, List.map_cons, List.map_nil]); first | done | rfl | (simp only [List.length_drop, List.length_take]; rfl)) ?_; (with_reducible refine (prop_Bytes.calls a0 _ _ t247 t250 t251 _ ?side1 ?side2 A22.out).mono ?_); (case side1 => repeat (first | exact (Kd.R_reads' HO249.out).2.2 | (with_reducible refine Kd.C_alloc ?_ _) | (with_reducible refine Kd.C_drewN ?_ _) | (with_reducible refine Kd.C_drew ?_))); (case side2 => exact (Kd.R_reads' HO249.out).2.1); rintro e w32 ⟨rfl, hb⟩; refine ⟨_, rfl, ?_⟩; have n0_ := Aside0.mk (Kd.R_below (by (with_reducible repeat (first | apply Kd.R_alloc | apply Kd.R_drewN | apply Kd.R_drew)); exact HO240.out) hb); have n1_ := Aside0.mk (Kd.R_below (by (with_reducible repeat (first | apply Kd.R_alloc | apply Kd.R_drewN | apply Kd.R_drew)); exact HO249.out) hb); have n2_ := Aside0.mk (below_step (by repeat (first | (with_reducible first | exact HB.out | apply below_alloc | apply pw_below_drewN | apply below_drew1) | exact HB.out)) hb); clear HO240; clear HO249; clear HB; have HO240 := n0_; have HO249 := n1_; have HB := n2_; clear n0_ n1_ n2_; (try clear hb); (try clear hb2); (try clear hk); (try clear hi)))
              (try simp only [Act.put, List.setIfInBounds_toArray, List.set_cons_zero, List.set_cons_succ])
              go_cut [65] (fun v65 wc => ∃ (kq : Nat) (x65_22 : Bool), v65 = .bool x65_22 ∧ Aside0 (polyglotlaw05_PropHalves.j1 kq l1 t232 t233 t241 t242 t250 t251 x65_22 = some r) ∧ Aside0 (kq ≤ kj5) ∧ Aside0 (Below w.heap.size w wc))
              case first =>
                have H := HC23.out
                clear HC23
                by_cases c33 : t233 = 0
                · rw [if_pos c33] at H
                  have c33b0 : (t233 == 0) = true := beq_iff_eq.mpr c33
                  have c33b1 : (t233 != 0) = false := bne_eq_false_iff_eq.mpr c33
                  clear c33
                  (first | rw [c33b0] | (simp only [i64_w, i32_w]; rw [c33b0]) | skip)
                  by_cases c34 : t242 = 0
                  · rw [if_pos c34] at H
                    have c34b0 : (t242 == 0) = true := beq_iff_eq.mpr c34
                    have c34b1 : (t242 != 0) = false := bne_eq_false_iff_eq.mpr c34
                    clear c34
                    have H' := Aside0.mk H
                    clear H
                    go_wp2
                    go_meet
                    case rel => exact ⟨_, ((t251 != 0)), (by first | rfl | (simp; done) | (simp [*]; done) | (simp; exact bne_nil_isEmpty _) | exact bne_nil_isEmpty _ | (simp; exact (bne_nil_isEmpty _).symm) | (simp; exact bne_nil_isEmpty' _)), H', ⟨by have := HJ5.out; first | omega | exact Nat.le_refl _⟩, ⟨by repeat (first | (with_reducible first | exact HB.out | apply below_alloc | apply pw_below_drewN | apply below_drew1) | exact HB.out)⟩⟩
                  · rw [if_neg c34] at H
                    have c34b0 : (t242 == 0) = false := beq_eq_false_iff_ne.mpr c34
                    have c34b1 : (t242 != 0) = true := bne_iff_ne.mpr c34
                    have H' := Aside0.mk H
                    clear H
                    go_wp2
                    go_meet
                    case rel => exact ⟨_, (true), (by first | rfl | (simp; done) | (simp [*]; done) | (simp; exact bne_nil_isEmpty _) | exact bne_nil_isEmpty _ | (simp; exact (bne_nil_isEmpty _).symm) | (simp; exact bne_nil_isEmpty' _)), H', ⟨by have := HJ5.out; first | omega | exact Nat.le_refl _⟩, ⟨by repeat (first | (with_reducible first | exact HB.out | apply below_alloc | apply pw_below_drewN | apply below_drew1) | exact HB.out)⟩⟩
                · rw [if_neg c33] at H
                  have c33b0 : (t233 == 0) = false := beq_eq_false_iff_ne.mpr c33
                  have c33b1 : (t233 != 0) = true := bne_iff_ne.mpr c33
                  (first | rw [c33b0] | (simp only [i64_w, i32_w]; rw [c33b0]) | skip)
                  have H' := Aside0.mk H
                  clear H
                  go_wp2
                  go_meet
                  case rel => exact ⟨_, (true), (by first | rfl | (simp; done) | (simp [*]; done) | (simp; exact bne_nil_isEmpty _) | exact bne_nil_isEmpty _ | (simp; exact (bne_nil_isEmpty _).symm) | (simp; exact bne_nil_isEmpty' _)), H', ⟨by have := HJ5.out; first | omega | exact Nat.le_refl _⟩, ⟨by repeat (first | (with_reducible first | exact HB.out | apply below_alloc | apply pw_below_drewN | apply below_drew1) | exact HB.out)⟩⟩
              case rest =>
                clear HC23
                try clear c1
                try clear c2
                try clear p2
                try clear q2
                try clear c3
                try clear c5
                try clear p6
                try clear c9
                try clear c11
                try clear c12
                try clear c15
                try clear c15b0
                try clear c15b1
                try clear c16
                try clear c16b0
                try clear c16b1
                try clear c17
                try clear c18
                try clear c19
                try clear c19b0
                try clear c20
                try clear c20b0
                try clear q25
                try clear c29
                try clear q29
                try clear c33
                try clear c33b0
                try clear c33b1
                try clear c34
                try clear c34b0
                try clear c34b1
                try clear p2
                try clear q029
                try clear q25
                try clear q29
                obtain ⟨kq, x65_22, rfl, HA, HJ22, HB⟩ := hcut
                cases kq with
                | zero => exact absurd HA.out (by simp [polyglotlaw05_PropHalves.j1])
                | succ kj22 =>
                  have H := HA.out
                  clear HA
                  simp only [polyglotlaw05_PropHalves.j1] at H
                  by_cases c35 : x65_22 = true
                  · subst c35
                    have H1 : ((prop_Get.f kj22 l1 22).bind fun bt252 => (if t233 = 0 then (if bt252.2.2.2.2 = true then (if t242 = 0 then (if t251 = 0 then (some true) else (some (t251 == 9))) else (if t242 = 9 then (if t251 = 0 then (some true) else (some (t251 == 9))) else (some false))) else (some false)) else (some false))) = some r := by rw [if_pos rfl] at H; exact H
                    clear H
                    have H := H1
                    clear H1
                    replace H := Option.bind_eq_some_iff.mp H
                    obtain ⟨⟨t252, t253, t254, t255, t256⟩, A360, H⟩ := H
                    replace H : (if t233 = 0 then (if t256 = true then (if t242 = 0 then (if t251 = 0 then (some true) else (some (t251 == 9))) else (if t242 = 9 then (if t251 = 0 then (some true) else (some (t251 == 9))) else (some false))) else (some false)) else (some false)) = some r := H
                    have A36 := Aside0.mk A360
                    clear A360
                    by_cases c37 : t233 = 0
                    · rw [if_pos c37] at H
                      have c37b0 : (t233 == 0) = true := beq_iff_eq.mpr c37
                      have c37b1 : (t233 != 0) = false := bne_eq_false_iff_eq.mpr c37
                      clear c37
                      by_cases c38 : t256 = true
                      · subst c38
                        have H1 : (if t242 = 0 then (if t251 = 0 then (some true) else (some (t251 == 9))) else (if t242 = 9 then (if t251 = 0 then (some true) else (some (t251 == 9))) else (some false))) = some r := by rw [if_pos rfl] at H; exact H
                        clear H
                        have H := H1
                        clear H1
                        by_cases c39 : t242 = 0
                        · rw [if_pos c39] at H
                          have c39b0 : (t242 == 0) = true := beq_iff_eq.mpr c39
                          have c39b1 : (t242 != 0) = false := bne_eq_false_iff_eq.mpr c39
                          clear c39
                          by_cases c40 : t251 = 0
                          · rw [if_pos c40] at H
                            have c40b0 : (t251 == 0) = true := beq_iff_eq.mpr c40
                            have c40b1 : (t251 != 0) = false := bne_eq_false_iff_eq.mpr c40
                            clear c40
                            obtain rfl := Option.some.inj H
                            go_wp2_with (first | ((with_reducible refine gate_callee (f := 20) rfl ?_); refine goesL_ (some 68) rfl rfl Try.func20 (by kernel_rfl) rfl #[.slice A1 l1.length c1, .int .i64 22] rfl (by (try simp only [List.map_toArray, List.map_cons, List.map_nil]); first | done | rfl | (simp only [List.length_drop, List.length_take]; rfl)) ?_; (with_reducible refine (prop_Get.calls kj22 _ _ l1 22 t252 t253 t254 t255 true _ ?side1 ?side2 A36.out).mono ?_); (case side1 => repeat (first | exact (Kd.C_below HR1.out HB.out) | (with_reducible refine Kd.C_alloc ?_ _) | (with_reducible refine Kd.C_drewN ?_ _) | (with_reducible refine Kd.C_drew ?_))); (case side2 => exact HC1.out); rintro e w41 ⟨rfl, hb⟩; refine ⟨_, rfl, ?_⟩; have n0_ := Aside0.mk (below_step (by repeat (first | (with_reducible first | exact HB.out | apply below_alloc | apply pw_below_drewN | apply below_drew1) | exact HB.out)) hb); clear HB; have HB := n0_; clear n0_; (try clear hb); (try clear hb2); (try clear hk); (try clear hi)) | ((with_reducible refine gate_dst (N := 14) rfl ?_); refine box_event ?hg (N := 14) ?hd (cs := #[.int .i64 0, .int .u32 0, .string (⟨#[]⟩ : ByteArray), .string (⟨#[]⟩ : ByteArray)]) (t := 27) ?hr ?_; (case hd => rfl); (case hg => rfl); (case hr => first | (go_simp; done) | (go_simp; rfl)); intro gb257 hg w42 hbox hb; have n0_ := Aside0.mk (below_step (by repeat (first | (with_reducible first | exact HB.out | apply below_alloc | apply pw_below_drewN | apply below_drew1) | exact HB.out)) hb); have n1_ := Aside0.mk (hbox); have n2_ := Aside0.mk ((by rw [hg]; exact (below_size (by repeat (first | (with_reducible first | exact HB.out | apply below_alloc | apply pw_below_drewN | apply below_drew1) | exact HB.out))) : w.heap.size ≤ gb257)); have n3_ := Aside0.mk ((by rw [hg]; exact (below_size (by repeat (first | (with_reducible first | exact HB.out | apply below_alloc | apply pw_below_drewN | apply below_drew1) | exact HB.out))) : w.heap.size ≤ gb257)); clear HB; have HB := n0_; have BK257 := n1_; have GW257 := n2_; have GE257 := n3_; clear n0_ n1_ n2_ n3_; clear hb hbox hg; have hcz43_0 : w42.cell? ⟨gb257, 0, none⟩ = some (.int .i64 0) := (blk_cell BK257.out 0).trans rfl; have hcz43_1 : w42.cell? ⟨gb257, 1, none⟩ = some (.int .u32 0) := (blk_cell BK257.out 1).trans rfl; have hcz43_2 : w42.cell? ⟨gb257, 2, none⟩ = some (.string (⟨#[]⟩ : ByteArray)) := (blk_cell BK257.out 2).trans rfl; have hcz43_3 : w42.cell? ⟨gb257, 3, none⟩ = some (.string (⟨#[]⟩ : ByteArray)) := (blk_cell BK257.out 3).trans rfl; have hfz43_0 := blk_frozen BK257.out 0; have hfz43_1 := blk_frozen BK257.out 1; have hfz43_2 := blk_frozen BK257.out 2; have hfz43_3 := blk_frozen BK257.out 3))
                            go_ret
                            exact ⟨by first | rfl | (simp [errW_none, errW_some] <;> rfl) | (simp [*, errW_none, errW_some] <;> rfl), by repeat (first | (with_reducible first | exact HB.out | apply below_alloc | apply pw_below_drewN | apply below_drew1 | refine below_set ?_ GE257.out) | exact HB.out)⟩
                          · rw [if_neg c40] at H
                            have c40b0 : (t251 == 0) = false := beq_eq_false_iff_ne.mpr c40
                            have c40b1 : (t251 != 0) = true := bne_iff_ne.mpr c40
                            obtain rfl := Option.some.inj H
                            go_wp2_with (first | ((with_reducible refine gate_callee (f := 20) rfl ?_); refine goesL_ (some 68) rfl rfl Try.func20 (by kernel_rfl) rfl #[.slice A1 l1.length c1, .int .i64 22] rfl (by (try simp only [List.map_toArray, List.map_cons, List.map_nil]); first | done | rfl | (simp only [List.length_drop, List.length_take]; rfl)) ?_; (with_reducible refine (prop_Get.calls kj22 _ _ l1 22 t252 t253 t254 t255 true _ ?side1 ?side2 A36.out).mono ?_); (case side1 => repeat (first | exact (Kd.C_below HR1.out HB.out) | (with_reducible refine Kd.C_alloc ?_ _) | (with_reducible refine Kd.C_drewN ?_ _) | (with_reducible refine Kd.C_drew ?_))); (case side2 => exact HC1.out); rintro e w44 ⟨rfl, hb⟩; refine ⟨_, rfl, ?_⟩; have n0_ := Aside0.mk (below_step (by repeat (first | (with_reducible first | exact HB.out | apply below_alloc | apply pw_below_drewN | apply below_drew1) | exact HB.out)) hb); clear HB; have HB := n0_; clear n0_; (try clear hb); (try clear hb2); (try clear hk); (try clear hi)) | ((with_reducible refine gate_dst (N := 14) rfl ?_); refine box_event ?hg (N := 14) ?hd (cs := #[.int .i64 0, .int .u32 0, .string (⟨#[]⟩ : ByteArray), .string (⟨#[]⟩ : ByteArray)]) (t := 27) ?hr ?_; (case hd => rfl); (case hg => rfl); (case hr => first | (go_simp; done) | (go_simp; rfl)); intro gb257 hg w45 hbox hb; have n0_ := Aside0.mk (below_step (by repeat (first | (with_reducible first | exact HB.out | apply below_alloc | apply pw_below_drewN | apply below_drew1) | exact HB.out)) hb); have n1_ := Aside0.mk (hbox); have n2_ := Aside0.mk ((by rw [hg]; exact (below_size (by repeat (first | (with_reducible first | exact HB.out | apply below_alloc | apply pw_below_drewN | apply below_drew1) | exact HB.out))) : w.heap.size ≤ gb257)); have n3_ := Aside0.mk ((by rw [hg]; exact (below_size (by repeat (first | (with_reducible first | exact HB.out | apply below_alloc | apply pw_below_drewN | apply below_drew1) | exact HB.out))) : w.heap.size ≤ gb257)); clear HB; have HB := n0_; have BK257 := n1_; have GW257 := n2_; have GE257 := n3_; clear n0_ n1_ n2_ n3_; clear hb hbox hg; have hcz46_0 : w45.cell? ⟨gb257, 0, none⟩ = some (.int .i64 0) := (blk_cell BK257.out 0).trans rfl; have hcz46_1 : w45.cell? ⟨gb257, 1, none⟩ = some (.int .u32 0) := (blk_cell BK257.out 1).trans rfl; have hcz46_2 : w45.cell? ⟨gb257, 2, none⟩ = some (.string (⟨#[]⟩ : ByteArray)) := (blk_cell BK257.out 2).trans rfl; have hcz46_3 : w45.cell? ⟨gb257, 3, none⟩ = some (.string (⟨#[]⟩ : ByteArray)) := (blk_cell BK257.out 3).trans rfl; have hfz46_0 := blk_frozen BK257.out 0; have hfz46_1 := blk_frozen BK257.out 1; have hfz46_2 := blk_frozen BK257.out 2; have hfz46_3 := blk_frozen BK257.out 3))
                            go_ret
                            exact ⟨by first | rfl | (simp [errW_none, errW_some] <;> rfl) | (simp [*, errW_none, errW_some] <;> rfl), by repeat (first | (with_reducible first | exact HB.out | apply below_alloc | apply pw_below_drewN | apply below_drew1 | refine below_set ?_ GE257.out) | exact HB.out)⟩
                        · rw [if_neg c39] at H
                          have c39b0 : (t242 == 0) = false := beq_eq_false_iff_ne.mpr c39
                          have c39b1 : (t242 != 0) = true := bne_iff_ne.mpr c39
                          by_cases c47 : t242 = 9
                          · rw [if_pos c47] at H
                            have c47b0 : (t242 == 9) = true := beq_iff_eq.mpr c47
                            have c47b1 : (t242 != 9) = false := bne_eq_false_iff_eq.mpr c47
                            clear c47
                            by_cases c48 : t251 = 0
                            · rw [if_pos c48] at H
                              have c48b0 : (t251 == 0) = true := beq_iff_eq.mpr c48
                              have c48b1 : (t251 != 0) = false := bne_eq_false_iff_eq.mpr c48
                              clear c48
                              obtain rfl := Option.some.inj H
                              go_wp2_with (first | ((with_reducible refine gate_callee (f := 20) rfl ?_); refine goesL_ (some 68) rfl rfl Try.func20 (by kernel_rfl) rfl #[.slice A1 l1.length c1, .int .i64 22] rfl (by (try simp only [List.map_toArray, List.map_cons, List.map_nil]); first | done | rfl | (simp only [List.length_drop, List.length_take]; rfl)) ?_; (with_reducible refine (prop_Get.calls kj22 _ _ l1 22 t252 t253 t254 t255 true _ ?side1 ?side2 A36.out).mono ?_); (case side1 => repeat (first | exact (Kd.C_below HR1.out HB.out) | (with_reducible refine Kd.C_alloc ?_ _) | (with_reducible refine Kd.C_drewN ?_ _) | (with_reducible refine Kd.C_drew ?_))); (case side2 => exact HC1.out); rintro e w49 ⟨rfl, hb⟩; refine ⟨_, rfl, ?_⟩; have n0_ := Aside0.mk (below_step (by repeat (first | (with_reducible first | exact HB.out | apply below_alloc | apply pw_below_drewN | apply below_drew1) | exact HB.out)) hb); clear HB; have HB := n0_; clear n0_; (try clear hb); (try clear hb2); (try clear hk); (try clear hi)) | ((with_reducible refine gate_dst (N := 14) rfl ?_); refine box_event ?hg (N := 14) ?hd (cs := #[.int .i64 0, .int .u32 0, .string (⟨#[]⟩ : ByteArray), .string (⟨#[]⟩ : ByteArray)]) (t := 27) ?hr ?_; (case hd => rfl); (case hg => rfl); (case hr => first | (go_simp; done) | (go_simp; rfl)); intro gb257 hg w50 hbox hb; have n0_ := Aside0.mk (below_step (by repeat (first | (with_reducible first | exact HB.out | apply below_alloc | apply pw_below_drewN | apply below_drew1) | exact HB.out)) hb); have n1_ := Aside0.mk (hbox); have n2_ := Aside0.mk ((by rw [hg]; exact (below_size (by repeat (first | (with_reducible first | exact HB.out | apply below_alloc | apply pw_below_drewN | apply below_drew1) | exact HB.out))) : w.heap.size ≤ gb257)); have n3_ := Aside0.mk ((by rw [hg]; exact (below_size (by repeat (first | (with_reducible first | exact HB.out | apply below_alloc | apply pw_below_drewN | apply below_drew1) | exact HB.out))) : w.heap.size ≤ gb257)); clear HB; have HB := n0_; have BK257 := n1_; have GW257 := n2_; have GE257 := n3_; clear n0_ n1_ n2_ n3_; clear hb hbox hg; have hcz51_0 : w50.cell? ⟨gb257, 0, none⟩ = some (.int .i64 0) := (blk_cell BK257.out 0).trans rfl; have hcz51_1 : w50.cell? ⟨gb257, 1, none⟩ = some (.int .u32 0) := (blk_cell BK257.out 1).trans rfl; have hcz51_2 : w50.cell? ⟨gb257, 2, none⟩ = some (.string (⟨#[]⟩ : ByteArray)) := (blk_cell BK257.out 2).trans rfl; have hcz51_3 : w50.cell? ⟨gb257, 3, none⟩ = some (.string (⟨#[]⟩ : ByteArray)) := (blk_cell BK257.out 3).trans rfl; have hfz51_0 := blk_frozen BK257.out 0; have hfz51_1 := blk_frozen BK257.out 1; have hfz51_2 := blk_frozen BK257.out 2; have hfz51_3 := blk_frozen BK257.out 3))
                              go_ret
                              exact ⟨by first | rfl | (simp [errW_none, errW_some] <;> rfl) | (simp [*, errW_none, errW_some] <;> rfl), by repeat (first | (with_reducible first | exact HB.out | apply below_alloc | apply pw_below_drewN | apply below_drew1 | refine below_set ?_ GE257.out) | exact HB.out)⟩
                            · rw [if_neg c48] at H
                              have c48b0 : (t251 == 0) = false := beq_eq_false_iff_ne.mpr c48
                              have c48b1 : (t251 != 0) = true := bne_iff_ne.mpr c48
                              obtain rfl := Option.some.inj H
                              go_wp2_with (first | ((with_reducible refine gate_callee (f := 20) rfl ?_); refine goesL_ (some 68) rfl rfl Try.func20 (by kernel_rfl) rfl #[.slice A1 l1.length c1, .int .i64 22] rfl (by (try simp only [List.map_toArray, List.map_cons, List.map_nil]); first | done | rfl | (simp only [List.length_drop, List.length_take]; rfl)) ?_; (with_reducible refine (prop_Get.calls kj22 _ _ l1 22 t252 t253 t254 t255 true _ ?side1 ?side2 A36.out).mono ?_); (case side1 => repeat (first | exact (Kd.C_below HR1.out HB.out) | (with_reducible refine Kd.C_alloc ?_ _) | (with_reducible refine Kd.C_drewN ?_ _) | (with_reducible refine Kd.C_drew ?_))); (case side2 => exact HC1.out); rintro e w52 ⟨rfl, hb⟩; refine ⟨_, rfl, ?_⟩; have n0_ := Aside0.mk (below_step (by repeat (first | (with_reducible first | exact HB.out | apply below_alloc | apply pw_below_drewN | apply below_drew1) | exact HB.out)) hb); clear HB; have HB := n0_; clear n0_; (try clear hb); (try clear hb2); (try clear hk); (try clear hi)) | ((with_reducible refine gate_dst (N := 14) rfl ?_); refine box_event ?hg (N := 14) ?hd (cs := #[.int .i64 0, .int .u32 0, .string (⟨#[]⟩ : ByteArray), .string (⟨#[]⟩ : ByteArray)]) (t := 27) ?hr ?_; (case hd => rfl); (case hg => rfl); (case hr => first | (go_simp; done) | (go_simp; rfl)); intro gb257 hg w53 hbox hb; have n0_ := Aside0.mk (below_step (by repeat (first | (with_reducible first | exact HB.out | apply below_alloc | apply pw_below_drewN | apply below_drew1) | exact HB.out)) hb); have n1_ := Aside0.mk (hbox); have n2_ := Aside0.mk ((by rw [hg]; exact (below_size (by repeat (first | (with_reducible first | exact HB.out | apply below_alloc | apply pw_below_drewN | apply below_drew1) | exact HB.out))) : w.heap.size ≤ gb257)); have n3_ := Aside0.mk ((by rw [hg]; exact (below_size (by repeat (first | (with_reducible first | exact HB.out | apply below_alloc | apply pw_below_drewN | apply below_drew1) | exact HB.out))) : w.heap.size ≤ gb257)); clear HB; have HB := n0_; have BK257 := n1_; have GW257 := n2_; have GE257 := n3_; clear n0_ n1_ n2_ n3_; clear hb hbox hg; have hcz54_0 : w53.cell? ⟨gb257, 0, none⟩ = some (.int .i64 0) := (blk_cell BK257.out 0).trans rfl; have hcz54_1 : w53.cell? ⟨gb257, 1, none⟩ = some (.int .u32 0) := (blk_cell BK257.out 1).trans rfl; have hcz54_2 : w53.cell? ⟨gb257, 2, none⟩ = some (.string (⟨#[]⟩ : ByteArray)) := (blk_cell BK257.out 2).trans rfl; have hcz54_3 : w53.cell? ⟨gb257, 3, none⟩ = some (.string (⟨#[]⟩ : ByteArray)) := (blk_cell BK257.out 3).trans rfl; have hfz54_0 := blk_frozen BK257.out 0; have hfz54_1 := blk_frozen BK257.out 1; have hfz54_2 := blk_frozen BK257.out 2; have hfz54_3 := blk_frozen BK257.out 3))
                              go_ret
                              exact ⟨by first | rfl | (simp [errW_none, errW_some] <;> rfl) | (simp [*, errW_none, errW_some] <;> rfl), by repeat (first | (with_reducible first | exact HB.out | apply below_alloc | apply pw_below_drewN | apply below_drew1 | refine below_set ?_ GE257.out) | exact HB.out)⟩
                          · rw [if_neg c47] at H
                            have c47b0 : (t242 == 9) = false := beq_eq_false_iff_ne.mpr c47
                            have c47b1 : (t242 != 9) = true := bne_iff_ne.mpr c47
                            obtain rfl := Option.some.inj H
                            go_wp2_with (first | ((with_reducible refine gate_callee (f := 20) rfl ?_); refine goesL_ (some 68) rfl rfl Try.func20 (by kernel_rfl) rfl #[.slice A1 l1.length c1, .int .i64 22] rfl (by (try simp only [List.map_toArray, List.map_cons, List.map_nil]); first | done | rfl | (simp only [List.length_drop, List.length_take]; rfl)) ?_; (with_reducible refine (prop_Get.calls kj22 _ _ l1 22 t252 t253 t254 t255 true _ ?side1 ?side2 A36.out).mono ?_); (case side1 => repeat (first | exact (Kd.C_below HR1.out HB.out) | (with_reducible refine Kd.C_alloc ?_ _) | (with_reducible refine Kd.C_drewN ?_ _) | (with_reducible refine Kd.C_drew ?_))); (case side2 => exact HC1.out); rintro e w55 ⟨rfl, hb⟩; refine ⟨_, rfl, ?_⟩; have n0_ := Aside0.mk (below_step (by repeat (first | (with_reducible first | exact HB.out | apply below_alloc | apply pw_below_drewN | apply below_drew1) | exact HB.out)) hb); clear HB; have HB := n0_; clear n0_; (try clear hb); (try clear hb2); (try clear hk); (try clear hi)) | ((with_reducible refine gate_dst (N := 14) rfl ?_); refine box_event ?hg (N := 14) ?hd (cs := #[.int .i64 0, .int .u32 0, .string (⟨#[]⟩ : ByteArray), .string (⟨#[]⟩ : ByteArray)]) (t := 27) ?hr ?_; (case hd => rfl); (case hg => rfl); (case hr => first | (go_simp; done) | (go_simp; rfl)); intro gb257 hg w56 hbox hb; have n0_ := Aside0.mk (below_step (by repeat (first | (with_reducible first | exact HB.out | apply below_alloc | apply pw_below_drewN | apply below_drew1) | exact HB.out)) hb); have n1_ := Aside0.mk (hbox); have n2_ := Aside0.mk ((by rw [hg]; exact (below_size (by repeat (first | (with_reducible first | exact HB.out | apply below_alloc | apply pw_below_drewN | apply below_drew1) | exact HB.out))) : w.heap.size ≤ gb257)); have n3_ := Aside0.mk ((by rw [hg]; exact (below_size (by repeat (first | (with_reducible first | exact HB.out | apply below_alloc | apply pw_below_drewN | apply below_drew1) | exact HB.out))) : w.heap.size ≤ gb257)); clear HB; have HB := n0_; have BK257 := n1_; have GW257 := n2_; have GE257 := n3_; clear n0_ n1_ n2_ n3_; clear hb hbox hg; have hcz57_0 : w56.cell? ⟨gb257, 0, none⟩ = some (.int .i64 0) := (blk_cell BK257.out 0).trans rfl; have hcz57_1 : w56.cell? ⟨gb257, 1, none⟩ = some (.int .u32 0) := (blk_cell BK257.out 1).trans rfl; have hcz57_2 : w56.cell? ⟨gb257, 2, none⟩ = some (.string (⟨#[]⟩ : ByteArray)) := (blk_cell BK257.out 2).trans rfl; have hcz57_3 : w56.cell? ⟨gb257, 3, none⟩ = some (.string (⟨#[]⟩ : ByteArray)) := (blk_cell BK257.out 3).trans rfl; have hfz57_0 := blk_frozen BK257.out 0; have hfz57_1 := blk_frozen BK257.out 1; have hfz57_2 := blk_frozen BK257.out 2; have hfz57_3 := blk_frozen BK257.out 3))
                            go_ret
                            exact ⟨by first | rfl | (simp [errW_none, errW_some] <;> rfl) | (simp [*, errW_none, errW_some] <;> rfl), by repeat (first | (with_reducible first | exact HB.out | apply below_alloc | apply pw_below_drewN | apply below_drew1 | refine below_set ?_ GE257.out) | exact HB.out)⟩
                      · replace c38 := Bool.eq_false_iff.mpr c38
                        subst c38
                        have H1 : (some false) = some r := by rw [if_neg (show ¬ (false = true) by decide)] at H; exact H
                        clear H
                        have H := H1
                        clear H1
                        obtain rfl := Option.some.inj H
                        go_wp2_with (first | ((with_reducible refine gate_callee (f := 20) rfl ?_); refine goesL_ (some 68) rfl rfl Try.func20 (by kernel_rfl) rfl #[.slice A1 l1.length c1, .int .i64 22] rfl (by (try simp only [List.map_toArray, List.map_cons, List.map_nil]); first | done | rfl | (simp only [List.length_drop, List.length_take]; rfl)) ?_; (with_reducible refine (prop_Get.calls kj22 _ _ l1 22 t252 t253 t254 t255 false _ ?side1 ?side2 A36.out).mono ?_); (case side1 => repeat (first | exact (Kd.C_below HR1.out HB.out) | (with_reducible refine Kd.C_alloc ?_ _) | (with_reducible refine Kd.C_drewN ?_ _) | (with_reducible refine Kd.C_drew ?_))); (case side2 => exact HC1.out); rintro e w58 ⟨rfl, hb⟩; refine ⟨_, rfl, ?_⟩; have n0_ := Aside0.mk (below_step (by repeat (first | (with_reducible first | exact HB.out | apply below_alloc | apply pw_below_drewN | apply below_drew1) | exact HB.out)) hb); clear HB; have HB := n0_; clear n0_; (try clear hb); (try clear hb2); (try clear hk); (try clear hi)) | ((with_reducible refine gate_dst (N := 14) rfl ?_); refine box_event ?hg (N := 14) ?hd (cs := #[.int .i64 0, .int .u32 0, .string (⟨#[]⟩ : ByteArray), .string (⟨#[]⟩ : ByteArray)]) (t := 27) ?hr ?_; (case hd => rfl); (case hg => rfl); (case hr => first | (go_simp; done) | (go_simp; rfl)); intro gb257 hg w59 hbox hb; have n0_ := Aside0.mk (below_step (by repeat (first | (with_reducible first | exact HB.out | apply below_alloc | apply pw_below_drewN | apply below_drew1) | exact HB.out)) hb); have n1_ := Aside0.mk (hbox); have n2_ := Aside0.mk ((by rw [hg]; exact (below_size (by repeat (first | (with_reducible first | exact HB.out | apply below_alloc | apply pw_below_drewN | apply below_drew1) | exact HB.out))) : w.heap.size ≤ gb257)); have n3_ := Aside0.mk ((by rw [hg]; exact (below_size (by repeat (first | (with_reducible first | exact HB.out | apply below_alloc | apply pw_below_drewN | apply below_drew1) | exact HB.out))) : w.heap.size ≤ gb257)); clear HB; have HB := n0_; have BK257 := n1_; have GW257 := n2_; have GE257 := n3_; clear n0_ n1_ n2_ n3_; clear hb hbox hg; have hcz60_0 : w59.cell? ⟨gb257, 0, none⟩ = some (.int .i64 0) := (blk_cell BK257.out 0).trans rfl; have hcz60_1 : w59.cell? ⟨gb257, 1, none⟩ = some (.int .u32 0) := (blk_cell BK257.out 1).trans rfl; have hcz60_2 : w59.cell? ⟨gb257, 2, none⟩ = some (.string (⟨#[]⟩ : ByteArray)) := (blk_cell BK257.out 2).trans rfl; have hcz60_3 : w59.cell? ⟨gb257, 3, none⟩ = some (.string (⟨#[]⟩ : ByteArray)) := (blk_cell BK257.out 3).trans rfl; have hfz60_0 := blk_frozen BK257.out 0; have hfz60_1 := blk_frozen BK257.out 1; have hfz60_2 := blk_frozen BK257.out 2; have hfz60_3 := blk_frozen BK257.out 3))
                        go_ret
                        exact ⟨by first | rfl | (simp [errW_none, errW_some] <;> rfl) | (simp [*, errW_none, errW_some] <;> rfl), by repeat (first | (with_reducible first | exact HB.out | apply below_alloc | apply pw_below_drewN | apply below_drew1 | refine below_set ?_ GE257.out) | exact HB.out)⟩
                    · rw [if_neg c37] at H
                      have c37b0 : (t233 == 0) = false := beq_eq_false_iff_ne.mpr c37
                      have c37b1 : (t233 != 0) = true := bne_iff_ne.mpr c37
                      obtain rfl := Option.some.inj H
                      go_wp2_with (first | ((with_reducible refine gate_callee (f := 20) rfl ?_); refine goesL_ (some 68) rfl rfl Try.func20 (by kernel_rfl) rfl #[.slice A1 l1.length c1, .int .i64 22] rfl (by (try simp only [List.map_toArray, List.map_cons, List.map_nil]); first | done | rfl | (simp only [List.length_drop, List.length_take]; rfl)) ?_; (with_reducible refine (prop_Get.calls kj22 _ _ l1 22 t252 t253 t254 t255 t256 _ ?side1 ?side2 A36.out).mono ?_); (case side1 => repeat (first | exact (Kd.C_below HR1.out HB.out) | (with_reducible refine Kd.C_alloc ?_ _) | (with_reducible refine Kd.C_drewN ?_ _) | (with_reducible refine Kd.C_drew ?_))); (case side2 => exact HC1.out); rintro e w61 ⟨rfl, hb⟩; refine ⟨_, rfl, ?_⟩; have n0_ := Aside0.mk (below_step (by repeat (first | (with_reducible first | exact HB.out | apply below_alloc | apply pw_below_drewN | apply below_drew1) | exact HB.out)) hb); clear HB; have HB := n0_; clear n0_; (try clear hb); (try clear hb2); (try clear hk); (try clear hi)) | ((with_reducible refine gate_dst (N := 14) rfl ?_); refine box_event ?hg (N := 14) ?hd (cs := #[.int .i64 0, .int .u32 0, .string (⟨#[]⟩ : ByteArray), .string (⟨#[]⟩ : ByteArray)]) (t := 27) ?hr ?_; (case hd => rfl); (case hg => rfl); (case hr => first | (go_simp; done) | (go_simp; rfl)); intro gb257 hg w62 hbox hb; have n0_ := Aside0.mk (below_step (by repeat (first | (with_reducible first | exact HB.out | apply below_alloc | apply pw_below_drewN | apply below_drew1) | exact HB.out)) hb); have n1_ := Aside0.mk (hbox); have n2_ := Aside0.mk ((by rw [hg]; exact (below_size (by repeat (first | (with_reducible first | exact HB.out | apply below_alloc | apply pw_below_drewN | apply below_drew1) | exact HB.out))) : w.heap.size ≤ gb257)); have n3_ := Aside0.mk ((by rw [hg]; exact (below_size (by repeat (first | (with_reducible first | exact HB.out | apply below_alloc | apply pw_below_drewN | apply below_drew1) | exact HB.out))) : w.heap.size ≤ gb257)); clear HB; have HB := n0_; have BK257 := n1_; have GW257 := n2_; have GE257 := n3_; clear n0_ n1_ n2_ n3_; clear hb hbox hg; have hcz63_0 : w62.cell? ⟨gb257, 0, none⟩ = some (.int .i64 0) := (blk_cell BK257.out 0).trans rfl; have hcz63_1 : w62.cell? ⟨gb257, 1, none⟩ = some (.int .u32 0) := (blk_cell BK257.out 1).trans rfl; have hcz63_2 : w62.cell? ⟨gb257, 2, none⟩ = some (.string (⟨#[]⟩ : ByteArray)) := (blk_cell BK257.out 2).trans rfl; have hcz63_3 : w62.cell? ⟨gb257, 3, none⟩ = some (.string (⟨#[]⟩ : ByteArray)) := (blk_cell BK257.out 3).trans rfl; have hfz63_0 := blk_frozen BK257.out 0; have hfz63_1 := blk_frozen BK257.out 1; have hfz63_2 := blk_frozen BK257.out 2; have hfz63_3 := blk_frozen BK257.out 3))
                      go_ret
                      exact ⟨by first | rfl | (simp [errW_none, errW_some] <;> rfl) | (simp [*, errW_none, errW_some] <;> rfl), by repeat (first | (with_reducible first | exact HB.out | apply below_alloc | apply pw_below_drewN | apply below_drew1 | refine below_set ?_ GE257.out) | exact HB.out)⟩
                  · replace c35 := Bool.eq_false_iff.mpr c35
                    subst c35
                    have H1 : ((polyglotlaw05_behind.f kj22 t232).bind fun t258 => ((polyglotlaw05_behind.f kj22 t241).bind fun t259 => ((polyglotlaw05_behind.f kj22 t250).bind fun t260 => (if t259.size + t260.size ≤ 9223372036854775807 then (some (t258.toList == (t259 ++ t260).toList)) else (none))))) = some r := by rw [if_neg (show ¬ (false = true) by decide)] at H; exact H
                    clear H
                    have H := H1
                    clear H1
                    replace H := Option.bind_eq_some_iff.mp H
                    obtain ⟨t258, A640, H⟩ := H
                    replace H : ((polyglotlaw05_behind.f kj22 t241).bind fun t259 => ((polyglotlaw05_behind.f kj22 t250).bind fun t260 => (if t259.size + t260.size ≤ 9223372036854775807 then (some (t258.toList == (t259 ++ t260).toList)) else (none)))) = some r := H
                    have A64 := Aside0.mk A640
                    clear A640
                    replace H := Option.bind_eq_some_iff.mp H
                    obtain ⟨t259, A650, H⟩ := H
                    replace H : ((polyglotlaw05_behind.f kj22 t250).bind fun t260 => (if t259.size + t260.size ≤ 9223372036854775807 then (some (t258.toList == (t259 ++ t260).toList)) else (none))) = some r := H
                    have A65 := Aside0.mk A650
                    clear A650
                    replace H := Option.bind_eq_some_iff.mp H
                    obtain ⟨t260, A660, H⟩ := H
                    replace H : (if t259.size + t260.size ≤ 9223372036854775807 then (some (t258.toList == (t259 ++ t260).toList)) else (none)) = some r := H
                    have A66 := Aside0.mk A660
                    clear A660
                    by_cases c67 : t259.size + t260.size ≤ 9223372036854775807
                    · rw [if_pos c67] at H
                      have c67b0 := eq_true c67
                      have c67b1 : decide (t259.size + t260.size ≤ 9223372036854775807) = true := decide_eq_true c67
                      try have c67b2 : (9223372036854775807 < t259.size + t260.size) = False := eq_false (Nat.not_lt.2 c67)
                      obtain rfl := Option.some.inj H
                      go_wp2_with (first | ((with_reducible refine gate_callee (f := 21) rfl ?_); refine goesL_ (some 93) rfl rfl Try.func21 (by kernel_rfl) rfl #[.string t232] rfl (by (try simp only [List.map_toArray, List.map_cons, List.map_nil]); first | done | rfl | (simp only [List.length_drop, List.length_take]; rfl)) ?_; (with_reducible refine (polyglotlaw05_behind.calls kj22 t232 t258 _ A64.out).mono ?_); rintro e w' ⟨rfl, ⟨nd, rfl⟩⟩; refine ⟨_, rfl, ?_⟩) | ((with_reducible refine gate_callee (f := 21) rfl ?_); refine goesL_ (some 95) rfl rfl Try.func21 (by kernel_rfl) rfl #[.string t241] rfl (by (try simp only [List.map_toArray, List.map_cons, List.map_nil]); first | done | rfl | (simp only [List.length_drop, List.length_take]; rfl)) ?_; (with_reducible refine (polyglotlaw05_behind.calls kj22 t241 t259 _ A65.out).mono ?_); rintro e w' ⟨rfl, ⟨nd, rfl⟩⟩; refine ⟨_, rfl, ?_⟩) | ((with_reducible refine gate_callee (f := 21) rfl ?_); refine goesL_ (some 97) rfl rfl Try.func21 (by kernel_rfl) rfl #[.string t250] rfl (by (try simp only [List.map_toArray, List.map_cons, List.map_nil]); first | done | rfl | (simp only [List.length_drop, List.length_take]; rfl)) ?_; (with_reducible refine (polyglotlaw05_behind.calls kj22 t250 t260 _ A66.out).mono ?_); rintro e w' ⟨rfl, ⟨nd, rfl⟩⟩; refine ⟨_, rfl, ?_⟩))
                      go_ret
                      exact ⟨by first | rfl | (simp [errW_none, errW_some] <;> rfl) | (simp [*, errW_none, errW_some] <;> rfl), by repeat (first | (with_reducible first | exact HB.out | apply below_alloc | apply pw_below_drewN | apply below_drew1) | exact HB.out)⟩
                    · rw [if_neg c67] at H
                      exact absurd H (by simp)
            · rw [if_neg c16] at H
              exact absurd H (by simp)
          · rw [if_neg c15] at H
            exact absurd H (by simp)
  · replace c5 := Bool.eq_false_iff.mpr c5
    subst c5
    have H1 : (some false) = some r := by rw [if_neg (show ¬ (false = true) by decide)] at H; exact H
    clear H
    have H := H1
    clear H1
    obtain rfl := Option.some.inj H
    go_enter Try.func5, Try.ntmps5
    go_wp2_with (first | ((with_reducible refine gate_callee (f := 11) rfl ?_); refine goesL_ (some 16) rfl rfl Try.func11 (by kernel_rfl) rfl #[] rfl (by (try simp only [List.map_toArray, List.map_cons, List.map_nil]); first | done | rfl | (simp only [List.length_drop, List.length_take]; rfl)) ?_; (with_reducible refine (polyglotlaw05_lives.calls  false _ A4.out).mono ?_); rintro e w68 ⟨rfl, hb⟩; refine ⟨_, rfl, ?_⟩; have n0_ := Aside0.mk (below_step (by repeat (first | (with_reducible first | exact HB.out | apply below_alloc | apply pw_below_drewN | apply below_drew1) | exact HB.out)) hb); clear HB; have HB := n0_; clear n0_; (try clear hb); (try clear hb2); (try clear hk); (try clear hi)))
    go_ret
    exact ⟨by first | rfl | (simp [errW_none, errW_some] <;> rfl) | (simp [*, errW_none, errW_some] <;> rfl), by repeat (first | (with_reducible first | exact HB.out | apply below_alloc | apply pw_below_drewN | apply below_drew1) | exact HB.out)⟩

end Go.Proofs.Ytngmipfobcaojaa.HA
end

-- YtngmipfobcaojaaHAhBytesLaw
section
/- When prop.Bytes answers, and what: without its counts. -/
-- FOR polyglot/prop.Bytes
namespace Go.Proofs.Ytngmipfobcaojaa.HA
open Go.RowKit Go.Proofs.YtngmipfobcaojaaW.PrintWords Go.Proofs.YtngmipfobcaojaaW.PrintLast Go.Proofs.YtngmipfobcaojaaW.PrintMore
set_option linter.unusedVariables false
set_option linter.unusedSimpArgs false
abbrev PropT := S27
def cnt (i : Nat) (l : List PropT) : Nat := l.countP fun p => decide (p.f0.toNat = i)
def encP (p : PropT) : List Int := [p.f0 % 256] ++ bytesOf (valS (ruleOf p.f0).1 p)
def encL (l : List PropT) : List Int := (l.map encP).flatten
def goodC (kind : Int) (l : List PropT) (c : Nat → Int) : Prop :=
  (∀ p ∈ l, checkS (ruleOf p.f0) kind p = 0) ∧ (∀ p ∈ l, 1 < c p.f0.toNat + (cnt p.f0.toNat l : Int) → oftenB kind p.f0 = true)
theorem cnt_cons (i : Nat) (p : PropT) (l : List PropT) : cnt i (p :: l) = cnt i l + if p.f0.toNat = i then 1 else 0 := by
  unfold cnt
  rw [List.countP_cons]
  simp
theorem upd_eq (c : Nat → Int) (i : Nat) (v : Int) (j : Nat) : upd c i v j = if j = i then v else c j := by
  unfold upd
  rfl
theorem good_id {kind : Int} {l : List PropT} {c : Nat → Int} (h : goodC kind l c) : ∀ p ∈ l, 1 ≤ p.f0 ∧ p.f0 ≤ 42 := fun p hp => check_id kind p (h.1 p hp)
theorem good_cons (kind : Int) (p : PropT) (l : List PropT) (c : Nat → Int) (hc : ∀ i, 0 ≤ c i) :
    goodC kind (p :: l) c ↔ (checkS (ruleOf p.f0) kind p = 0 ∧ (1 < c p.f0.toNat + 1 → oftenB kind p.f0 = true) ∧ goodC kind l (upd c p.f0.toNat (c p.f0.toNat + 1))) := by
  have same : ∀ q : PropT, checkS (ruleOf p.f0) kind p = 0 → checkS (ruleOf q.f0) kind q = 0 → q.f0.toNat = p.f0.toNat → q.f0 = p.f0 := by
    intro q h1 h2 h3
    have := check_id kind p h1
    have := check_id kind q h2
    omega
  constructor
  · rintro ⟨h1, h2⟩
    have hp := h1 p List.mem_cons_self
    refine ⟨hp, fun h => h2 p List.mem_cons_self ?_, fun q hq => h1 q (List.mem_cons_of_mem _ hq), fun q hq h => h2 q (List.mem_cons_of_mem _ hq) ?_⟩
    · rw [cnt_cons, if_pos rfl]; omega
    · rw [upd_eq] at h
      rw [cnt_cons]
      by_cases e : q.f0.toNat = p.f0.toNat
      · rw [if_pos e] at h; rw [if_pos e.symm]; rw [e] at h ⊢; omega
      · rw [if_neg e] at h; rw [if_neg (fun x => e x.symm)]; omega
  · rintro ⟨h1, h2, h3, h4⟩
    refine ⟨fun q hq => ?_, fun q hq h => ?_⟩
    · rcases List.mem_cons.1 hq with rfl | hq
      · exact h1
      · exact h3 q hq
    · rcases List.mem_cons.1 hq with rfl | hq
      · by_cases e : ∃ x ∈ l, x.f0.toNat = q.f0.toNat
        · obtain ⟨x, hx, e⟩ := e
          have := h4 x hx (by
            rw [upd_eq, if_pos e, e]
            rw [cnt_cons, if_pos rfl] at h
            omega)
          rwa [same x h1 (h3 x hx) e] at this
        · have : cnt q.f0.toNat l = 0 := by
            unfold cnt
            rw [List.countP_eq_zero]
            intro x hx hh
            exact e ⟨x, hx, by simpa using hh⟩
          apply h2
          rw [cnt_cons, if_pos rfl, this] at h
          omega
      · apply h4 q hq
        rw [cnt_cons] at h
        rw [upd_eq]
        by_cases e : q.f0.toNat = p.f0.toNat
        · rw [if_pos e]; rw [if_pos e.symm] at h; rw [e] at h ⊢; omega
        · rw [if_neg e]; rw [if_neg (fun x => e x.symm)] at h; omega
theorem bytesTo_good (kind : Int) : ∀ (l : List PropT) (c : Nat → Int) (acc : List Int), (∀ i, 0 ≤ c i) → goodC kind l c →
    bytesTo kind l c acc = if decide (0 < c 22 + (cnt 22 l : Int)) && c 21 + (cnt 21 l : Int) == 0 then (⟨#[]⟩, 9)
      else if (varS (acc ++ encL l).length).2 = 0 then ((varS (acc ++ encL l).length).1 ++ strOfNums (acc ++ encL l), 0) else (⟨#[]⟩, 4) := by
  intro l
  induction l with
  | nil =>
    intro c acc hc _
    simp [bytesTo, encL, cnt]
  | cons p l ih =>
    intro c acc hc h
    obtain ⟨h1, h2, h3⟩ := (good_cons kind p l c hc).1 h
    rw [bytesTo, if_neg (by rw [h1]; simp)]
    have hb : (decide (1 < c p.f0.toNat + 1) && !oftenB kind p.f0) = false := by
      by_cases q : 1 < c p.f0.toNat + 1
      · rw [h2 q]; simp
      · simp [q]
    rw [hb]
    simp only [Bool.false_eq_true, if_false]
    rw [ih _ _ (fun i => by rw [upd_eq]; split; · have := hc p.f0.toNat; omega
                            · exact hc i) h3]
    have ea : acc ++ [p.f0 % 256] ++ bytesOf (valS (ruleOf p.f0).1 p) ++ encL l = acc ++ encL (p :: l) := by
      simp [encL, encP]
    have ec : ∀ i, upd c p.f0.toNat (c p.f0.toNat + 1) i + (cnt i l : Int) = c i + (cnt i (p :: l) : Int) := by
      intro i
      rw [upd_eq, cnt_cons]
      by_cases e : i = p.f0.toNat
      · subst e; simp; omega
      · rw [if_neg e, if_neg (fun x => e x.symm)]; omega
    rw [ea, ec, ec]
theorem bytesTo_bad (kind : Int) : ∀ (l : List PropT) (c : Nat → Int) (acc : List Int), (∀ i, 0 ≤ c i) → ¬ goodC kind l c → (bytesTo kind l c acc).2 ≠ 0 := by
  intro l
  induction l with
  | nil =>
    intro c acc hc h
    exact absurd ⟨fun _ q => by simp at q, fun _ q => by simp at q⟩ h
  | cons p l ih =>
    intro c acc hc h
    rw [bytesTo]
    by_cases h1 : checkS (ruleOf p.f0) kind p = 0
    · rw [if_neg (by rw [h1]; simp)]
      by_cases h2 : 1 < c p.f0.toNat + 1 → oftenB kind p.f0 = true
      · have hb : (decide (1 < c p.f0.toNat + 1) && !oftenB kind p.f0) = false := by
          by_cases q : 1 < c p.f0.toNat + 1
          · rw [h2 q]; simp
          · simp [q]
        rw [hb]
        simp only [Bool.false_eq_true, if_false]
        apply ih _ _ (fun i => by rw [upd_eq]; split; · have := hc p.f0.toNat; omega
                                  · exact hc i)
        intro h3
        exact h ((good_cons kind p l c hc).2 ⟨h1, h2, h3⟩)
      · have hb : (decide (1 < c p.f0.toNat + 1) && !oftenB kind p.f0) = true := by
          have q1 : 1 < c p.f0.toNat + 1 := Classical.byContradiction fun q => h2 fun x => absurd x q
          have q2 : oftenB kind p.f0 = false := by
            cases e : oftenB kind p.f0 with
            | false => rfl
            | true => exact absurd (fun _ => e) h2
          rw [q2]; simp [q1]
        rw [hb]
        simp
    · rw [if_pos h1]
      exact h1
/-- The list's own rule. -/
def good (kind : Int) (l : List PropT) : Prop := l.length ≤ 1000 ∧ goodC kind l (fun _ => 0)
def dataOk (l : List PropT) : Bool := !(decide (0 < cnt 22 l) && decide (cnt 21 l = 0))
theorem encP_len (p : PropT) : (encP p).length ≤ 131075 := by
  unfold encP
  have := valS_size (ruleOf p.f0).1 p
  simp [bytesOf]
  omega
theorem encL_len (l : List PropT) : (encL l).length ≤ 131075 * l.length := by
  induction l with
  | nil => simp [encL]
  | cons p l ih =>
    have : encL (p :: l) = encP p ++ encL l := by simp [encL]
    rw [this, List.length_append, List.length_cons]
    have := encP_len p
    omega
theorem bytes_good {kind : Int} {l : List PropT} (h : good kind l) :
    bytesS kind l = if dataOk l then ((varS (encL l).length).1 ++ strOfNums (encL l), 0) else (⟨#[]⟩, 9) := by
  unfold bytesS
  have h1 := h.1
  have hl := encL_len l
  rw [if_neg (by omega), bytesTo_good kind l (fun _ => 0) [] (fun _ => Int.le_refl 0) h.2]
  have hv : (varS ((encL l).length : Int)).2 = 0 := by
    unfold varS
    rw [if_pos (by constructor <;> omega)]
  simp only [List.nil_append, hv, if_true, Int.zero_add]
  unfold dataOk
  by_cases a : 0 < cnt 22 l <;> by_cases b : cnt 21 l = 0 <;> simp [a, b] <;> omega
theorem bytes_bad {kind : Int} {l : List PropT} (h : ¬ good kind l) : (bytesS kind l).2 ≠ 0 := by
  unfold bytesS
  by_cases h1 : l.length ≤ 1000
  · rw [if_neg (by omega)]
    exact bytesTo_bad kind l _ _ (fun _ => Int.le_refl 0) (fun q => h ⟨h1, q⟩)
  · rw [if_pos (by omega)]
    decide
theorem bytes_ok {kind : Int} {l : List PropT} : (bytesS kind l).2 = 0 ↔ good kind l ∧ dataOk l = true := by
  by_cases h : good kind l
  · rw [bytes_good h]
    cases dataOk l <;> simp [h]
  · simp [h, bytes_bad h]
theorem bytes_of {kind : Int} {l : List PropT} (h : (bytesS kind l).2 = 0) : bytesS kind l = ((varS (encL l).length).1 ++ strOfNums (encL l), 0) := by
  obtain ⟨h1, h2⟩ := bytes_ok.1 h
  rw [bytes_good h1, h2]
  rfl
/-- Only which properties there are, and how often, matters. -/
theorem cnt_perm {l m : List PropT} (h : l.Perm m) (i : Nat) : cnt i l = cnt i m := h.countP_eq _
theorem good_perm {kind : Int} {l m : List PropT} (h : l.Perm m) : good kind l → good kind m := by
  rintro ⟨h1, h2, h3⟩
  refine ⟨by rw [← h.length_eq]; exact h1, fun p hp => h2 p (h.mem_iff.2 hp), fun p hp hq => h3 p (h.mem_iff.2 hp) ?_⟩
  rw [cnt_perm h]
  exact hq
theorem data_perm {l m : List PropT} (h : l.Perm m) : dataOk l = dataOk m := by
  unfold dataOk
  rw [cnt_perm h, cnt_perm h]
theorem enc_perm {l m : List PropT} (h : l.Perm m) : (encL l).length = (encL m).length := by
  unfold encL
  exact ((h.map encP).flatten).length_eq
theorem good_sub {kind : Int} {l m : List PropT} (h : m.Sublist l) : good kind l → good kind m := by
  rintro ⟨h1, h2, h3⟩
  refine ⟨Nat.le_trans h.length_le h1, fun p hp => h2 p (h.subset hp), fun p hp hq => h3 p (h.subset hp) ?_⟩
  have : cnt p.f0.toNat m ≤ cnt p.f0.toNat l := List.Sublist.countP_le h
  simp only [Int.zero_add] at hq ⊢
  omega
end Go.Proofs.Ytngmipfobcaojaa.HA
end

-- YtngmipfobcaojaaHA46
section
-- Written by hp.py (a driver over the kit's print). Not trusted: Lean checks it.
namespace Go.Proofs.Ytngmipfobcaojaa.HA
open Go.RowKit Go.Proofs.YtngmipfobcaojaaW.PrintWords Go.Proofs.YtngmipfobcaojaaW.PrintLast Go.Proofs.YtngmipfobcaojaaW.PrintMore
attribute [local go_sem] max2_int min2_int max_two min_two max_three min_three max_four min_four   -- for this text's walks alone
set_option linter.unusedVariables false
set_option linter.unusedSimpArgs false

/-! ### prop_Many: function 19 -/
def prop_Many.f (a0 : Int) (a1 : Int) : Option (Bool) := (prop_often.f a0 a1).bind fun t167 => (if t167 = true then ((prop_May.f a0 a1).bind fun t168 => (some t168)) else (some false))
set_option maxHeartbeats 8000000 in
set_option maxRecDepth 100000 in
theorem prop_Many.calls (a0 : Int) (a1 : Int) (r : Bool) (w : World) (h : prop_Many.f a0 a1 = some r) :
    Calls Try.prog 19 #[.int .i64 a0, .int .i64 a1] w fun e w' => e = .returned (.bool r) ∧ Below w.heap.size w w' := by
  have HB := Aside0.mk (Below.refl w.heap.size w)
  have H : ((prop_often.f a0 a1).bind fun t167 => (if t167 = true then ((prop_May.f a0 a1).bind fun t168 => (some t168)) else (some false))) = some r := h
  clear h
  replace H := Option.bind_eq_some_iff.mp H
  obtain ⟨t167, A30, H⟩ := H
  replace H : (if t167 = true then ((prop_May.f a0 a1).bind fun t168 => (some t168)) else (some false)) = some r := H
  have A3 := Aside0.mk A30
  clear A30
  by_cases c4 : t167 = true
  · subst c4
    have H1 : ((prop_May.f a0 a1).bind fun t168 => (some t168)) = some r := by rw [if_pos rfl] at H; exact H
    clear H
    have H := H1
    clear H1
    replace H := Option.bind_eq_some_iff.mp H
    obtain ⟨t168, A50, H⟩ := H
    replace H : (some t168) = some r := H
    have A5 := Aside0.mk A50
    clear A50
    obtain rfl := Option.some.inj H
    go_enter Try.func19, Try.ntmps19
    go_wp2_with (first | ((with_reducible refine gate_callee (f := 41) rfl ?_); refine goesL_ (some 7) rfl rfl Try.func41 (by kernel_rfl) rfl #[.int .i64 a0, .int .i64 a1] rfl (by (try simp only [List.map_toArray, List.map_cons, List.map_nil]); first | done | rfl | (simp only [List.length_drop, List.length_take]; rfl)) ?_; (with_reducible refine (prop_often.calls a0 a1 true _ A3.out).mono ?_); rintro e w' ⟨rfl, ⟨nd, rfl⟩⟩; refine ⟨_, rfl, ?_⟩) | (go_at_call 32; (with_reducible refine (prop_May.calls a0 a1 t168 _ A5.out).mono ?_); rintro e w6 ⟨rfl, hb⟩; have n0_ := Aside0.mk (below_step (by repeat (first | (with_reducible first | exact HB.out | apply below_alloc | apply pw_below_drewN | apply below_drew1) | exact HB.out)) hb); clear HB; have HB := n0_; clear n0_; (try clear hb); (try clear hb2); (try clear hk); (try clear hi)))
    go_ret
    exact ⟨by first | rfl | (simp [errW_none, errW_some] <;> rfl) | (simp [*, errW_none, errW_some] <;> rfl), by repeat (first | (with_reducible first | exact HB.out | apply below_alloc | apply pw_below_drewN | apply below_drew1) | exact HB.out)⟩
  · replace c4 := Bool.eq_false_iff.mpr c4
    subst c4
    have H1 : (some false) = some r := by rw [if_neg (show ¬ (false = true) by decide)] at H; exact H
    clear H
    have H := H1
    clear H1
    obtain rfl := Option.some.inj H
    go_enter Try.func19, Try.ntmps19
    go_wp2_with (first | ((with_reducible refine gate_callee (f := 41) rfl ?_); refine goesL_ (some 7) rfl rfl Try.func41 (by kernel_rfl) rfl #[.int .i64 a0, .int .i64 a1] rfl (by (try simp only [List.map_toArray, List.map_cons, List.map_nil]); first | done | rfl | (simp only [List.length_drop, List.length_take]; rfl)) ?_; (with_reducible refine (prop_often.calls a0 a1 false _ A3.out).mono ?_); rintro e w' ⟨rfl, ⟨nd, rfl⟩⟩; refine ⟨_, rfl, ?_⟩))
    go_ret
    exact ⟨by first | rfl | (simp [errW_none, errW_some] <;> rfl) | (simp [*, errW_none, errW_some] <;> rfl), by repeat (first | (with_reducible first | exact HB.out | apply below_alloc | apply pw_below_drewN | apply below_drew1) | exact HB.out)⟩

end Go.Proofs.Ytngmipfobcaojaa.HA
end

-- YtngmipfobcaojaaHAhListLaw
section
/- prop.Get, prop.Many and a list's own copy, told plainly. -/
-- FOR polyglot/prop.Valid
namespace Go.Proofs.Ytngmipfobcaojaa.HA
open Go.RowKit Go.Proofs.YtngmipfobcaojaaW.PrintWords Go.Proofs.YtngmipfobcaojaaW.PrintLast Go.Proofs.YtngmipfobcaojaaW.PrintMore
set_option linter.unusedVariables false
set_option linter.unusedSimpArgs false
theorem own_f (l : List PropT) (h : l.length ≤ 1010) : api_Prop_17.f l = some l := by
  unfold api_Prop_17.f
  simp
  omega
theorem valid5_f (kind : Int) (l : List PropT) : prop_Valid.f kind l = some (bytesS kind l).2 := rfl
theorem many_f (kind : Int) (p : PropT) (h : checkS (ruleOf p.f0) kind p = 0) : prop_Many.f kind p.f0 = some (oftenB kind p.f0) := by
  unfold prop_Many.f prop_May.f
  have hh : hasS (ruleOf p.f0) kind = true := by
    cases e : hasS (ruleOf p.f0) kind with
    | true => rfl
    | false => unfold checkS at h; rw [if_pos e] at h; omega
  rw [often_f, has_f]
  simp only [Option.bind_some]
  rw [hh]
  cases oftenB kind p.f0 <;> simp
theorem rd_mem (l : List PropT) (t : Int) (h0 : 0 ≤ t) (h1 : t < l.length) : rd_T27 l t ∈ l := by
  unfold rd_T27
  rw [List.getD_eq_getElem?_getD, List.getElem?_eq_getElem (show t.toNat < l.length by omega)]
  exact List.getElem_mem _
end Go.Proofs.Ytngmipfobcaojaa.HA
end

-- YtngmipfobcaojaaHAhLightLaw
section
/- The bound of the laws' lists, and a list's own copy. -/
-- FOR polyglot/polyglotkit.LightProps
namespace Go.Proofs.Ytngmipfobcaojaa.HA
open Go.RowKit Go.Proofs.YtngmipfobcaojaaW.PrintWords Go.Proofs.YtngmipfobcaojaaW.PrintLast Go.Proofs.YtngmipfobcaojaaW.PrintMore
set_option linter.unusedVariables false
set_option linter.unusedSimpArgs false
theorem weight_f (l : List S27) (hl : l.length ≤ 1010) : ∀ (d k : Nat) (i : Nat) (n : Int), i + d = l.length → ∃ w, polyglotkit_weight.l0 (k + d + 1) l n i = some w := by
  intro d
  induction d with
  | zero =>
    intro k i n hi
    rw [polyglotkit_weight.l0.eq_def]
    simp only []
    rw [if_neg (by omega)]
    exact ⟨_, rfl⟩
  | succ d ih =>
    intro k i n hi
    rw [show k + (d + 1) + 1 = (k + d + 1) + 1 by omega, polyglotkit_weight.l0.eq_def]
    simp only []
    rw [if_pos (by omega), if_pos (by omega), w64 ((i : Int) + 1) (by omega) (by omega), show (i : Int) + 1 = ((i + 1 : Nat) : Int) by omega]
    exact ih k (i + 1) _ (by omega)
theorem light_f (k : Nat) (l : List S27) (hk : 1012 ≤ k) : polyglotkit_LightProps.f k l = some false ∨ (polyglotkit_LightProps.f k l = some true ∧ l.length ≤ 1010) := by
  unfold polyglotkit_LightProps.f
  by_cases h : (l.length : Int) ≤ 1010
  · rw [if_pos h]
    obtain ⟨w, hw⟩ := weight_f l (by omega) l.length (k - l.length - 1) 0 0 (by omega)
    rw [show k - l.length - 1 + l.length + 1 = k by omega] at hw
    unfold polyglotkit_weight.f
    rw [show ((0 : Nat) : Int) = 0 from rfl] at hw
    rw [hw]
    by_cases hw2 : w ≤ 140000
    · exact Or.inr ⟨by simp [hw2], by omega⟩
    · exact Or.inl (by simp [hw2])
  · rw [if_neg h]
    exact Or.inl rfl
end Go.Proofs.Ytngmipfobcaojaa.HA
end

-- YtngmipfobcaojaaHAhVarLaw
section
/- The document's reading of a variable number takes back what varint.Bytes has written. -/
-- FOR polyglot/polyglotref02.Read
namespace Go.Proofs.Ytngmipfobcaojaa.HA
open Go.RowKit Go.Proofs.YtngmipfobcaojaaW.PrintWords Go.Proofs.YtngmipfobcaojaaW.PrintLast Go.Proofs.YtngmipfobcaojaaW.PrintMore
set_option linter.unusedVariables false
set_option linter.unusedSimpArgs false
theorem bytesOf_append (a b : ByteArray) : bytesOf (a ++ b) = bytesOf a ++ bytesOf b := by
  unfold bytesOf
  simp [ByteArray.data_append]
theorem bytesOf_nums (l : List Int) (h : ∀ x ∈ l, 0 ≤ x ∧ x < 256) : bytesOf (strOfNums l) = l := by
  unfold bytesOf
  rw [Go.strOfNums_data, List.map_map]
  conv => rhs; rw [← List.map_id l]
  apply List.map_congr_left
  intro x hx
  have := h x hx
  simp only [Function.comp, id]
  rw [UInt8.toNat_ofNat_of_lt' (by simp; omega)]
  omega
theorem varTo_range : ∀ (d x : Nat), ∀ y ∈ varTo d x, 0 ≤ y ∧ y < 256 := by
  intro d
  induction d with
  | zero =>
    intro x y hy
    simp only [varTo, List.mem_singleton] at hy
    omega
  | succ d ih =>
    intro x y hy
    simp only [varTo] at hy
    split at hy
    · rcases List.mem_cons.1 hy with rfl | hy
      · rw [Go.u8_or128_right _ (by omega) (by omega)]; omega
      · exact ih _ y hy
    · simp only [List.mem_singleton] at hy
      omega
theorem varTo_len : ∀ (d x : Nat), 1 ≤ (varTo d x).length ∧ (varTo d x).length ≤ d + 1 := by
  intro d
  induction d with
  | zero => intro x; simp [varTo]
  | succ d ih =>
    intro x
    simp only [varTo]
    split
    · have := ih (x / 128); simp; omega
    · simp
theorem bt_drop (s : ByteArray) (l : List Int) (i : Nat) (h : (bytesOf s).drop i = l) (j : Nat) (hj : j < l.length) : bt s ((i + j : Nat) : Int) = l[j]'hj ∧ i + j < s.size := by
  have hl : i + j < (bytesOf s).length := by
    have := congrArg List.length h
    rw [List.length_drop] at this
    omega
  refine ⟨?_, by rw [bytesOf_length] at hl; exact hl⟩
  rw [← rd_bytesOf]
  unfold rd
  subst h
  rw [List.getD_eq_getElem?_getD, Int.toNat_natCast, List.getElem?_eq_getElem hl]
  simp
theorem read_l0 : ∀ (d k x acc M i : Nat) (s : ByteArray) (t : List Int), x < 128 ^ (d + 1) → i + d = 3 → acc + x * M < 268435456 → ((i = 0 ∧ M = 1) ∨ (i = 1 ∧ M = 128) ∨ (i = 2 ∧ M = 16384) ∨ (i = 3 ∧ M = 2097152)) → (i = 0 ∨ 0 < x) → (bytesOf s).drop i = varTo d x ++ t → d < k →
    polyglotref02_Read.l0 k s acc M i = some (((acc + x * M : Nat) : Int), ((i + (varTo d x).length : Nat) : Int), (0 : Int)) := by
  intro d
  induction d with
  | zero =>
    intro k x acc M i s t hx hi hX hM h0 hs hk
    obtain ⟨k, rfl⟩ : ∃ m, k = m + 1 := ⟨k - 1, by omega⟩
    obtain ⟨b0, b1⟩ := bt_drop s _ i hs 0 (by simp [varTo])
    have b0' : bt s (i : Int) = (x : Int) := by
      have e : (varTo 0 x ++ t)[0]'(by simp [varTo]) = (x : Int) % 256 := by simp [varTo]
      rw [Nat.add_zero] at b0
      rw [b0, e]; omega
    rw [polyglotref02_Read.l0.eq_def]
    simp only []
    have hxM : ((x * M : Nat) : Int) = (x : Int) * (M : Int) := by push_cast; rfl
    rw [if_pos (by omega), if_neg (by omega), if_pos (by omega), if_pos (by omega), b0', if_pos (by omega)]
    have em : Int.tmod (x : Int) 128 = x := by rw [Int.tmod_eq_emod_of_nonneg (by omega)]; omega
    rw [em, w64 (x : Int) (by omega) (by omega), ← hxM, w64 ((x * M : Nat) : Int) (by omega) (by omega), w64 _ (by omega) (by omega), w64 _ (by omega) (by omega)]
    have er : (some ((acc : Int) + ((x * M : Nat) : Int), (i : Int) + 1, (0 : Int))) = some (((acc + x * M : Nat) : Int), ((i + (varTo 0 x).length : Nat) : Int), 0) := by
      simp [varTo]
    by_cases hi0 : (i : Int) > 0
    · rw [if_pos hi0, if_neg (by omega)]
      exact er
    · rw [if_neg hi0]
      exact er
  | succ d ih =>
    intro k x acc M i s t hx hi hX hM h0 hs hk
    obtain ⟨k, rfl⟩ : ∃ m, k = m + 1 := ⟨k - 1, by omega⟩
    obtain ⟨b0, b1⟩ := bt_drop s _ i hs 0 (by have := varTo_len (d + 1) x; simp; omega)
    rw [Nat.add_zero] at b0
    rw [polyglotref02_Read.l0.eq_def]
    simp only []
    have hxM : ((x * M : Nat) : Int) = (x : Int) * (M : Int) := by push_cast; rfl
    rw [if_pos (by omega), if_neg (by omega), if_pos (by omega), if_pos (by omega)]
    by_cases hx8 : x ≥ 128
    · have ev : varTo (d + 1) x = (((x : Int) % 128) % 256 + 128) :: varTo d (x / 128) := by
        simp only [varTo]
        rw [if_pos hx8, Go.u8_or128_right _ (by omega) (by omega)]
      have b0' : bt s (i : Int) = (x : Int) % 128 + 128 := by
        rw [b0]
        simp only [ev, List.cons_append, List.getElem_cons_zero]
        omega
      rw [b0', if_neg (by omega)]
      have em : Int.tmod ((x : Int) % 128 + 128) 128 = ((x % 128 : Nat) : Int) := by rw [Int.tmod_eq_emod_of_nonneg (by omega)]; omega
      have hxm2 : ((x % 128 * M : Nat) : Int) = ((x % 128 : Nat) : Int) * (M : Int) := by push_cast; rfl
      have hsum : x % 128 * M + x / 128 * (M * 128) = x * M := by
        have := Nat.mod_add_div x 128
        calc x % 128 * M + x / 128 * (M * 128) = (x % 128 + 128 * (x / 128)) * M := by rw [Nat.add_mul]; congr 1; rw [Nat.mul_comm M 128, ← Nat.mul_assoc, Nat.mul_comm 128 (x / 128)]
          _ = x * M := by rw [this]
      rw [em, w64 ((x % 128 : Nat) : Int) (by omega) (by omega), ← hxm2, w64 ((x % 128 * M : Nat) : Int) (by omega) (by omega), w64 ((acc : Int) + _) (by omega) (by omega), w64 ((M : Int) * 128) (by omega) (by omega), w64 ((i : Int) + 1) (by omega) (by omega)]
      rw [show (acc : Int) + ((x % 128 * M : Nat) : Int) = ((acc + x % 128 * M : Nat) : Int) by omega, show (M : Int) * 128 = ((M * 128 : Nat) : Int) by omega, show (i : Int) + 1 = ((i + 1 : Nat) : Int) by omega]
      rw [ih k (x / 128) (acc + x % 128 * M) (M * 128) (i + 1) s t (by rw [Nat.pow_succ] at hx; omega) (by omega) (by omega) (by omega) (Or.inr (by omega)) (by
          rw [← List.drop_drop, hs, ev]; simp) (by omega)]
      rw [ev, List.length_cons]
      simp only [Option.some.injEq, Prod.mk.injEq]
      exact ⟨by omega, by omega, trivial⟩
    · have ev : varTo (d + 1) x = [(x : Int) % 256] := by
        simp only [varTo]
        rw [if_neg hx8]
      have b0' : bt s (i : Int) = (x : Int) := by
        rw [b0]
        simp only [ev, List.cons_append, List.getElem_cons_zero]
        omega
      rw [b0', if_pos (by omega)]
      have em : Int.tmod (x : Int) 128 = x := by rw [Int.tmod_eq_emod_of_nonneg (by omega)]; omega
      rw [em, w64 (x : Int) (by omega) (by omega), ← hxM, w64 ((x * M : Nat) : Int) (by omega) (by omega), w64 _ (by omega) (by omega), w64 _ (by omega) (by omega)]
      have er : (some ((acc : Int) + ((x * M : Nat) : Int), (i : Int) + 1, (0 : Int))) = some (((acc + x * M : Nat) : Int), ((i + (varTo (d + 1) x).length : Nat) : Int), 0) := by
        rw [ev]
        simp
      by_cases hi0 : (i : Int) > 0
      · rw [if_pos hi0, if_neg (by omega)]
        exact er
      · rw [if_neg hi0]
        exact er
theorem read_var (n : Nat) (h : n ≤ 268435455) (t : ByteArray) (k : Nat) (hk : 3 < k) :
    polyglotref02_Read.f k ((varS n).1 ++ t) = some ((n : Int), (((varS n).1.size : Nat) : Int), 0) := by
  have e : (varS n).1 = strOfNums (varTo 3 n) := by
    unfold varS
    rw [if_pos (by constructor <;> omega), Int.toNat_natCast]
  have := read_l0 3 k n 0 1 0 ((varS n).1 ++ t) (bytesOf t) (by omega) rfl (by omega) (Or.inl ⟨rfl, rfl⟩) (Or.inl rfl) (by
    rw [List.drop_zero, bytesOf_append, e, bytesOf_nums _ (varTo_range 3 n)]) hk
  unfold polyglotref02_Read.f
  rw [show ((0 : Nat) : Int) = 0 from rfl, show ((1 : Nat) : Int) = 1 from rfl] at this
  rw [this, e, strOfNums_size]
  simp
end Go.Proofs.Ytngmipfobcaojaa.HA
end

-- YtngmipfobcaojaaHAhLives5
section
/- The example of the chapter is so. -/
-- FOR polyglot/polyglotlaw05.lives
namespace Go.Proofs.Ytngmipfobcaojaa.HA
open Go.RowKit Go.Proofs.YtngmipfobcaojaaW.PrintWords Go.Proofs.YtngmipfobcaojaaW.PrintLast Go.Proofs.YtngmipfobcaojaaW.PrintMore
set_option linter.unusedVariables false
set_option linter.unusedSimpArgs false
set_option maxRecDepth 100000 in
theorem lives5_f : polyglotlaw05_lives.f = some true := by
  unfold polyglotlaw05_lives.f prop_Bytes.f
  kernel_rfl
end Go.Proofs.Ytngmipfobcaojaa.HA
end

-- YtngmipfobcaojaaHAhPick
section
/- Pick answers a place of the list. -/
-- FOR polyglot/polyglotkit.Pick
namespace Go.Proofs.Ytngmipfobcaojaa.HA
open Go.RowKit Go.Proofs.YtngmipfobcaojaaW.PrintWords Go.Proofs.YtngmipfobcaojaaW.PrintLast Go.Proofs.YtngmipfobcaojaaW.PrintMore
set_option linter.unusedVariables false
set_option linter.unusedSimpArgs false
theorem pick_f (a n : Int) (h1 : -9223372036854775808 ≤ a) (h2 : a ≤ 9223372036854775807) (n1 : 1 ≤ n) (n2 : n ≤ 9223372036854775807) :
    ∃ t, polyglotkit_Pick.f a n = some t ∧ 0 ≤ t ∧ t < n := by
  unfold polyglotkit_Pick.f
  rw [if_neg (by omega), if_neg (by omega)]
  have e : Int.tmod a n = a - n * Int.tdiv a n := by have := Int.mul_tdiv_add_tmod a n; omega
  have hb : Int.tmod a n < n := Int.tmod_lt_of_pos a (by omega)
  have hb2 : - n < Int.tmod a n := by
    by_cases h : 0 ≤ a
    · have := Int.tmod_nonneg n h; omega
    · have h3 : Int.tmod a n = - Int.tmod (-a) n := by rw [Int.neg_tmod]; omega
      have := Int.tmod_lt_of_pos (-a) (show 0 < n by omega)
      omega
  by_cases hn : Int.tmod a n < 0
  · rw [if_pos hn]
    refine ⟨_, rfl, ?_⟩
    unfold wrap64
    omega
  · rw [if_neg hn]
    exact ⟨_, rfl, by omega, hb⟩
theorem wf_i64 {a : Int} (h : (Lit.int .i64 a).wf = true) : -9223372036854775808 ≤ a ∧ a ≤ 9223372036854775807 := by
  simp only [Lit.wf, Bool.and_eq_true, decide_eq_true_eq] at h
  have e1 : IntKind.i64.min = -9223372036854775808 := by decide
  have e2 : IntKind.i64.max = 9223372036854775807 := by decide
  omega
end Go.Proofs.Ytngmipfobcaojaa.HA
end

-- YtngmipfobcaojaaHAhOpenProps
section
/- An argument that is a list of properties, opened: the list behind it. -/
-- FOR polyglot/prop.Check
namespace Go.Proofs.Ytngmipfobcaojaa.HA
open Go.RowKit Go.Proofs.YtngmipfobcaojaaW.PrintWords Go.Proofs.YtngmipfobcaojaaW.PrintLast Go.Proofs.YtngmipfobcaojaaW.PrintMore
set_option linter.unusedVariables false
set_option linter.unusedSimpArgs false
open Go.ChangeShapes Go.WideShapes Go.ChangeAt Go.Joins Go.Deep
structure OkP (x : S27) : Prop where
  i0 : (Lit.int .i64 x.f0).wf = true
  i1 : (Lit.int .u32 x.f1).wf = true
  s2 : x.f2.size ≤ maxLen
  s3 : x.f3.size ≤ maxLen
theorem list4 {α : Type} (cs : List α) (h : cs.length = 4) : ∃ v0 v1 v2 v3, cs = [v0, v1, v2, v3] := by
  rcases cs with _ | ⟨v0, _ | ⟨v1, _ | ⟨v2, _ | ⟨v3, _ | ⟨v4, l⟩⟩⟩⟩⟩
  · simp at h
  · simp at h
  · simp at h
  · simp at h
  · exact ⟨v0, v1, v2, v3, rfl⟩
  · simp at h
theorem open_prop_cells {H : Type} {enc : TypeId × Value → H} {W : World} {base : Nat} {spare : Nat → Bool} {held : Bool} {n : Nat} {cs : List Value} {y : DataW H × List MemPlace}
    (h : DataW.trod enc Try.prog W base spare held n 27 cs = some y) :
    ∃ x : S27, cs = [.int .i64 x.f0, .int .u32 x.f1, .string x.f2, .string x.f3] ∧ OkP x := by
  obtain ⟨y0, y1, y2, y3, n', _, hlen, h0, h1, h2, h3⟩ := trod_struct4 Try.underlying27 h
  have hl : cs.length = 4 := hlen.trans (by kernel_rfl)
  obtain ⟨v0, v1, v2, v3, rfl⟩ := list4 cs hl
  have e0 : Try.prog.cellsOf 3 = 1 := by kernel_rfl
  have e1 : Try.prog.cellsOf 25 = 1 := by kernel_rfl
  have e2 : Try.prog.cellsOf 9 = 1 := by kernel_rfl
  rw [show Try.prog.cellsOf _ = 1 from e0] at h0
  rw [show Try.prog.cellsOf _ = 1 from e1] at h1
  rw [show Try.prog.cellsOf _ = 1 from e2] at h2 h3
  obtain ⟨x0, q0, _, w0⟩ := DataW.trod_int Try.underlying3 h0
  obtain ⟨x1, q1, _, w1⟩ := DataW.trod_int Try.underlying25 h1
  obtain ⟨x2, q2, _, w2⟩ := DataW.trod_string Try.underlying9 h2
  obtain ⟨x3, q3, _, w3⟩ := DataW.trod_string Try.underlying9 h3
  simp at q0 q1 q2 q3
  subst q0 q1 q2 q3
  exact ⟨⟨x0, x1, x2, x3⟩, rfl, ⟨w0, w1, w2, w3⟩⟩
theorem open_props {H : Type} {enc : TypeId × Value → H} {W : World} {base : Nat} {spare : Nat → Bool} {held : Bool} {a : Option Addr} {len cap : Nat} {d : DataW H} {ps : List MemPlace}
    (h : DataW.Trod enc Try.prog W base spare held 32 (.slice a len cap) d ps) :
    ∃ l : List S27, Kd.C k27 W a l.length l ∧ l.length = len ∧ len ≤ cap ∧ l.length ≤ maxLen ∧ ∀ x ∈ l, OkP x := by
  obtain ⟨fuel, hf⟩ := h
  have hmax : (maxLen : Nat) ≤ 9223372036854775807 := by decide
  rcases open_slice Try.underlying32 hf with ⟨hcs, _⟩ | ⟨x, l, c, m, n, D, Pl, hcs, _, hl, hm, hmm, _, hx⟩
  · simp [Value.cells] at hcs
    obtain ⟨rfl, rfl, rfl⟩ := hcs
    exact ⟨[], ⟨rfl, by decide, fun q => absurd q (by simp)⟩, rfl, Nat.le_refl _, Nat.zero_le _, fun _ q => by simp at q⟩
  · simp [Value.cells] at hcs
    obtain ⟨rfl, rfl, rfl⟩ := hcs
    have hlm : len ≤ m := by rw [hmm]; split <;> omega
    have e4 : Try.prog.cellsOf 27 = 4 := by kernel_rfl
    haveI : Inhabited S27 := ⟨z27⟩
    obtain ⟨f, hfx⟩ := choose_lt (α := S27) (n := len) (p := fun i y => (∀ j u, ([.int .i64 y.f0, .int .u32 y.f1, .string y.f2, .string y.f3] : List Value)[j]? = some u → W.cell? (x.add (i * 4 + j)) = some u) ∧ OkP y) (fun i hi => by
      obtain ⟨cs', h1, h2⟩ := hx i (by omega)
      obtain ⟨y, rfl, hy⟩ := open_prop_cells h2
      refine ⟨y, fun j u hu => ?_, hy⟩
      obtain ⟨_, _, hc⟩ := World.cells?_some h1
      have hj : j < 4 := by
        by_cases q : j < 4
        · exact q
        · rw [List.getElem?_eq_none (by simpa using q)] at hu; exact absurd hu (by simp)
      have := hc j (by rw [e4]; exact hj)
      rw [e4, hu, Go.Deep.add_add] at this
      exact this)
    refine ⟨(List.range len).map f, ⟨rfl, by simp; omega, fun _ => ⟨x, rfl, fun j p hj => ?_⟩⟩, by simp, hl, by simp; omega, fun y hy => ?_⟩
    · have hjl : j < len := by
        by_cases q : j < len
        · exact q
        · rw [List.getElem?_eq_none (by simpa using q)] at hj; exact absurd hj (by simp)
      rw [List.getElem?_map, List.getElem?_range hjl] at hj
      obtain rfl : f j = p := by simpa using hj
      exact ⟨_, rfl, k27_mk W (f j), (hfx j hjl).1⟩
    · obtain ⟨i, hi, rfl⟩ := List.mem_map.1 hy
      exact (hfx i (List.mem_range.1 hi)).2
end Go.Proofs.Ytngmipfobcaojaa.HA
end

-- YtngmipfobcaojaaPurePropHalves
section
/- The plain law of PropHalves: no program in sight. -/
-- FOR polyglot/polyglotlaw05.PropHalves
namespace Go.Proofs.Ytngmipfobcaojaa.Pure
open Go.Proofs.Ytngmipfobcaojaa.HA
open Go.RowKit Go.Proofs.YtngmipfobcaojaaW.PrintWords Go.Proofs.YtngmipfobcaojaaW.PrintLast Go.Proofs.YtngmipfobcaojaaW.PrintMore
set_option linter.unusedVariables false
set_option linter.unusedSimpArgs false
theorem behind_f (n : Nat) (h : n ≤ 268435455) (t : ByteArray) (k : Nat) (hk : 3 < k) (hs : t.size ≤ 1000000000) : polyglotlaw05_behind.f k ((varS n).1 ++ t) = some t := by
  unfold polyglotlaw05_behind.f
  rw [read_var n h t k hk]
  simp only [Option.bind_some]
  rw [if_pos (by omega), if_pos (by simp only [ByteArray.size_append]; omega)]
  rw [Int.toNat_natCast]
  congr 1
  apply ByteArray.ext
  rw [ByteArray.data_extract, ByteArray.data_append, ByteArray.size_append]
  apply Array.ext'
  rw [Array.toList_extract, List.extract_eq_take_drop, Array.toList_append]
  have hl : (varS n).1.data.toList.length = (varS n).1.size := by simp
  have ht : t.data.toList.length = t.size := by simp
  rw [← hl, List.drop_left, List.take_of_length_le (by omega)]
theorem get_l0 (l : List PropT) (id : Int) (hl : l.length ≤ 1010) : ∀ (d k i : Nat), i + d = l.length → d < k → (∃ p ∈ l.drop i, p.f0 = id) →
    ∃ r0 r1 r2 r3, prop_Get.l0 k id l l.length i = some (r0, r1, r2, r3, true) := by
  intro d
  induction d with
  | zero =>
    intro k i hi hk h
    obtain ⟨p, hp, _⟩ := h
    rw [List.drop_of_length_le (by omega)] at hp
    simp at hp
  | succ d ih =>
    intro k i hi hk h
    obtain ⟨k, rfl⟩ : ∃ m, k = m + 1 := ⟨k - 1, by omega⟩
    rw [prop_Get.l0.eq_def]
    simp only []
    rw [if_pos (by omega), if_pos (by omega), if_pos (by omega)]
    by_cases e : (rd_T27 l i).f0 = id
    · rw [if_pos e]
      exact ⟨_, _, _, _, rfl⟩
    · rw [if_neg e, w64 _ (by omega) (by omega), show (i : Int) + 1 = ((i + 1 : Nat) : Int) by omega]
      apply ih k (i + 1) (by omega) (by omega)
      obtain ⟨p, hp, hid⟩ := h
      rw [drop_rd l i (by omega)] at hp
      rcases List.mem_cons.1 hp with rfl | hp
      · exact absurd hid e
      · exact ⟨p, hp, hid⟩
theorem encL_append (a b : List PropT) : encL (a ++ b) = encL a ++ encL b := by
  unfold encL
  simp
theorem data_get {l m : List PropT} (h : ¬ dataOk m = true) (hs : ∀ p ∈ m, p ∈ l) : ∃ p ∈ l, p.f0 = 22 := by
  unfold dataOk at h
  simp only [Bool.not_eq_true', Bool.and_eq_false_iff, decide_eq_false_iff_not] at h
  have h2 : 0 < cnt 22 m := Classical.byContradiction fun q => h (Or.inl q)
  unfold cnt at h2
  rw [List.countP_pos_iff] at h2
  obtain ⟨p, hp, e⟩ := h2
  have : p.f0.toNat = 22 := by simpa using e
  exact ⟨p, hs p hp, by omega⟩
theorem PropHalves : ∀ (a0 : Int) (l1 : List PropT) (a2 : Int), (Lit.int .i64 a0).wf = true → l1.length ≤ maxLen → (∀ x ∈ l1, OkP x) → (Lit.int .i64 a2).wf = true →
    ∃ k, polyglotlaw05_PropHalves.f k a0 l1 a2 = some true := by
  intro a0 l1 a2 _ _ _ hw2
  have hwf := wf_i64 hw2
  refine ⟨2000, ?_⟩
  unfold polyglotlaw05_PropHalves.f
  rw [lives5_f]
  simp only [Option.bind_some, if_true]
  have hj0 : polyglotlaw05_PropHalves.j0 2000 a0 l1 a2 true = some true := by
    rw [show (2000 : Nat) = 1999 + 1 from rfl, polyglotlaw05_PropHalves.j0.eq_def]
    simp only [if_true]
  rcases light_f 2000 l1 (by omega) with hl | ⟨hl, hlen⟩
  · rw [hl]
    simp only [Option.bind_some, Bool.false_eq_true, if_false]
    exact hj0
  rw [hl]
  simp only [Option.bind_some, if_true, valid5_f]
  by_cases hv : (bytesS a0 l1).2 = 0
  rotate_left
  · rw [bne_iff_ne.2 hv]; exact hj0
  rw [hv, show (2000 : Nat) = 1999 + 1 from rfl, polyglotlaw05_PropHalves.j0.eq_def]
  simp only [bne_self_eq_false, Bool.false_eq_true, if_false]
  rw [w64 _ (by omega) (by omega)]
  obtain ⟨t, ht, ht0, ht1⟩ := pick_f a2 ((l1.length : Int) + 1) hwf.1 hwf.2 (by omega) (by omega)
  rw [ht]
  unfold prop_Bytes.f
  simp only [Option.bind_some]
  rw [if_pos ht0, if_pos (by omega), own_f _ (by rw [List.length_take]; omega), own_f _ (by rw [List.length_drop]; omega)]
  simp only [Option.bind_some]
  rw [if_pos hv]
  obtain ⟨hg, hd⟩ := bytes_ok.1 hv
  have hg1 : good a0 (l1.take t.toNat) := good_sub (List.take_sublist _ _) hg
  have hg2 : good a0 (l1.drop t.toNat) := good_sub (List.drop_sublist _ _) hg
  have hb := bytes_of hv
  have h1 := bytes_good hg1
  have h2 := bytes_good hg2
  have henc : encL l1 = encL (l1.take t.toNat) ++ encL (l1.drop t.toNat) := by
    have := encL_append (l1.take t.toNat) (l1.drop t.toNat)
    rwa [List.take_append_drop] at this
  have hle := encL_len l1
  have hle1 : (encL l1).length = (encL (l1.take t.toNat)).length + (encL (l1.drop t.toNat)).length := by rw [henc, List.length_append]
  have hl1 := hg.1
  by_cases hd1 : dataOk (l1.take t.toNat) = true
  · by_cases hd2 : dataOk (l1.drop t.toNat) = true
    · rw [hd1, if_pos rfl] at h1
      rw [hd2, if_pos rfl] at h2
      rw [h1, h2, hb]
      simp only [if_true, bne_self_eq_false]
      rw [show (1999 : Nat) = 1998 + 1 from rfl, polyglotlaw05_PropHalves.j1.eq_def]
      simp only [Bool.false_eq_true, if_false]
      rw [behind_f _ (by omega) _ _ (by omega) (by rw [strOfNums_size]; omega), behind_f _ (by omega) _ _ (by omega) (by rw [strOfNums_size]; omega), behind_f _ (by omega) _ _ (by omega) (by rw [strOfNums_size]; omega)]
      simp only [Option.bind_some]
      rw [if_pos (by simp only [strOfNums_size]; omega)]
      have : strOfNums (encL (l1.take t.toNat)) ++ strOfNums (encL (l1.drop t.toNat)) = strOfNums (encL l1) := by
        rw [henc]
        apply ByteArray.ext
        rw [ByteArray.data_append]
        apply Array.ext'
        rw [Array.toList_append, Go.strOfNums_data, Go.strOfNums_data, Go.strOfNums_data, List.map_append]
      rw [this]
      simp
    · rw [if_neg hd2] at h2
      rw [hd1, if_pos rfl] at h1
      rw [h1, h2, hb]
      simp only [if_true]
      have hne : (((9 : Int) != 0) : Bool) = true := by decide
      rw [hne, show (1999 : Nat) = 1998 + 1 from rfl, polyglotlaw05_PropHalves.j1.eq_def]
      simp only [if_true]
      obtain ⟨r0, r1, r2, r3, hget⟩ := get_l0 l1 22 hlen l1.length 1998 0 (by omega) (by omega) (by rw [List.drop_zero]; exact data_get hd2 (fun p hp => List.drop_subset _ _ hp))
      unfold prop_Get.f
      rw [show ((0 : Nat) : Int) = 0 from rfl] at hget
      rw [hget]
      simp
  · rw [if_neg hd1] at h1
    have h2' : (bytesS a0 (l1.drop t.toNat)).2 = 0 ∨ (bytesS a0 (l1.drop t.toNat)).2 = 9 := by
      rw [h2]
      split
      · exact Or.inl rfl
      · exact Or.inr rfl
    rw [h1, hb]
    simp only []
    rw [if_neg (by decide), show (1999 : Nat) = 1998 + 1 from rfl, polyglotlaw05_PropHalves.j1.eq_def]
    simp only [if_true]
    obtain ⟨r0, r1, r2, r3, hget⟩ := get_l0 l1 22 hlen l1.length 1998 0 (by omega) (by omega) (by rw [List.drop_zero]; exact data_get hd1 (fun p hp => List.take_subset _ _ hp))
    unfold prop_Get.f
    rw [show ((0 : Nat) : Int) = 0 from rfl] at hget
    rw [hget]
    rcases h2' with h2' | h2' <;> rw [h2'] <;> simp
end Go.Proofs.Ytngmipfobcaojaa.Pure
end

-- YtngmipfobcaojaaLawPropHalves
section
/- The row of the law PropHalves, out of its plain law and the walk of its function. -/
namespace Go.Proofs.Ytngmipfobcaojaa.propHalves
open Go.ChangeShapes Go.WideShapes Go.ChangeAt Go.RowKit Go.Proofs.Ytngmipfobcaojaa.HA
open Go.ChangeMaps (open_string shut_string)
set_option linter.unusedVariables false
theorem own : ownKnob Try.prog.godebug = none := by kernel_rfl
theorem laidOut : laidOutB Try.prog = true := by kernel_rfl
set_option maxRecDepth 100000 in
theorem lifted (os : Os) (started : os.Started) (H : Type) (enc : TypeId × Value → H) :
    ReturnsInHanded {} Try.checked os 5 .any (Rows.propHalvesSpec.pre6 enc Try.prog Try.f5 Rows.propHalvesRow.domain false) (Rows.propHalvesSpec.post enc Try.prog Try.f5 false true false false) := by
  refine returnsInHanded_of_change_sized (C := Try.checked) own started (by kernel_rfl) Try.func5
    (ChangeSpec.witness6 (enc := enc) (C := Try.checked) false ⟨#[], #[.int .i64 0, .slice none 0 0, .int .i64 0], []⟩ 8 (by kernel_rfl) (by kernel_rfl) (by kernel_rfl) (by kernel_rfl)) ?_
  intro W base args ds gs before hval0 hW hcnd hsz0 _
  have hsz : (DataW.weightsEach Try.prog (Try.f5.params.toList ++ Rows.propHalvesSpec.plain.varTypes Try.prog) (ds ++ gs)).all (· ≤ reachBytes) = true := hsz0
  have hval : ∀ (j : Nat) t v, Try.f5.params[j]? = some t → args[j]? = some v → Value.okWide Try.prog W .any base t v := hval0
  have hW' := hW
  obtain ⟨p, q, hA0, hV, rfl, hfz, hnd⟩ := hW
  have hA : DataW.TrodAll enc Try.prog W 0 (fun _ => true) true Try.f5.params.toList args.toList ds p := hA0
  rw [Try.params5] at hA hval hsz
  obtain ⟨v0, vs0, d0, ds0, p0, q0, hargs, rfl, rfl, h0, r0⟩ := trodAll_cons hA
  obtain ⟨v1, vs1, d1, ds1, p1, q1, rfl, rfl, rfl, h1, r1⟩ := trodAll_cons r0
  obtain ⟨v2, vs2, d2, ds2, p2, q2, rfl, rfl, rfl, h2, r2⟩ := trodAll_cons r1
  obtain ⟨rfl, rfl, rfl⟩ := trodAll_nil r2
  obtain rfl : args = #[v0, v1, v2] := by cases args; simp_all
  obtain ⟨rfl, rfl⟩ := trodVars_none hV
  obtain ⟨a0, rfl, rfl, rfl, w0⟩ := open_int Try.underlying3 (hval 0 3 v0 rfl rfl) h0
  obtain ⟨a1, len1, cap1, rfl⟩ := okWide_slice Try.underlying32 (hval 1 32 v1 rfl rfl)
  have k1 := h1
  have lt1 : ∀ x ∈ p1, x.block < W.heap.size := by obtain ⟨m, hm⟩ := k1; exact DataW.trod_lt m _ _ _ hm
  obtain ⟨l1, hC1, rfl, hc1, m1, ok1⟩ := open_props h1
  obtain ⟨a2, rfl, rfl, rfl, w2⟩ := open_int Try.underlying3 (hval 2 3 v2 rfl rfl) h2
  clear hA0 hval0 hsz0 hsz
  obtain ⟨k, hk⟩ := Pure.PropHalves a0 l1 a2 w0 m1 ok1 w2
  refine (polyglotlaw05_PropHalves.calls k a0 a1 cap1 l1 a2 true W hC1 hc1 hk).mono fun e W' ⟨he, bel⟩ => ?_
  subst he
  exact ⟨_, rfl, _, _, _, [], _, [], hW', trodAll_mk1 (shut_bool Try.underlying4 _), (trodAll_cons_mk (shut_int Try.underlying3 w0) (trodAll_cons_mk (Below.trod laidOut (by kernel_rfl) (of_decide_eq_true (by kernel_rfl)) k1 bel lt1) (trodAll_cons_mk (shut_int Try.underlying3 w2) trodAll_mk0))), rfl, bel.frame _, fun h => by cases h⟩
theorem over : Rows.propHalvesRow.holds Try.pinned (OpenSpec.ofChange Rows.propHalvesSpec) :=
  OpenClaim.holds_of_wide 5 Try.f5 rfl rfl rfl rfl rfl rfl rfl ⟨rfl, rfl, rfl, rfl, rfl⟩ rfl rfl rfl rfl rfl (by kernel_rfl) Try.func5 (by kernel_rfl)
    (of_decide_eq_true (by kernel_rfl)) (by unfold Func.isWrapper; first | (rw [if_pos (by decide +kernel)]; kernel_rfl) | (rw [if_neg (by decide +kernel)]; exact ⟨rfl, rfl⟩))
    (fun os started H enc _ => lifted os started H enc)
theorem proved : Rows.PropHalvesSaid := over
#print axioms proved
end Go.Proofs.Ytngmipfobcaojaa.propHalves
namespace Go.Proofs.Ytngmipfobcaojaa
/-- The row, under a short name, for the claim. -/
theorem propHalves_holds : Rows.PropHalvesSaid := propHalves.proved
end Go.Proofs.Ytngmipfobcaojaa
end
