/- A part of the proof: texts that were built one by one, laid together. -/
import Derived.Test.YtngmipfobcaojaaCPropTurns3
import Derived.RegionTactic
import Derived.ChangeAlike
import Derived.Deep.RegionHeld3
import Derived.Deep.AppendLies
import Derived.Lib.AppendStr
import Derived.Deep.RegionWith

-- YtngmipfobcaojaaHAhSeen
section
/- prop.seen counts properties by their ids: what (*seen).again and (*seen).lone answer, and what they leave in the array. -/
-- FOR (*polyglot/prop.seen).again
namespace Go.Proofs.Ytngmipfobcaojaa.HA
open Go.RowKit Go.Proofs.YtngmipfobcaojaaW.PrintWords Go.Proofs.YtngmipfobcaojaaW.PrintLast Go.Proofs.YtngmipfobcaojaaW.PrintMore
set_option linter.unusedVariables false
set_option linter.unusedSimpArgs false

/-- An array of 64 counts, told by a function. -/
def seenArr (c : Nat → Int) : Array Value := ((List.range 64).map fun j => Value.int .i64 (c j)).toArray
def seenObj (c : Nat → Int) : Obj := .cells (seenArr c) 71 (0, 0)
def upd (c : Nat → Int) (i : Nat) (x : Int) : Nat → Int := fun j => if j = i then x else c j
theorem seenArr_get (c : Nat → Int) (i : Nat) (h : i < 64) : (seenArr c)[i]? = some (.int .i64 (c i)) := by
  simp [seenArr, h]
theorem seenArr_set (c : Nat → Int) (i : Nat) (x : Int) : (seenArr c).setIfInBounds i (.int .i64 x) = seenArr (upd c i x) := by
  apply Array.ext'
  apply List.ext_getElem?
  intro j
  simp only [seenArr, upd, Array.toList_setIfInBounds, List.getElem?_set, List.getElem?_map, List.length_map, List.length_range]
  by_cases hj : j < 64
  · rw [List.getElem?_range hj]
    by_cases e : i = j
    · subst e; simp [hj]
    · simp [e, Ne.symm e]
  · rw [List.getElem?_eq_none (by simp; omega)]
    by_cases e : i = j
    · subst e; simp [hj]
    · simp [e]
def oftenB (kind id : Int) : Bool := id == 38 || (id == 11 && kind == 3)
theorem often_f (kind id : Int) : prop_often.f kind id = some (oftenB kind id) := by
  unfold prop_often.f oftenB
  by_cases h : id = 38
  · simp [h]
  · by_cases h2 : id = 11 <;> simp [h, h2]

theorem again_yes (g : Nat) (c : Nat → Int) (kind id : Int) (w : World) (hs : w.heap[g]? = some (seenObj c)) (h0 : 0 ≤ id) (h1 : id < 64) (hc0 : 0 ≤ c id.toNat) (hc1 : c id.toNat ≤ 2000) :
    Calls Try.prog 37 #[.pointer (some ⟨g, 0, none⟩), .int .i64 kind, .int .i64 id] w fun e w' =>
      e = .returned (.bool (decide (1 < c id.toNat + 1) && !oftenB kind id)) ∧ w'.heap[g]? = some (seenObj (upd c id.toNat (c id.toNat + 1))) ∧ w.grownBy w' (some g) := by
  have hcell : w.cell? ⟨g, id.toNat, none⟩ = some (.int .i64 (c id.toNat)) := (blk_cell hs id.toNat).trans (seenArr_get c _ (by omega))
  have hfz : w.frozen? ⟨g, id.toNat, none⟩ = false := blk_frozen hs _
  have ho : ∀ W, Calls Try.prog 41 #[.int .i64 kind, .int .i64 id] W fun e w' => e = .returned (.bool (oftenB kind id)) ∧ Drawn0 W w' := fun W => prop_often.calls kind id _ W (often_f kind id)
  have HO := Aside0.mk ho
  have HS := Aside0.mk hs
  clear ho hs
  generalize hx : c id.toNat = x at *
  have HX := Aside0.mk hx
  clear hx
  by_cases hlt : 1 < x + 1
  · have hd : decide (1 < x + 1) = true := decide_eq_true hlt
    generalize hob : oftenB kind id = ob at *
    clear hob
    go_enter Try.func37, Try.ntmps37
    go_wp2
    go_region
    go_wp2_with (go_at_call 41; refine (HO.out _).mono ?_; rintro e w' ⟨rfl, ⟨⟨nq, rfl⟩⟩⟩)
    go_ret
    refine ⟨by simp; first | (intros; omega; done) | (intros; exfalso; omega), ?_, ?_⟩
    · exact (blk_set (w := w) HS.out id.toNat (.int .i64 (x + 1))).trans (by rw [seenArr_set]; rfl)
    · exact ⟨rfl, rfl, rfl, by simp [World.setCell], fun i _ hi => Below.heap_setCell w _ _ i (fun e => hi (by rw [e]))⟩
  · have hd : decide (1 < x + 1) = false := decide_eq_false hlt
    go_enter Try.func37, Try.ntmps37
    go_wp2
    go_region
    go_wp2
    go_ret
    refine ⟨by simp; first | (intros; omega; done) | (intros; exfalso; omega), ?_, ?_⟩
    · exact (blk_set (w := w) HS.out id.toNat (.int .i64 (x + 1))).trans (by rw [seenArr_set]; rfl)
    · exact ⟨rfl, rfl, rfl, by simp [World.setCell], fun i _ hi => Below.heap_setCell w _ _ i (fun e => hi (by rw [e]))⟩

theorem lone_any (g : Nat) (c : Nat → Int) (w : World) (hs : w.heap[g]? = some (seenObj c)) :
    Calls Try.prog 39 #[.pointer (some ⟨g, 0, none⟩)] w fun e w' => e = .returned (.bool (decide (0 < c 22) && c 21 == 0)) ∧ w = w' := by
  have h22 : w.cell? ⟨g, 22, none⟩ = some (.int .i64 (c 22)) := (blk_cell hs 22).trans (seenArr_get c 22 (by omega))
  have h21 : w.cell? ⟨g, 21, none⟩ = some (.int .i64 (c 21)) := (blk_cell hs 21).trans (seenArr_get c 21 (by omega))
  clear hs
  generalize c 22 = x at *
  generalize c 21 = y at *
  by_cases hx : 0 < x
  · have hd : decide (0 < x) = true := decide_eq_true hx
    go_enter Try.func39, Try.ntmps39
    go_wp2
    go_ret
    exact ⟨by simp; intros; omega, rfl⟩
  · have hd : decide (0 < x) = false := decide_eq_false hx
    go_enter Try.func39, Try.ntmps39
    go_wp2
    go_ret
    exact ⟨by first | (simp; done) | (simp; intros; omega), rfl⟩
end Go.Proofs.Ytngmipfobcaojaa.HA
end

-- YtngmipfobcaojaaHAhBytes
section
/- prop.Bytes: its answer is told by 'bytesTo', property by property. -/
-- FOR polyglot/prop.Bytes
namespace Go.Proofs.Ytngmipfobcaojaa.HA
open Go.RowKit Go.Proofs.YtngmipfobcaojaaW.PrintWords Go.Proofs.YtngmipfobcaojaaW.PrintLast Go.Proofs.YtngmipfobcaojaaW.PrintMore
set_option linter.unusedVariables false
set_option linter.unusedSimpArgs false

/-- From the properties that are left on: the counts, the bytes so far. -/
def bytesTo (kind : Int) : List S27 → (Nat → Int) → List Int → ByteArray × Int
  | [], c, acc => if decide (0 < c 22) && c 21 == 0 then (⟨#[]⟩, 9) else if (varS acc.length).2 = 0 then ((varS acc.length).1 ++ strOfNums acc, 0) else (⟨#[]⟩, 4)
  | p :: l, c, acc =>
    if checkS (ruleOf p.f0) kind p ≠ 0 then (⟨#[]⟩, checkS (ruleOf p.f0) kind p)
    else if decide (1 < c p.f0.toNat + 1) && !oftenB kind p.f0 then (⟨#[]⟩, 9)
    else bytesTo kind l (upd c p.f0.toNat (c p.f0.toNat + 1)) (acc ++ [p.f0 % 256] ++ bytesOf (valS (ruleOf p.f0).1 p))
def bytesS (kind : Int) (l : List S27) : ByteArray × Int := if l.length > 1000 then (⟨#[]⟩, 4) else bytesTo kind l (fun _ => 0) []
def prop_Bytes.f (a0 : Int) (l1 : List S27) : Option (ByteArray × Int) := some (bytesS a0 l1)

/-- What passes the check has an id of the table. -/
theorem check_id (kind : Int) (p : S27) (h : checkS (ruleOf p.f0) kind p = 0) : 1 ≤ p.f0 ∧ p.f0 ≤ 42 := by
  have hf : ∀ l : List (Int × Int × Int × Int × Int), (∀ x ∈ l, 1 ≤ x.1 ∧ x.1 ≤ 42) → ∀ id r, ruleFind l id = some r → 1 ≤ id ∧ id ≤ 42 := by
    intro l
    induction l with
    | nil => intro _ id r h; simp [ruleFind] at h
    | cons x l ih =>
      intro hx id r h
      simp only [ruleFind] at h
      by_cases e : (id == x.1) = true
      · have := hx x List.mem_cons_self
        rw [beq_iff_eq.1 e]; exact this
      · rw [if_neg e] at h
        exact ih (fun y hy => hx y (List.mem_cons_of_mem _ hy)) id r h
  cases hr : ruleFind ruleTab p.f0 with
  | some r => exact hf ruleTab (by decide) p.f0 r hr
  | none =>
    exfalso
    have e : ruleOf p.f0 = (0, 0, 0, 0) := by unfold ruleOf; rw [hr]; rfl
    have hs : hasS (0, 0, 0, 0) kind = false := by
      unfold hasS
      have : shr .i64 0 (IntKind.u64.wrap kind) = 0 := by unfold shr; simp
      rw [this]
      have : (Go.bits .and .i64 0 1 == 1) = false := by decide
      rw [this]; simp
    rw [e] at h
    unfold checkS at h
    rw [if_pos hs] at h
    omega
theorem varS_size (n : Int) : (varS n).1.size ≤ 10 := by
  unfold varS
  split
  · rw [strOfNums_size]
    have : ∀ d x, (varTo d x).length ≤ d + 1 := by
      intro d
      induction d with
      | zero => intro x; simp [varTo]
      | succ d ih => intro x; rw [varTo]; split <;> simp; exact ih _
    have := this 3 n.toNat
    omega
  · simp [ByteArray.size]
theorem valS_size (shape : Int) (p : S27) : (valS shape p).size ≤ 131074 := by
  have h1 := binS_size p.f2
  have h2 := binS_size p.f3
  unfold valS
  split
  · rename_i h
    rw [putS_size]
    rcases h with h | h <;> rw [h] <;> decide
  · split
    · rw [putS_size]; omega
    · split
      · unfold varS
        split
        · rw [strOfNums_size]
          have : ∀ d x, (varTo d x).length ≤ d + 1 := by
            intro d
            induction d with
            | zero => intro x; simp [varTo]
            | succ d ih => intro x; rw [varTo]; split <;> simp; exact ih _
          have := this 3 (wrap64 p.f1).toNat
          omega
        · simp [ByteArray.size]
      · split
        · simp only [ByteArray.size_append]; omega
        · omega

theorem drop_rd (l : List S27) (n : Nat) (h : n < l.length) : l.drop n = rd_T27 l (n : Int) :: l.drop (n + 1) := by
  rw [List.drop_eq_getElem_cons h]
  congr 1
  simp [rd_T27, h]
theorem bytes_long (kind : Int) (A1 : Option Addr) (c1 : Nat) (l : List S27) (w : World) (h : 1000 < l.length) :
    Calls Try.prog 18 #[.int .i64 kind, .slice A1 l.length c1] w fun e w' => e = .returned (.tuple #[.string ⟨#[]⟩, .int .i64 4]) ∧ w = w' := by
  have hd : decide ((1000 : Int) < (l.length : Int)) = true := decide_eq_true (by omega)
  go_enter Try.func18, Try.ntmps18
  go_wp2
  go_ret2
  exact ⟨rfl, rfl⟩

theorem grow_drew {w W : World} {row : Option Nat} (h : w.grownBy W row) : w.grownBy W.drew row := ⟨h.os, h.tape, h.output, h.size, h.block⟩
theorem grow_alloc {w W : World} {row : Option Nat} (h : w.grownBy W row) (o : Obj) : w.grownBy (W.alloc o) row :=
  ⟨h.os, h.tape, h.output, by simp; have := h.size; omega, fun i hi hr => (Below.heap_alloc W o i (Nat.lt_of_lt_of_le hi h.size)).trans (h.block i hi hr)⟩
theorem grow_row {w W W' : World} {row row' : Option Nat} (h : w.grownBy W row) (hg : W.grownBy W' row') (hr : row' = row ∨ ∀ i, i < w.heap.size → some i ≠ row') : w.grownBy W' row :=
  ⟨hg.os.trans h.os, hg.tape.trans h.tape, hg.output.trans h.output, Nat.le_trans h.size hg.size, fun i hi hn => by
    refine (hg.block i (Nat.lt_of_lt_of_le hi h.size) ?_).trans (h.block i hi hn)
    rcases hr with rfl | hr
    · exact hn
    · exact hr i hi⟩
theorem grow_below {w W W' : World} {row : Option Nat} (h : w.grownBy W row) (hb : Below W.heap.size W W') : w.grownBy W' row := grow_row h (grown_of_below hb row) (.inl rfl)
theorem row_either {w W : World} {u : Option Nat} {g : Nat} (h : w.grownBy W u) (hat : u = some g ∨ g = W.heap.size) : some g = u ∨ ∀ i, i < w.heap.size → some i ≠ some g := by
  rcases hat with q | q
  · exact .inl q.symm
  · right
    intro i hi e
    have := h.size
    cases e
    omega
theorem grow_cell {w W : World} {row : Option Nat} (h : w.grownBy W row) {a : Addr} {v : Value} (hc : w.cell? a = some v) (hne : some a.block ≠ row) : W.cell? a = some v :=
  (h.cell_far a (World.block_lt_of_cell? w a hc) hne).trans hc
section
variable {P : Program} {w : World}
theorem step_append_str {ops : Array Oper} {o : Oper} {a : Act} {K : Act → World → Prop} {Q : Exit → Act → World → Prop} {E : Prop} (hgd : o.guard = none) (s x : Operand) (t u : TypeId)
    (ho : o.op = .call { callee := .builtin .append, args := #[s, x], argTypes := #[t, u] })
    (base : Nat) (e : TypeId) (i : TypeInfo) (ht : P.underlying t = some (.slice e)) (hu : P.underlying u = some .string) (hi : P.info? e = some i) (hz : i.zero = some (.int .u8 0))
    (hsize : i.size = 1) (hby : i.bytes = 1)
    (v : Value) (n : Nat) (xs : List Value) (hs : a.eval s = v) (hown : w.ownsRow base e 1 v n xs) (y : ByteArray) (hx : a.eval x = .string y)
    (h63 : n + y.size ≤ maxLen) (hbytes : n + y.size ≤ 140737488355328) (hbase : base ≤ w.heap.size)
    (h : ∀ v' w', w'.ownsRow base e 1 v' (n + y.size) (xs ++ Lib.strCells y) → w.grownBy w' v.ownBlock → K (a.put o.dst v') w') :
    if Region.wanted o (yielded ops a.tmps) = true then Oper.wp P o a w K Q else E := by
  have hw : Region.wanted o (yielded ops a.tmps) = true := by simp [Region.wanted, hgd]
  rw [if_pos hw]
  obtain ⟨v', w', hr, h2, h3, _⟩ := Lib.run_append_own_string (P := P) w base t u o.type e i ht hu hi hz hsize hby v n xs hown y h63 hbytes hbase
  unfold Oper.wp
  simp [execOp, ho, resolve, invoke, builtin, hs, hx, hr, Result.andThen]
  exact h v' w' h2 h3
end

/-- What holds at the head of each round. -/
structure BHead (kind : Int) (l : List S27) (res : ByteArray × Int) (w wr : World) (n : Nat) (c : Nat → Int) (acc : List Int) (v : Value) : Prop where
  map : wr.heap[w.heap.size]? = some ruleObj
  seen : wr.heap[w.heap.size + 1]? = some (seenObj c)
  own : wr.ownsRow (w.heap.size + 2) 5 1 v acc.length (nums .u8 acc)
  below : Below w.heap.size w wr
  left : bytesTo kind (l.drop n) c acc = res
  cnt : ∀ j, 0 ≤ c j ∧ c j ≤ n
  len : acc.length ≤ n * 131100

set_option maxHeartbeats 4000000 in
set_option maxRecDepth 100000 in
theorem bytes_short (kind : Int) (A1 : Option Addr) (c1 : Nat) (l : List S27) (w : World) (hr1 : Kd.C k27 w A1 l.length l) (h : l.length ≤ 1000) (res : ByteArray × Int) (hres : bytesTo kind l (fun _ => 0) [] = res) :
    Calls Try.prog 18 #[.int .i64 kind, .slice A1 l.length c1] w fun e w' => e = .returned (.tuple #[.string res.1, .int .i64 res.2]) ∧ Below w.heap.size w w' := by
  have hd : decide ((1000 : Int) < (l.length : Int)) = false := decide_eq_false (by omega)
  have HR := Aside0.mk hr1
  have HS := Aside0.mk hres
  clear hr1 hres
  go_enter Try.func18, Try.ntmps18
  go_wp2_with (first | (go_at_call 34; refine (prop_rules.calls0 _).mono ?_; rintro e w' ⟨rfl, rfl⟩) | ((with_reducible refine gate_dst (N := 7) rfl ?_); refine box_event ?hg (N := 7) ?hd (cs := seenArr (fun _ => 0)) (t := 71) ?hr ?_; (case hd => rfl); (case hg => rfl); (case hr => kernel_rfl); intro gs hg w1 hbox hb))
  have hw1 : w1.heap[w.heap.size]? = some ruleObj := (hb.block w.heap.size (by simp)).trans (heap_alloc_new w _)
  have hB1 : Below w.heap.size w w1 := below_then ((Below.refl _ _).alloc (Nat.le_refl _) _) (by simp) hb
  have hs1 : w1.heap[w.heap.size + 1]? = some (seenObj (fun _ => 0)) := by rw [hg] at hbox; simpa [seenObj] using hbox
  have H0 : BHead kind l res w w1 0 (fun _ => 0) [] (.slice none 0 0) := ⟨hw1, hs1, own_nil _ _ _ _, hB1, HS.out, fun _ => ⟨by omega, by omega⟩, by simp⟩
  clear hw1 hB1 hs1 hbox hb hg HS
  go_loopg [8, 21] l.length (fun gk v8 i21 wx => ∃ (n : Nat) (c : Nat → Int) (acc : List Int), i21 = .int .i64 n ∧ n + gk = l.length ∧ Aside0 (BHead kind l res w wx n c acc v8))
  case atStart => exact ⟨0, fun _ => 0, [], rfl, by omega, ⟨H0⟩⟩
  case round =>
    clear H0
    obtain ⟨n, c, acc, rfl, hn, HH⟩ := hrel
    cases gk with
    | zero =>
      obtain rfl : n = l.length := by omega
      have hlt : decide ((l.length : Int) < (l.length : Int)) = false := decide_eq_false (by omega)
      obtain ⟨A8, c8, rfl⟩ := own_slice HH.out.own
      have hlo := lone_any (w.heap.size + 1) c wr HH.out.seen
      have hleft := HH.out.left
      have hlen := HH.out.len
      rw [List.drop_length, bytesTo] at hleft
      have HLO := Aside0.mk hlo
      have HL := Aside0.mk hleft
      clear hlo hleft
      generalize hb : (decide (0 < c 22) && c 21 == 0) = b at *
      cases b with
      | true =>
        have hr := HL.out
        rw [if_pos rfl] at hr
        have HR1 := Aside0.mk hr
        clear hr HL hb
        go_wp2_with (go_at_call 39; refine HLO.out.mono ?_; rintro e w' ⟨rfl, rfl⟩)
        go_ret2
        exact ⟨by rw [← HR1.out]; rfl, HH.out.below⟩
      | false =>
        have hr := HL.out
        rw [if_neg (by simp)] at hr
        have hv := fun W => varint_Bytes.calls 10 (acc.length : Int) (varS acc.length).1 (varS acc.length).2 W (var_f 10 _ (by omega))
        have hvz : (varS acc.length).1.size ≤ 10 := varS_size _
        obtain ⟨vb, hvb⟩ : ∃ vb, varS acc.length = vb := ⟨_, rfl⟩
        rw [hvb] at hr hv hvz
        have HV := Aside0.mk hv
        clear HL hb hv hvb
        by_cases he : vb.2 = 0
        · rw [if_pos he] at hr
          have HR1 := Aside0.mk hr
          have ht : (vb.2 != 0) = false := by rw [bne_eq_false_iff_eq]; exact he
          have hsz := strOfNums_size acc
          have hc1 : vb.1.size + (strOfNums acc).size ≤ 9223372036854775807 := by omega
          have hc2 : decide (vb.1.size + (strOfNums acc).size ≤ 9223372036854775807) = true := decide_eq_true hc1
          have hc3 : (9223372036854775807 < vb.1.size + (strOfNums acc).size) = False := eq_false (Nat.not_lt.2 hc1)
          replace hc1 := eq_true hc1
          clear hr he hsz
          go_wp2_with (first | (go_at_call 39; refine HLO.out.mono ?_; rintro e w' ⟨rfl, rfl⟩) | (go_at_call 40; refine (HV.out _).mono ?_; rintro e w5 ⟨rfl, hb5⟩; have hcv := own_string (P := Try.prog) Try.underlying55 Try.underlying5 Try.underlying9 (pw_own_below HH.out.own hb5)))
          go_ret2
          exact ⟨by rw [← HR1.out]; rfl, below_step HH.out.below hb5⟩
        · rw [if_neg he] at hr
          have HR1 := Aside0.mk hr
          have ht : (vb.2 != 0) = true := by rw [bne_iff_ne]; exact he
          clear hr he
          go_wp2_with (first | (go_at_call 39; refine HLO.out.mono ?_; rintro e w' ⟨rfl, rfl⟩) | (go_at_call 40; refine (HV.out _).mono ?_; rintro e w5 ⟨rfl, hb5⟩))
          go_ret2
          exact ⟨by rw [← HR1.out]; rfl, below_step HH.out.below hb5⟩
    | succ g =>
      have hlt : decide ((n : Int) < (l.length : Int)) = true := decide_eq_true (by omega)
      have p0 : 0 ≤ (n : Int) := by omega
      have q0 : (n : Int) < (l.length : Int) := by omega
      obtain ⟨ad, e0, x0, x1, x2, x3⟩ := at_T27 HR.out (n : Int) p0 q0
      cases e0
      replace x0 := (HH.out.below.cell (World.block_lt_of_cell? w _ x0)).trans x0
      replace x1 := (HH.out.below.cell (World.block_lt_of_cell? w _ x1)).trans x1
      replace x2 := (HH.out.below.cell (World.block_lt_of_cell? w _ x2)).trans x2
      replace x3 := (HH.out.below.cell (World.block_lt_of_cell? w _ x3)).trans x3
      simp only [Int.toNat_natCast] at x0 x1 x2 x3
      generalize hp : rd_T27 l (n : Int) = p at *
      have HP := Aside0.mk hp
      clear hp
      have hl := run_rule_lookup (wr.alloc (.cells #[.int .i64 p.f0, .int .u32 p.f1, .string p.f2, .string p.f3] 27)) w.heap.size p.f0 (blk_alloc HH.out.map _)
      unfold ruleVal at hl
      obtain ⟨ru, hru⟩ : ∃ ru, ruleOf p.f0 = ru := ⟨_, rfl⟩
      have hck := fun W => prop_check.calls 2 ru.1 ru.2.1 ru.2.2.1 ru.2.2.2 kind p.f0 p.f1 p.f2 p.f3 _ W (check_f 0 ru kind p)
      have HCK := Aside0.mk hck
      rw [hru] at hl
      have HRU := Aside0.mk hru
      clear hck hru
      have hdrop : l.drop n = p :: l.drop (n + 1) := by rw [← HP.out]; exact drop_rd l n (by omega)
      have hleft := HH.out.left
      rw [hdrop, bytesTo, HRU.out] at hleft
      have HL := Aside0.mk hleft
      clear hdrop hleft
      go_wp2_with fail
      refine (HCK.out _).mono ?_
      rintro e w3 ⟨rfl, hb3⟩
      have HM3 := Aside0.mk (blk_below (blk_alloc (blk_alloc HH.out.map _) _) hb3)
      have HS3 := Aside0.mk (blk_below (blk_alloc (blk_alloc HH.out.seen _) _) hb3)
      have HO3 := Aside0.mk (pw_own_below (own_alloc (own_alloc HH.out.own _) _) hb3)
      have HB3 := Aside0.mk (below_step (below_alloc (below_alloc HH.out.below _) _) hb3)
      have HP3 := Aside0.mk (blk_below (blk_alloc (heap_alloc_new wr (.cells #[.int .i64 p.f0, .int .u32 p.f1, .string p.f2, .string p.f3] 27)) _) hb3)
      have HU3 := Aside0.mk (blk_below (heap_alloc_new (wr.alloc (.cells #[.int .i64 p.f0, .int .u32 p.f1, .string p.f2, .string p.f3] 27)) (.cells #[.int .i64 ru.1, .int .i64 ru.2.1, .int .u32 ru.2.2.1, .int .u32 ru.2.2.2] 65)) hb3)
      rw [World.size_alloc] at HU3
      clear hb3 x0 x1 x2 x3 hl HCK
      by_cases he : checkS ru kind p = 0
      · have ht : (checkS ru kind p != 0) = false := by rw [bne_eq_false_iff_eq]; exact he
        have hid := check_id kind p (by rw [HRU.out]; exact he)
        have hcn := HH.out.cnt p.f0.toNat
        have hsz := blk_lt HH.out.seen
        have hag := again_yes (w.heap.size + 1) c kind p.f0 w3 HS3.out (by omega) (by omega) hcn.1 (by omega)
        have HAG := Aside0.mk hag
        have hr := HL.out
        rw [if_neg (fun q => q he)] at hr
        have HR1 := Aside0.mk hr
        have hcP : w3.cell? ⟨wr.heap.size, 0, none⟩ = some (.int .i64 p.f0) := (blk_cell HP3.out 0).trans rfl
        have HE := Aside0.mk he
        have HCN := Aside0.mk hcn
        have HID := Aside0.mk hid
        clear hr HL hag he hcn hid
        generalize checkS ru kind p = ck at *
        go_wp2_with fail
        refine HAG.out.mono ?_
        rintro e w4 ⟨rfl, hs4, hg4⟩
        have HS4 := Aside0.mk hs4
        have HM4 := Aside0.mk (blk_grown HM3.out hg4 (by simp))
        have HP4 := Aside0.mk (blk_grown HP3.out hg4 (by simp; omega))
        have HU4 := Aside0.mk (blk_grown HU3.out hg4 (by simp; omega))
        have HO4 := Aside0.mk (own_other HO3.out hg4 (.inr (fun q => by have := own_base HO3.out _ q; omega)))
        have HB4 := Aside0.mk (pw_below_grown HB3.out (some (w.heap.size + 1)) HB3.out.size hg4 (fun k hk => by cases hk; omega))
        clear HS3 HM3 HP3 HU3 HO3 hs4 hg4 hcP HAG
        generalize hb : (decide (1 < c p.f0.toNat + 1) && !oftenB kind p.f0) = b at *
        cases b with
        | true =>
          have hr := HR1.out
          rw [if_pos rfl] at hr
          have HR2 := Aside0.mk hr
          clear hr HR1
          go_wp2
          go_ret2
          exact ⟨by rw [← HR2.out]; rfl, HB4.out⟩
        | false =>
          have hr := HR1.out
          rw [if_neg (by simp)] at hr
          have HR2 := Aside0.mk hr
          clear hr HR1
          obtain ⟨vs, hvs⟩ : ∃ vs, valS ru.1 p = vs := ⟨_, rfl⟩
          have hval := fun W => prop_value.calls 20 ru.1 p.f0 p.f1 p.f2 p.f3 _ W (val_f 20 ru.1 p (by omega))
          have hvz := valS_size ru.1 p
          rw [hvs] at hval hvz
          have HV := Aside0.mk hval
          have HVS := Aside0.mk hvs
          have hc0 : w4.cell? ⟨wr.heap.size, 0, none⟩ = some (.int .i64 p.f0) := (blk_cell HP4.out 0).trans rfl
          have hc1 : w4.cell? ⟨wr.heap.size, 1, none⟩ = some (.int .u32 p.f1) := (blk_cell HP4.out 1).trans rfl
          have hc2 : w4.cell? ⟨wr.heap.size, 2, none⟩ = some (.string p.f2) := (blk_cell HP4.out 2).trans rfl
          have hc3 : w4.cell? ⟨wr.heap.size, 3, none⟩ = some (.string p.f3) := (blk_cell HP4.out 3).trans rfl
          have hcu : w4.cell? ⟨wr.heap.size + 1, 0, none⟩ = some (.int .i64 ru.1) := (blk_cell HU4.out 0).trans rfl
          have hnp : some wr.heap.size ≠ u8.ownBlock := fun q => by have := own_lt HH.out.own _ q.symm; omega
          have hnu : some (wr.heap.size + 1) ≠ u8.ownBlock := fun q => by have := own_lt HH.out.own _ q.symm; omega
          obtain ⟨i0, hi0, hz0, hz1, hz2⟩ := info_parts info5
          have hlen := HH.out.len
          have hbig : w.heap.size + 2 ≤ w4.heap.size := by have := HS4.out; have := blk_lt HU4.out; omega
          have HOc := HO4
          have hwr : IntKind.u8.wrap p.f0 = p.f0 % 256 := IntKind.wrap_u8 _
          clear hval hvs HP4 HU4
          go_wp2_with fail
          go_region_held3 (fun w' => w'.cell? ⟨wr.heap.size, 0, none⟩ = some (.int .i64 p.f0) ∧ w'.cell? ⟨wr.heap.size, 1, none⟩ = some (.int .u32 p.f1) ∧ w'.cell? ⟨wr.heap.size, 2, none⟩ = some (.string p.f2) ∧ w'.cell? ⟨wr.heap.size, 3, none⟩ = some (.string p.f3) ∧ w'.cell? ⟨wr.heap.size + 1, 0, none⟩ = some (.int .i64 ru.1) ∧ w4.grownBy w' u8.ownBlock)
            ((refine (fun (hG : w4.grownBy _ u8.ownBlock) => ⟨grow_cell hG hc0 hnp, grow_cell hG hc1 hnp, grow_cell hG hc2 hnp, grow_cell hG hc3 hnp, grow_cell hG hcu hnu, hG⟩) ?_; (first | exact HG.out | exact grow_drew (World.grownBy.refl _ _) | exact grow_drew (grow_alloc (World.grownBy.refl _ _) _))))
            (first
              | (go_at_call 38; refine (HV.out _).mono ?_; rintro e w5 ⟨rfl, hbc⟩; have HOd := Aside0.mk (pw_own_below HOc.out hbc); have HGd := Aside0.mk (grow_below HG.out hbc); clear HOc HG; have HOc := HOd; have HG := HGd; clear HOd HGd)
              | (refine step_append_lies _ (by rfl) _ _ _ (by rfl) (w.heap.size + 2) 5 i0 _ 1 1 Try.underlying55 hi0 hz0 hz1 hz2 rfl (by omega) u8 acc.length (nums .u8 acc) (by rfl) ((HOc.out.alloc _).drew) ⟨w4.heap.size, 0, none⟩ 1 1 [.int .u8 (p.f0 % 256)] (by rfl) (by rfl) (World.news_of_block (cs := #[.int .u8 (p.f0 % 256)]) (t := 5) (fr := (0, 0)) (heap_alloc_new w4 _)) (by simp [Value.oneCell']) (by omega) (by unfold maxLen; omega) (by omega) (by simp; omega) _ rfl ?_; intro gq cap w6 ho6 hgrow hat hlt6; have HROW := Aside0.mk (row_either (grow_drew (grow_alloc (World.grownBy.refl w4 u8.ownBlock) (.cells #[.int .u8 (p.f0 % 256)] 5))) hat); have HG := Aside0.mk (grow_row (grow_drew (grow_alloc (World.grownBy.refl w4 u8.ownBlock) (.cells #[.int .u8 (p.f0 % 256)] 5))) hgrow (.inl rfl)); clear HOc hat; have HOc := Aside0.mk ho6; clear ho6)
              | (refine step_append_str (by rfl) _ _ _ _ (by rfl) (w.heap.size + 2) 5 i0 Try.underlying55 Try.underlying9 hi0 hz0 hz1 hz2 _ (acc.length + 1) (nums .u8 acc ++ [.int .u8 (p.f0 % 256)]) (by rfl) HOc.out vs (by rfl) (by unfold maxLen; omega) (by omega) (Nat.le_trans hbig HG.out.size) ?_; intro v7 w7 ho7 hgrow2; have HGd := Aside0.mk (grow_row HG.out hgrow2 HROW.out); clear HOc HG; have HG := HGd; have HOc := Aside0.mk ho7; clear ho7 HGd))
          have hnb : ∀ k, u8.ownBlock = some k → w.heap.size + 2 ≤ k := fun k q => own_base HH.out.own k q
          have hHH : BHead kind l res w w7 (n + 1) (upd c p.f0.toNat (c p.f0.toNat + 1)) (acc ++ [p.f0 % 256] ++ bytesOf vs) v7 := by
            refine ⟨?_, ?_, ?_, ?_, ?_, ?_, ?_⟩
            · exact (HG.out.block _ (blk_lt HM4.out) (fun q => by have := hnb _ q.symm; omega)).trans HM4.out
            · exact (HG.out.block _ (blk_lt HS4.out) (fun q => by have := hnb _ q.symm; omega)).trans HS4.out
            · have hx := HOc.out
              have e1 : nums .u8 (acc ++ [p.f0 % 256] ++ bytesOf vs) = nums .u8 acc ++ [.int .u8 (p.f0 % 256)] ++ Lib.strCells vs := by simp [nums, bytesOf, Lib.strCells]
              have e2 : (acc ++ [p.f0 % 256] ++ bytesOf vs).length = acc.length + 1 + vs.size := by simp [bytesOf_length]; omega
              rw [e1, e2]; exact hx
            · exact pw_below_grown HB4.out u8.ownBlock HB4.out.size HG.out (fun k q => by have := hnb _ q; omega)
            · rw [← HVS.out]; exact HR2.out
            · intro j
              have := HH.out.cnt j
              have := HH.out.cnt p.f0.toNat
              unfold upd
              split <;> omega
            · have e2 : (acc ++ [p.f0 % 256] ++ bytesOf vs).length = acc.length + 1 + vs.size := by simp [bytesOf_length]; omega
              rw [e2]; omega
          have HF := Aside0.mk hHH
          clear hHH HR2 HM4 HS4 HO4 HB4 HG HOc HROW HV hlen hbc hgrow hgrow2 hc0 hc1 hc2 hc3 hcu hvz HCN HID HE
          go_wp2
          go_roundg g
          case measure => omega
          case rel => exact ⟨n + 1, _, _, by first | rfl | simp, by omega, HF⟩
      · have ht : (checkS ru kind p != 0) = true := by rw [bne_iff_ne]; exact he
        have hr := HL.out
        rw [if_pos he] at hr
        have HR1 := Aside0.mk hr
        clear hr
        generalize checkS ru kind p = ck at *
        go_wp2
        go_ret2
        exact ⟨by rw [← HR1.out]; rfl, HB3.out⟩

theorem prop_Bytes.calls (a0 : Int) (A1 : Option Addr) (c1 : Nat) (l1 : List S27) (r1 : ByteArray) (r2 : Int) (w : World) (hr1 : Kd.C k27 w A1 l1.length l1) (hc1 : l1.length ≤ c1) (h : prop_Bytes.f a0 l1 = some (r1, r2)) :
    Calls Try.prog 18 #[.int .i64 a0, .slice A1 l1.length c1] w fun e w' => e = .returned (.tuple #[.string r1, .int .i64 r2]) ∧ Below w.heap.size w w' := by
  have hb : bytesS a0 l1 = (r1, r2) := Option.some.inj h
  unfold bytesS at hb
  by_cases hl : 1000 < l1.length
  · rw [if_pos hl] at hb
    cases hb
    exact (bytes_long a0 A1 c1 l1 w hl).mono fun e w' ⟨he, hw⟩ => ⟨he, hw ▸ Below.refl _ _⟩
  · rw [if_neg hl] at hb
    exact bytes_short a0 A1 c1 l1 w hr1 (by omega) (r1, r2) hb
end Go.Proofs.Ytngmipfobcaojaa.HA
end

-- YtngmipfobcaojaaHA33
section
-- Written by hp.py (a driver over the kit's print). Not trusted: Lean checks it.
namespace Go.Proofs.Ytngmipfobcaojaa.HA
open Go.RowKit Go.Proofs.YtngmipfobcaojaaW.PrintWords Go.Proofs.YtngmipfobcaojaaW.PrintLast Go.Proofs.YtngmipfobcaojaaW.PrintMore
attribute [local go_sem] max2_int min2_int max_two min_two max_three min_three max_four min_four   -- for this text's walks alone
set_option linter.unusedVariables false
set_option linter.unusedSimpArgs false

/-! ### polyglotlaw05_lives: function 11 -/
def polyglotlaw05_lives.f  : Option (Bool) := (prop_Bytes.f 3 (([(⟨1, 1, (⟨#[]⟩ : ByteArray), (⟨#[]⟩ : ByteArray)⟩ : S27)] : List (S27)))).bind fun bt140 => (if bt140.2 = 0 then (some (bt140.1.toList == ([2, 1, 1] : List UInt8))) else (some false))
set_option maxHeartbeats 8000000 in
set_option maxRecDepth 100000 in
theorem polyglotlaw05_lives.calls  (r : Bool) (w : World) (h : polyglotlaw05_lives.f  = some r) :
    Calls Try.prog 11 #[] w fun e w' => e = .returned (.bool r) ∧ Below w.heap.size w w' := by
  have hu27 := Try.underlying27
  have HB := Aside0.mk (Below.refl w.heap.size w)
  have H : ((prop_Bytes.f 3 (([(⟨1, 1, (⟨#[]⟩ : ByteArray), (⟨#[]⟩ : ByteArray)⟩ : S27)] : List (S27)))).bind fun bt140 => (if bt140.2 = 0 then (some (bt140.1.toList == ([2, 1, 1] : List UInt8))) else (some false))) = some r := h
  clear h
  obtain ⟨y137, hy137⟩ : ∃ y_ : List (S27), y_ = (([(⟨1, 1, (⟨#[]⟩ : ByteArray), (⟨#[]⟩ : ByteArray)⟩ : S27)] : List (S27))) := ⟨_, rfl⟩
  replace H : ((prop_Bytes.f 3 y137).bind fun bt140 => (if bt140.2 = 0 then (some (bt140.1.toList == ([2, 1, 1] : List UInt8))) else (some false))) = some r := by first | (rw [hy137]; with_reducible exact H) | (have H2_ := (Option.bind_some _ _).symm.trans H; rw [hy137]; with_reducible exact H2_) | (have H2_ := (Option.bind_some _ _).symm.trans H; with_reducible exact H2_) | with_reducible exact H | (rw [hy137]; exact H) | exact H
  have Ny137 := Aside0.mk hy137
  clear hy137
  replace H := Option.bind_eq_some_iff.mp H
  obtain ⟨⟨t140, t141⟩, A10, H⟩ := H
  replace H : (if t141 = 0 then (some (t140.toList == ([2, 1, 1] : List UInt8))) else (some false)) = some r := H
  have A1 := Aside0.mk A10
  clear A10
  by_cases c2 : t141 = 0
  · rw [if_pos c2] at H
    have c2b0 : (t141 == 0) = true := beq_iff_eq.mpr c2
    have c2b1 : (t141 != 0) = false := bne_eq_false_iff_eq.mpr c2
    clear c2
    obtain rfl := Option.some.inj H
    go_enter Try.func11, Try.ntmps11
    go_wp2_with (first | ((with_reducible refine gate_dst (N := 5) rfl ?_); refine Kd.R_lit k27 _ 27 ?hg (N := 5) ?hd (xs := ([(⟨1, 1, (⟨#[]⟩ : ByteArray), (⟨#[]⟩ : ByteArray)⟩ : S27)] : List (S27))) (inner := [.int .i64 1, .int .u32 1, .string (⟨#[]⟩ : ByteArray), .string (⟨#[]⟩ : ByteArray)]) (ok := fun _ => True) (okp := fun _ => True) ?hr ?hp (fun _ hk => hk) trivial (Below.refl _ _) (Nat.le_refl _) (by simp) ?_; (case hd => rfl); (case hg => rfl); (case hr => first | (go_simp; done) | (go_simp; rfl)); (case hp => exact (Reps.c4 (show Kd.M k27 _ _ _ (⟨1, 1, (⟨#[]⟩ : ByteArray), (⟨#[]⟩ : ByteArray)⟩ : S27) [.int .i64 1, .int .u32 1, .string (⟨#[]⟩ : ByteArray), .string (⟨#[]⟩ : ByteArray)] from (k27_mkM _ _ _ (⟨1, 1, (⟨#[]⟩ : ByteArray), (⟨#[]⟩ : ByteArray)⟩ : S27) )) (Reps.none _ _))); intro v138 w3 ho4 hb hg_ hnew_; clear hg_ hnew_; (first | rw [← Ny137.out] at ho4 | (simp only [Int.reduceToNat] at ho4; rw [← Ny137.out] at ho4)); have n0_ := Aside0.mk (Kd.R_lower ho4 (below_size (by repeat (first | (with_reducible first | exact HB.out | apply below_alloc | apply pw_below_drewN | apply below_drew1) | exact HB.out)))); have n1_ := Aside0.mk (below_step (by repeat (first | (with_reducible first | exact HB.out | apply below_alloc | apply pw_below_drewN | apply below_drew1) | exact HB.out)) hb); clear HB; have HO139 := n0_; have HB := n1_; clear n0_ n1_; clear hb ho4; obtain ⟨Ao5, co5, eo5⟩ := Kd.R_slice HO139.out; subst eo5) | ((with_reducible refine gate_callee (f := 18) rfl ?_); refine goesL_ (some 6) rfl rfl Try.func18 (by kernel_rfl) rfl #[.int .i64 3, .slice Ao5 y137.length co5] rfl (by (try simp only [List.map_toArray, List.map_cons, List.map_nil]); first | done | rfl | (simp only [List.length_drop, List.length_take]; rfl)) ?_; (with_reducible refine (prop_Bytes.calls 3 _ _ y137 t140 t141 _ ?side1 ?side2 A1.out).mono ?_); (case side1 => repeat (first | exact (Kd.R_reads' HO139.out).2.2 | (with_reducible refine Kd.C_alloc ?_ _) | (with_reducible refine Kd.C_drewN ?_ _) | (with_reducible refine Kd.C_drew ?_))); (case side2 => exact (Kd.R_reads' HO139.out).2.1); rintro e w6 ⟨rfl, hb⟩; refine ⟨_, rfl, ?_⟩; have n0_ := Aside0.mk (Kd.R_below (by (with_reducible repeat (first | apply Kd.R_alloc | apply Kd.R_drewN | apply Kd.R_drew)); exact HO139.out) hb); have n1_ := Aside0.mk (below_step (by repeat (first | (with_reducible first | exact HB.out | apply below_alloc | apply pw_below_drewN | apply below_drew1) | exact HB.out)) hb); clear HO139; clear HB; have HO139 := n0_; have HB := n1_; clear n0_ n1_; (try clear hb); (try clear hb2); (try clear hk); (try clear hi)))
    go_ret
    exact ⟨by first | rfl | (simp [errW_none, errW_some] <;> rfl) | (simp [*, errW_none, errW_some] <;> rfl), by repeat (first | (with_reducible first | exact HB.out | apply below_alloc | apply pw_below_drewN | apply below_drew1) | exact HB.out)⟩
  · rw [if_neg c2] at H
    have c2b0 : (t141 == 0) = false := beq_eq_false_iff_ne.mpr c2
    have c2b1 : (t141 != 0) = true := bne_iff_ne.mpr c2
    obtain rfl := Option.some.inj H
    go_enter Try.func11, Try.ntmps11
    go_wp2_with (first | ((with_reducible refine gate_dst (N := 5) rfl ?_); refine Kd.R_lit k27 _ 27 ?hg (N := 5) ?hd (xs := ([(⟨1, 1, (⟨#[]⟩ : ByteArray), (⟨#[]⟩ : ByteArray)⟩ : S27)] : List (S27))) (inner := [.int .i64 1, .int .u32 1, .string (⟨#[]⟩ : ByteArray), .string (⟨#[]⟩ : ByteArray)]) (ok := fun _ => True) (okp := fun _ => True) ?hr ?hp (fun _ hk => hk) trivial (Below.refl _ _) (Nat.le_refl _) (by simp) ?_; (case hd => rfl); (case hg => rfl); (case hr => first | (go_simp; done) | (go_simp; rfl)); (case hp => exact (Reps.c4 (show Kd.M k27 _ _ _ (⟨1, 1, (⟨#[]⟩ : ByteArray), (⟨#[]⟩ : ByteArray)⟩ : S27) [.int .i64 1, .int .u32 1, .string (⟨#[]⟩ : ByteArray), .string (⟨#[]⟩ : ByteArray)] from (k27_mkM _ _ _ (⟨1, 1, (⟨#[]⟩ : ByteArray), (⟨#[]⟩ : ByteArray)⟩ : S27) )) (Reps.none _ _))); intro v138 w7 ho8 hb hg_ hnew_; clear hg_ hnew_; (first | rw [← Ny137.out] at ho8 | (simp only [Int.reduceToNat] at ho8; rw [← Ny137.out] at ho8)); have n0_ := Aside0.mk (Kd.R_lower ho8 (below_size (by repeat (first | (with_reducible first | exact HB.out | apply below_alloc | apply pw_below_drewN | apply below_drew1) | exact HB.out)))); have n1_ := Aside0.mk (below_step (by repeat (first | (with_reducible first | exact HB.out | apply below_alloc | apply pw_below_drewN | apply below_drew1) | exact HB.out)) hb); clear HB; have HO139 := n0_; have HB := n1_; clear n0_ n1_; clear hb ho8; obtain ⟨Ao9, co9, eo9⟩ := Kd.R_slice HO139.out; subst eo9) | ((with_reducible refine gate_callee (f := 18) rfl ?_); refine goesL_ (some 6) rfl rfl Try.func18 (by kernel_rfl) rfl #[.int .i64 3, .slice Ao9 y137.length co9] rfl (by (try simp only [List.map_toArray, List.map_cons, List.map_nil]); first | done | rfl | (simp only [List.length_drop, List.length_take]; rfl)) ?_; (with_reducible refine (prop_Bytes.calls 3 _ _ y137 t140 t141 _ ?side1 ?side2 A1.out).mono ?_); (case side1 => repeat (first | exact (Kd.R_reads' HO139.out).2.2 | (with_reducible refine Kd.C_alloc ?_ _) | (with_reducible refine Kd.C_drewN ?_ _) | (with_reducible refine Kd.C_drew ?_))); (case side2 => exact (Kd.R_reads' HO139.out).2.1); rintro e w10 ⟨rfl, hb⟩; refine ⟨_, rfl, ?_⟩; have n0_ := Aside0.mk (Kd.R_below (by (with_reducible repeat (first | apply Kd.R_alloc | apply Kd.R_drewN | apply Kd.R_drew)); exact HO139.out) hb); have n1_ := Aside0.mk (below_step (by repeat (first | (with_reducible first | exact HB.out | apply below_alloc | apply pw_below_drewN | apply below_drew1) | exact HB.out)) hb); clear HO139; clear HB; have HO139 := n0_; have HB := n1_; clear n0_ n1_; (try clear hb); (try clear hb2); (try clear hk); (try clear hi)))
    go_ret
    exact ⟨by first | rfl | (simp [errW_none, errW_some] <;> rfl) | (simp [*, errW_none, errW_some] <;> rfl), by repeat (first | (with_reducible first | exact HB.out | apply below_alloc | apply pw_below_drewN | apply below_drew1) | exact HB.out)⟩

end Go.Proofs.Ytngmipfobcaojaa.HA
end

-- YtngmipfobcaojaaHA34
section
-- Written by hp.py (a driver over the kit's print). Not trusted: Lean checks it.
namespace Go.Proofs.Ytngmipfobcaojaa.HA
open Go.RowKit Go.Proofs.YtngmipfobcaojaaW.PrintWords Go.Proofs.YtngmipfobcaojaaW.PrintLast Go.Proofs.YtngmipfobcaojaaW.PrintMore
attribute [local go_sem] max2_int min2_int max_two min_two max_three min_three max_four min_four   -- for this text's walks alone
set_option linter.unusedVariables false
set_option linter.unusedSimpArgs false

/-! ### polyglotkit_Pick: function 12 -/
def polyglotkit_Pick.f (a0 : Int) (a1 : Int) : Option (Int) := if a1 < 1 then (some 0) else (if a1 = 0 then (none) else (if (Int.tmod a0 a1) < 0 then (some (wrap64 ((Int.tmod a0 a1) + a1))) else (some (Int.tmod a0 a1))))
set_option maxHeartbeats 8000000 in
set_option maxRecDepth 100000 in
theorem polyglotkit_Pick.calls (a0 : Int) (a1 : Int) (r : Int) (w : World) (h : polyglotkit_Pick.f a0 a1 = some r) :
    Calls Try.prog 12 #[.int .i64 a0, .int .i64 a1] w fun e w' => e = .returned (.int .i64 r) ∧ Drawn0 w w' := by
  have H : (if a1 < 1 then (some 0) else (if a1 = 0 then (none) else (if (Int.tmod a0 a1) < 0 then (some (wrap64 ((Int.tmod a0 a1) + a1))) else (some (Int.tmod a0 a1))))) = some r := h
  clear h
  by_cases c3 : a1 < 1
  · rw [if_pos c3] at H
    have c3b0 : decide (a1 < 1) = true := decide_eq_true c3
    clear c3
    obtain rfl := Option.some.inj H
    go_enter Try.func12, Try.ntmps12
    go_wp2
    go_ret
    exact ⟨by first | rfl | (simp; done) | (simp [*]; done) | (simp; exact bne_nil_isEmpty _) | exact bne_nil_isEmpty _ | (simp; exact (bne_nil_isEmpty _).symm) | (simp; exact bne_nil_isEmpty' _), by repeat (first | exact Drawn0.refl _ | apply Drawn0.step)⟩
  · rw [if_neg c3] at H
    have c3b0 : decide (a1 < 1) = false := decide_eq_false c3
    clear c3
    by_cases c4 : a1 = 0
    · rw [if_pos c4] at H
      exact absurd H (by simp)
    · rw [if_neg c4] at H
      have c4b0 : (a1 == 0) = false := beq_eq_false_iff_ne.mpr c4
      have c4b1 : (a1 != 0) = true := bne_iff_ne.mpr c4
      by_cases c5 : (Int.tmod a0 a1) < 0
      · rw [if_pos c5] at H
        have c5b0 : decide ((Int.tmod a0 a1) < 0) = true := decide_eq_true c5
        clear c5
        obtain rfl := Option.some.inj H
        go_enter Try.func12, Try.ntmps12
        go_wp2
        go_ret
        exact ⟨by first | rfl | (simp; done) | (simp [*]; done) | (simp; exact bne_nil_isEmpty _) | exact bne_nil_isEmpty _ | (simp; exact (bne_nil_isEmpty _).symm) | (simp; exact bne_nil_isEmpty' _), by repeat (first | exact Drawn0.refl _ | apply Drawn0.step)⟩
      · rw [if_neg c5] at H
        have c5b0 : decide ((Int.tmod a0 a1) < 0) = false := decide_eq_false c5
        clear c5
        obtain rfl := Option.some.inj H
        go_enter Try.func12, Try.ntmps12
        go_wp2
        go_ret
        exact ⟨by first | rfl | (simp; done) | (simp [*]; done) | (simp; exact bne_nil_isEmpty _) | exact bne_nil_isEmpty _ | (simp; exact (bne_nil_isEmpty _).symm) | (simp; exact bne_nil_isEmpty' _), by repeat (first | exact Drawn0.refl _ | apply Drawn0.step)⟩

end Go.Proofs.Ytngmipfobcaojaa.HA
end

-- YtngmipfobcaojaaHA41
section
-- Written by hp.py (a driver over the kit's print). Not trusted: Lean checks it.
namespace Go.Proofs.Ytngmipfobcaojaa.HA
open Go.RowKit Go.Proofs.YtngmipfobcaojaaW.PrintWords Go.Proofs.YtngmipfobcaojaaW.PrintLast Go.Proofs.YtngmipfobcaojaaW.PrintMore
attribute [local go_sem] max2_int min2_int max_two min_two max_three min_three max_four min_four   -- for this text's walks alone
set_option linter.unusedVariables false
set_option linter.unusedSimpArgs false

/-! ### polyglotkit_weight: function 36 -/
def polyglotkit_weight.l0 : Nat → List (S27) → Int → Int → Option (Int)
  | 0, _, _, _ => none
  | k + 1, x0, x3, x4 => if x4 < (x0.length : Int) then (if 0 ≤ x4 then (polyglotkit_weight.l0 k x0 (wrap64 ((wrap64 (x3 + (((rd_T27 x0 x4).f2).size : Int))) + (((rd_T27 x0 x4).f3).size : Int))) (wrap64 (x4 + 1))) else (none)) else (some x3)
def polyglotkit_weight.f (k : Nat) (l0 : List (S27)) : Option (Int) := polyglotkit_weight.l0 k l0 0 0
theorem polyglotkit_weight.mono_l : ∀ k, (∀ y0 y1 y2, LeO (polyglotkit_weight.l0 k y0 y1 y2) (polyglotkit_weight.l0 (k + 1) y0 y1 y2))
  | 0 => fun _ _ _ r h => by simp [polyglotkit_weight.l0] at h
  | k + 1 => by
    have ih0 := polyglotkit_weight.mono_l k
    · intro y0 y1 y2
      unfold polyglotkit_weight.l0
      repeat' first
      | (with_reducible exact ih0 _ _ _)
      | (with_reducible exact LeO.refl _)
      | (with_reducible exact LeO.none _)
      | (with_reducible refine LeO.ite ?_ ?_)
      | (with_reducible refine LeO.bind ?_ (fun _ => ?_))
      | exact ih0 _ _ _
      | exact LeO.none _
      | refine LeO.ite ?_ ?_
      | refine LeO.bind ?_ (fun _ => ?_)
theorem polyglotkit_weight.mono : ∀ a0 k, LeO (polyglotkit_weight.f k a0) (polyglotkit_weight.f (k + 1) a0) := by
  intro a0 k
  have ih0 := polyglotkit_weight.mono_l k
  unfold polyglotkit_weight.f
  repeat' first
      | (with_reducible exact ih0 _ _ _)
      | (with_reducible exact LeO.refl _)
      | (with_reducible exact LeO.none _)
      | (with_reducible refine LeO.ite ?_ ?_)
      | (with_reducible refine LeO.bind ?_ (fun _ => ?_))
      | exact ih0 _ _ _
      | exact LeO.none _
      | refine LeO.ite ?_ ?_
      | refine LeO.bind ?_ (fun _ => ?_)
set_option maxHeartbeats 8000000 in
set_option maxRecDepth 100000 in
theorem polyglotkit_weight.calls (k : Nat) (A0 : Option Addr) (c0 : Nat) (l0 : List (S27)) (r : Int) (w : World) (hr0 : Kd.C k27 w A0 l0.length l0) (hc0 : l0.length ≤ c0) (h : polyglotkit_weight.f k l0 = some r) :
    Calls Try.prog 36 #[.slice A0 l0.length c0] w fun e w' => e = .returned (.int .i64 r) ∧ Drawn0 w w' := by
  have HR0 := Aside0.mk hr0
  have HC0 := Aside0.mk hc0
  clear hr0 hc0
  have H : (polyglotkit_weight.l0 k l0 0 0) = some r := h
  clear h
  have H' := Aside0.mk H
  clear H
  go_enter Try.func36, Try.ntmps36
  go_wp2
  repeat (go_quiet (fail); try go_wp2)
  go_loopg [3, 4] k (fun kq v3 v4 w' => ∃ (x3_1 : Int) (x4_1 : Int), v3 = .int .i64 x3_1 ∧ v4 = .int .i64 x4_1 ∧ Aside0 (polyglotkit_weight.l0 kq l0 x3_1 x4_1 = some r) ∧ Aside0 (kq ≤ k) ∧ Drawn0 w w')
  case atStart => exact ⟨(0), (0), (by first | rfl | (simp; done) | (simp [*]; done) | (simp; exact bne_nil_isEmpty _) | exact bne_nil_isEmpty _ | (simp; exact (bne_nil_isEmpty _).symm) | (simp; exact bne_nil_isEmpty' _)), (by first | rfl | (simp; done) | (simp [*]; done) | (simp; exact bne_nil_isEmpty _) | exact bne_nil_isEmpty _ | (simp; exact (bne_nil_isEmpty _).symm) | (simp; exact bne_nil_isEmpty' _)), H', ⟨Nat.le_refl _⟩, by repeat (first | exact Drawn0.refl _ | apply Drawn0.step)⟩
  case round =>
    clear H'
    obtain ⟨x3_1, x4_1, rfl, rfl, HA, HK1, ⟨m1, rfl⟩⟩ := hrel
    cases gk with
    | zero => exact absurd HA.out (by simp [polyglotkit_weight.l0])
    | succ k1 =>
      have H := HA.out
      clear HA
      simp only [polyglotkit_weight.l0] at H
      by_cases c2 : x4_1 < (l0.length : Int)
      · rw [if_pos c2] at H
        have c2b0 : decide (x4_1 < (l0.length : Int)) = true := decide_eq_true c2
        clear c2
        by_cases c3 : 0 ≤ x4_1
        · rw [if_pos c3] at H
          have c3b0 : decide (0 ≤ x4_1) = true := decide_eq_true c3
          clear c3
          have H' := Aside0.mk H
          clear H
          have p156 : 0 ≤ (x4_1 : Int) := of_decide_eq_true (by first | (with_reducible assumption) | assumption)
          have q156 : x4_1 < (l0.length : Int) := of_decide_eq_true (by first | (with_reducible assumption) | assumption)
          obtain ⟨ad156, e156, hx156_0, hx156_1, hx156_2, hx156_3⟩ := at_T27 HR0.out x4_1 p156 q156
          cases e156
          replace p156 := eq_true p156
          replace q156 := eq_true q156
          have p157 : 0 ≤ (x4_1 : Int) := of_decide_eq_true (by first | (with_reducible assumption) | assumption)
          have q157 : x4_1 < (l0.length : Int) := of_decide_eq_true (by first | (with_reducible assumption) | assumption)
          obtain ⟨ad157, e157, hx157_0, hx157_1, hx157_2, hx157_3⟩ := at_T27 HR0.out x4_1 p157 q157
          obtain rfl : ad156 = ad157 := (by injection e157)
          replace p157 := eq_true p157
          replace q157 := eq_true q157
          go_wp2
          repeat (go_quiet (fail); try go_wp2)
          go_roundg k1
          case measure => have := HK1.out; omega
          case rel => exact ⟨(wrap64 ((wrap64 (x3_1 + (((rd_T27 l0 x4_1).f2).size : Int))) + (((rd_T27 l0 x4_1).f3).size : Int))), (wrap64 (x4_1 + 1)), (by first | rfl | (simp; done) | (simp [*]; done) | (simp; exact bne_nil_isEmpty _) | exact bne_nil_isEmpty _ | (simp; exact (bne_nil_isEmpty _).symm) | (simp; exact bne_nil_isEmpty' _)), (by first | rfl | (simp; done) | (simp [*]; done) | (simp; exact bne_nil_isEmpty _) | exact bne_nil_isEmpty _ | (simp; exact (bne_nil_isEmpty _).symm) | (simp; exact bne_nil_isEmpty' _)), H', ⟨by have := HK1.out; omega⟩, by repeat (first | exact Drawn0.refl _ | apply Drawn0.step)⟩
        · rw [if_neg c3] at H
          exact absurd H (by simp)
      · rw [if_neg c2] at H
        have c2b0 : decide (x4_1 < (l0.length : Int)) = false := decide_eq_false c2
        clear c2
        obtain rfl := Option.some.inj H
        go_wp2
        repeat (go_quiet (fail); try go_wp2)
        go_ret
        exact ⟨by first | rfl | (simp; done) | (simp [*]; done) | (simp; exact bne_nil_isEmpty _) | exact bne_nil_isEmpty _ | (simp; exact (bne_nil_isEmpty _).symm) | (simp; exact bne_nil_isEmpty' _), by repeat (first | exact Drawn0.refl _ | apply Drawn0.step)⟩

end Go.Proofs.Ytngmipfobcaojaa.HA
end

-- YtngmipfobcaojaaHA42
section
-- Written by hp.py (a driver over the kit's print). Not trusted: Lean checks it.
namespace Go.Proofs.Ytngmipfobcaojaa.HA
open Go.RowKit Go.Proofs.YtngmipfobcaojaaW.PrintWords Go.Proofs.YtngmipfobcaojaaW.PrintLast Go.Proofs.YtngmipfobcaojaaW.PrintMore
attribute [local go_sem] max2_int min2_int max_two min_two max_three min_three max_four min_four   -- for this text's walks alone
set_option linter.unusedVariables false
set_option linter.unusedSimpArgs false

/-! ### polyglotkit_LightProps: function 15 -/
def polyglotkit_LightProps.f (k : Nat) (l0 : List (S27)) : Option (Bool) := if (l0.length : Int) ≤ 1010 then ((polyglotkit_weight.f k l0).bind fun t158 => (some (decide (t158 ≤ 140000)))) else (some false)
theorem polyglotkit_LightProps.mono : ∀ a0 k, LeO (polyglotkit_LightProps.f k a0) (polyglotkit_LightProps.f (k + 1) a0) := by
  intro a0 k
  unfold polyglotkit_LightProps.f
  repeat' first
      | (with_reducible exact polyglotkit_weight.mono _ _)
      | (with_reducible exact LeO.refl _)
      | (with_reducible exact LeO.none _)
      | (with_reducible refine LeO.ite ?_ ?_)
      | (with_reducible refine LeO.bind ?_ (fun _ => ?_))
      | exact polyglotkit_weight.mono _ _
      | exact LeO.none _
      | refine LeO.ite ?_ ?_
      | refine LeO.bind ?_ (fun _ => ?_)
set_option maxHeartbeats 8000000 in
set_option maxRecDepth 100000 in
theorem polyglotkit_LightProps.calls (k : Nat) (A0 : Option Addr) (c0 : Nat) (l0 : List (S27)) (r : Bool) (w : World) (hr0 : Kd.C k27 w A0 l0.length l0) (hc0 : l0.length ≤ c0) (h : polyglotkit_LightProps.f k l0 = some r) :
    Calls Try.prog 15 #[.slice A0 l0.length c0] w fun e w' => e = .returned (.bool r) ∧ Drawn0 w w' := by
  have HR0 := Aside0.mk hr0
  have HC0 := Aside0.mk hc0
  clear hr0 hc0
  have H : (if (l0.length : Int) ≤ 1010 then ((polyglotkit_weight.f k l0).bind fun t158 => (some (decide (t158 ≤ 140000)))) else (some false)) = some r := h
  clear h
  by_cases c2 : (l0.length : Int) ≤ 1010
  · rw [if_pos c2] at H
    have c2b0 : decide ((l0.length : Int) ≤ 1010) = true := decide_eq_true c2
    have c2b1 : decide (l0.length ≤ 1010) = true := decide_eq_true (by omega)
    clear c2
    replace H := Option.bind_eq_some_iff.mp H
    obtain ⟨t158, A30, H⟩ := H
    replace H : (some (decide (t158 ≤ 140000))) = some r := H
    have A3 := Aside0.mk A30
    clear A30
    obtain rfl := Option.some.inj H
    go_enter Try.func15, Try.ntmps15
    go_wp2_with (first | (go_at_call 36; (with_reducible refine (polyglotkit_weight.calls k _ _ l0 t158 _ ?side1 ?side2 A3.out).mono ?_); (case side1 => repeat (first | exact HR0.out | (with_reducible refine Kd.C_alloc ?_ _) | (with_reducible refine Kd.C_drewN ?_ _) | (with_reducible refine Kd.C_drew ?_))); (case side2 => exact HC0.out); rintro e w' ⟨rfl, ⟨nd, rfl⟩⟩))
    go_ret
    exact ⟨by first | rfl | (simp; done) | (simp [*]; done) | (simp; exact bne_nil_isEmpty _) | exact bne_nil_isEmpty _ | (simp; exact (bne_nil_isEmpty _).symm) | (simp; exact bne_nil_isEmpty' _), by repeat (first | exact Drawn0.refl _ | apply Drawn0.step)⟩
  · rw [if_neg c2] at H
    have c2b0 : decide ((l0.length : Int) ≤ 1010) = false := decide_eq_false c2
    have c2b1 : decide (l0.length ≤ 1010) = false := decide_eq_false (by omega)
    clear c2
    obtain rfl := Option.some.inj H
    go_enter Try.func15, Try.ntmps15
    go_wp2
    go_ret
    exact ⟨by first | rfl | (simp; done) | (simp [*]; done) | (simp; exact bne_nil_isEmpty _) | exact bne_nil_isEmpty _ | (simp; exact (bne_nil_isEmpty _).symm) | (simp; exact bne_nil_isEmpty' _), by repeat (first | exact Drawn0.refl _ | apply Drawn0.step)⟩

end Go.Proofs.Ytngmipfobcaojaa.HA
end

-- YtngmipfobcaojaaHA43
section
-- Written by hp.py (a driver over the kit's print). Not trusted: Lean checks it.
namespace Go.Proofs.Ytngmipfobcaojaa.HA
open Go.RowKit Go.Proofs.YtngmipfobcaojaaW.PrintWords Go.Proofs.YtngmipfobcaojaaW.PrintLast Go.Proofs.YtngmipfobcaojaaW.PrintMore
attribute [local go_sem] max2_int min2_int max_two min_two max_three min_three max_four min_four   -- for this text's walks alone
set_option linter.unusedVariables false
set_option linter.unusedSimpArgs false

/-! ### prop_Valid: function 16 -/
def prop_Valid.f (a0 : Int) (l1 : List (S27)) : Option (Int) := (prop_Bytes.f a0 l1).bind fun bt159 => (some bt159.2)
set_option maxHeartbeats 8000000 in
set_option maxRecDepth 100000 in
theorem prop_Valid.calls (a0 : Int) (A1 : Option Addr) (c1 : Nat) (l1 : List (S27)) (r : Int) (w : World) (hr1 : Kd.C k27 w A1 l1.length l1) (hc1 : l1.length ≤ c1) (h : prop_Valid.f a0 l1 = some r) :
    Calls Try.prog 16 #[.int .i64 a0, .slice A1 l1.length c1] w fun e w' => e = .returned (.int .i64 r) ∧ Below w.heap.size w w' := by
  have HR1 := Aside0.mk hr1
  have HC1 := Aside0.mk hc1
  clear hr1 hc1
  have HB := Aside0.mk (Below.refl w.heap.size w)
  have H : ((prop_Bytes.f a0 l1).bind fun bt159 => (some bt159.2)) = some r := h
  clear h
  replace H := Option.bind_eq_some_iff.mp H
  obtain ⟨⟨t159, t160⟩, A30, H⟩ := H
  replace H : (some t160) = some r := H
  have A3 := Aside0.mk A30
  clear A30
  obtain rfl := Option.some.inj H
  go_enter Try.func16, Try.ntmps16
  go_wp2_with (first | ((with_reducible refine gate_callee (f := 18) rfl ?_); refine goesL_ (some 10) rfl rfl Try.func18 (by kernel_rfl) rfl #[.int .i64 a0, .slice A1 l1.length c1] rfl (by (try simp only [List.map_toArray, List.map_cons, List.map_nil]); first | done | rfl | (simp only [List.length_drop, List.length_take]; rfl)) ?_; (with_reducible refine (prop_Bytes.calls a0 _ _ l1 t159 t160 _ ?side1 ?side2 A3.out).mono ?_); (case side1 => repeat (first | exact HR1.out | (with_reducible refine Kd.C_alloc ?_ _) | (with_reducible refine Kd.C_drewN ?_ _) | (with_reducible refine Kd.C_drew ?_))); (case side2 => exact HC1.out); rintro e w4 ⟨rfl, hb⟩; refine ⟨_, rfl, ?_⟩; have n0_ := Aside0.mk (below_step (by repeat (first | (with_reducible first | exact HB.out | apply below_alloc | apply pw_below_drewN | apply below_drew1) | exact HB.out)) hb); clear HB; have HB := n0_; clear n0_; (try clear hb); (try clear hb2); (try clear hk); (try clear hi)))
  go_ret
  exact ⟨by first | rfl | (simp [errW_none, errW_some] <;> rfl) | (simp [*, errW_none, errW_some] <;> rfl), by repeat (first | (with_reducible first | exact HB.out | apply below_alloc | apply pw_below_drewN | apply below_drew1) | exact HB.out)⟩

end Go.Proofs.Ytngmipfobcaojaa.HA
end

-- YtngmipfobcaojaaHA44
section
-- Written by hp.py (a driver over the kit's print). Not trusted: Lean checks it.
namespace Go.Proofs.Ytngmipfobcaojaa.HA
open Go.RowKit Go.Proofs.YtngmipfobcaojaaW.PrintWords Go.Proofs.YtngmipfobcaojaaW.PrintLast Go.Proofs.YtngmipfobcaojaaW.PrintMore
attribute [local go_sem] max2_int min2_int max_two min_two max_three min_three max_four min_four   -- for this text's walks alone
set_option linter.unusedVariables false
set_option linter.unusedSimpArgs false

/-! ### api_Prop_17: function 17 -/
def api_Prop_17.f (l0 : List (S27)) : Option ((List (S27))) := (some (([] : List (S27)) : List (S27))).bind fun y161 => (if y161.length + l0.length < 2932031007402 then (some (y161 ++ l0)) else (none))
set_option maxHeartbeats 8000000 in
set_option maxRecDepth 100000 in
theorem api_Prop_17.calls (A0 : Option Addr) (c0 : Nat) (l0 : List (S27)) (r : List (S27)) (w : World) (hr0 : Kd.C k27 w A0 l0.length l0) (hc0 : l0.length ≤ c0) (h : api_Prop_17.f l0 = some r) :
    Calls Try.prog 17 #[.slice A0 l0.length c0] w fun e w' => ∃ v0_ : Value, e = .returned (v0_) ∧ Kd.R k27 27 w' w.heap.size (fun _ => True) v0_ r ∧ Below w.heap.size w w' := by
  have HR0 := Aside0.mk hr0
  have HC0 := Aside0.mk hc0
  clear hr0 hc0
  have HB := Aside0.mk (Below.refl w.heap.size w)
  have H : ((some (([] : List (S27)) : List (S27))).bind fun y161 => (if y161.length + l0.length < 2932031007402 then (some (y161 ++ l0)) else (none))) = some r := h
  clear h
  obtain ⟨y161, hy161⟩ : ∃ y_ : List (S27), y_ = (([] : List (S27))) := ⟨_, rfl⟩
  replace H : (if y161.length + l0.length < 2932031007402 then (some (y161 ++ l0)) else (none)) = some r := by first | (rw [hy161]; with_reducible exact H) | (have H2_ := (Option.bind_some _ _).symm.trans H; rw [hy161]; with_reducible exact H2_) | (have H2_ := (Option.bind_some _ _).symm.trans H; with_reducible exact H2_) | with_reducible exact H | (rw [hy161]; exact H) | exact H
  have Ny161 := Aside0.mk hy161
  clear hy161
  by_cases c2 : y161.length + l0.length < 2932031007402
  · rw [if_pos c2] at H
    have LMc2 := Aside0.mk c2
    clear c2
    obtain ⟨y164, hy164⟩ : ∃ y_ : List (S27), y_ = (y161 ++ l0) := ⟨_, rfl⟩
    replace H : (some y164) = some r := by first | (rw [hy164]; with_reducible exact H) | (have H2_ := (Option.bind_some _ _).symm.trans H; rw [hy164]; with_reducible exact H2_) | (have H2_ := (Option.bind_some _ _).symm.trans H; with_reducible exact H2_) | with_reducible exact H | (rw [hy164]; exact H) | exact H
    have Ny164 := Aside0.mk hy164
    clear hy164
    obtain rfl := Option.some.inj H
    go_enter Try.func17, Try.ntmps17
    go_wp2_with (first | ((with_reducible refine gate_dst (N := 3) rfl ?_); refine Kd.R_lit k27 _ 27 ?hg (N := 3) ?hd (xs := ([] : List (S27))) (inner := []) (ok := fun _ => True) (okp := fun _ => True) ?hr ?hp (fun _ hk => hk) trivial (Below.refl _ _) (Nat.le_refl _) (by simp) ?_; (case hd => rfl); (case hg => rfl); (case hr => first | (go_simp; done) | (go_simp; rfl)); (case hp => exact (Reps.none _ _)); intro v162 w3 ho4 hb hg_ hnew_; clear hg_ hnew_; (first | rw [← Ny161.out] at ho4 | (simp only [Int.reduceToNat] at ho4; rw [← Ny161.out] at ho4)); have n0_ := Aside0.mk (Kd.R_lower ho4 (below_size (by repeat (first | (with_reducible first | exact HB.out | apply below_alloc | apply pw_below_drewN | apply below_drew1) | exact HB.out)))); have n1_ := Aside0.mk (below_step (by repeat (first | (with_reducible first | exact HB.out | apply below_alloc | apply pw_below_drewN | apply below_drew1) | exact HB.out)) hb); clear HB; have HO163 := n0_; have HB := n1_; clear n0_ n1_; clear hb ho4) | ((with_reducible refine gate_builtin (b := .append) (xs := #[.tmp 3, .tmp 4]) rfl ?_); at_builtin; refine Kd.R_append_rows k27 (w0 := w) w.heap.size rfl (.tmp 3) (.tmp 4) 32 27 (.agg #[(.int .i64 0), (.int .u32 0), (.string ⟨#[]⟩), (.string ⟨#[]⟩)]) 48 rfl Try.underlying32 info27 rfl (by decide) (by omega) v162 y161 l0 _ _ _ (fun _ => True) (fun _ => False) rfl rfl ?aO ?aR (fun _ _ h => h) (fun _ h => h.elim) ?aF ?aB ?aS ?aL ?_; (case aR => repeat (first | exact (Kd.C_below HR0.out HB.out) | (with_reducible refine Kd.C_alloc ?_ _) | (with_reducible refine Kd.C_drewN ?_ _) | (with_reducible refine Kd.C_drew ?_))); (case aB => exact (by repeat (first | (with_reducible first | exact HB.out | apply below_alloc | apply pw_below_drewN | apply below_drew1) | exact HB.out))); (case aF => exact (fun _ _ => trivial)); (case aO => exact (by (with_reducible repeat (first | apply Kd.R_alloc | apply Kd.R_drewN | apply Kd.R_drew)); exact HO163.out)); (case aS => exact (below_size (by repeat (first | (with_reducible first | exact HB.out | apply below_alloc | apply pw_below_drewN | apply below_drew1) | exact HB.out)))); (case aL => have := LMc2.out; omega); intro v165 w5 ho hb hg hat; rw [← Ny164.out] at ho; have n0_ := Aside0.mk (hb); have n1_ := Aside0.mk (ho); clear HB; clear HO163; have HB := n0_; have HO166 := n1_; clear n0_ n1_; clear ho hb hg hat))
    go_ret
    exact ⟨_, by first | rfl | (simp [errW_none, errW_some] <;> rfl) | (simp [*, errW_none, errW_some] <;> rfl), by (with_reducible repeat (first | apply Kd.R_alloc | apply Kd.R_drewN | apply Kd.R_drew)); exact HO166.out, by repeat (first | (with_reducible first | exact HB.out | apply below_alloc | apply pw_below_drewN | apply below_drew1) | exact HB.out)⟩
  · rw [if_neg c2] at H
    exact absurd H (by simp)

end Go.Proofs.Ytngmipfobcaojaa.HA
end

-- YtngmipfobcaojaaHA46
section
-- Written by hp.py (a driver over the kit's print). Not trusted: Lean checks it.
namespace Go.Proofs.Ytngmipfobcaojaa.HA
open Go.RowKit Go.Proofs.YtngmipfobcaojaaW.PrintWords Go.Proofs.YtngmipfobcaojaaW.PrintLast Go.Proofs.YtngmipfobcaojaaW.PrintMore
attribute [local go_sem] max2_int min2_int max_two min_two max_three min_three max_four min_four   -- for this text's walks alone
set_option linter.unusedVariables false
set_option linter.unusedSimpArgs false

/-! ### prop_Many: function 19 -/
def prop_Many.f (a0 : Int) (a1 : Int) : Option (Bool) := (prop_often.f a0 a1).bind fun t167 => (if t167 = true then ((prop_May.f a0 a1).bind fun t168 => (some t168)) else (some false))
set_option maxHeartbeats 8000000 in
set_option maxRecDepth 100000 in
theorem prop_Many.calls (a0 : Int) (a1 : Int) (r : Bool) (w : World) (h : prop_Many.f a0 a1 = some r) :
    Calls Try.prog 19 #[.int .i64 a0, .int .i64 a1] w fun e w' => e = .returned (.bool r) ∧ Below w.heap.size w w' := by
  have HB := Aside0.mk (Below.refl w.heap.size w)
  have H : ((prop_often.f a0 a1).bind fun t167 => (if t167 = true then ((prop_May.f a0 a1).bind fun t168 => (some t168)) else (some false))) = some r := h
  clear h
  replace H := Option.bind_eq_some_iff.mp H
  obtain ⟨t167, A30, H⟩ := H
  replace H : (if t167 = true then ((prop_May.f a0 a1).bind fun t168 => (some t168)) else (some false)) = some r := H
  have A3 := Aside0.mk A30
  clear A30
  by_cases c4 : t167 = true
  · subst c4
    have H1 : ((prop_May.f a0 a1).bind fun t168 => (some t168)) = some r := by rw [if_pos rfl] at H; exact H
    clear H
    have H := H1
    clear H1
    replace H := Option.bind_eq_some_iff.mp H
    obtain ⟨t168, A50, H⟩ := H
    replace H : (some t168) = some r := H
    have A5 := Aside0.mk A50
    clear A50
    obtain rfl := Option.some.inj H
    go_enter Try.func19, Try.ntmps19
    go_wp2_with (first | ((with_reducible refine gate_callee (f := 41) rfl ?_); refine goesL_ (some 7) rfl rfl Try.func41 (by kernel_rfl) rfl #[.int .i64 a0, .int .i64 a1] rfl (by (try simp only [List.map_toArray, List.map_cons, List.map_nil]); first | done | rfl | (simp only [List.length_drop, List.length_take]; rfl)) ?_; (with_reducible refine (prop_often.calls a0 a1 true _ A3.out).mono ?_); rintro e w' ⟨rfl, ⟨nd, rfl⟩⟩; refine ⟨_, rfl, ?_⟩) | (go_at_call 32; (with_reducible refine (prop_May.calls a0 a1 t168 _ A5.out).mono ?_); rintro e w6 ⟨rfl, hb⟩; have n0_ := Aside0.mk (below_step (by repeat (first | (with_reducible first | exact HB.out | apply below_alloc | apply pw_below_drewN | apply below_drew1) | exact HB.out)) hb); clear HB; have HB := n0_; clear n0_; (try clear hb); (try clear hb2); (try clear hk); (try clear hi)))
    go_ret
    exact ⟨by first | rfl | (simp [errW_none, errW_some] <;> rfl) | (simp [*, errW_none, errW_some] <;> rfl), by repeat (first | (with_reducible first | exact HB.out | apply below_alloc | apply pw_below_drewN | apply below_drew1) | exact HB.out)⟩
  · replace c4 := Bool.eq_false_iff.mpr c4
    subst c4
    have H1 : (some false) = some r := by rw [if_neg (show ¬ (false = true) by decide)] at H; exact H
    clear H
    have H := H1
    clear H1
    obtain rfl := Option.some.inj H
    go_enter Try.func19, Try.ntmps19
    go_wp2_with (first | ((with_reducible refine gate_callee (f := 41) rfl ?_); refine goesL_ (some 7) rfl rfl Try.func41 (by kernel_rfl) rfl #[.int .i64 a0, .int .i64 a1] rfl (by (try simp only [List.map_toArray, List.map_cons, List.map_nil]); first | done | rfl | (simp only [List.length_drop, List.length_take]; rfl)) ?_; (with_reducible refine (prop_often.calls a0 a1 false _ A3.out).mono ?_); rintro e w' ⟨rfl, ⟨nd, rfl⟩⟩; refine ⟨_, rfl, ?_⟩))
    go_ret
    exact ⟨by first | rfl | (simp [errW_none, errW_some] <;> rfl) | (simp [*, errW_none, errW_some] <;> rfl), by repeat (first | (with_reducible first | exact HB.out | apply below_alloc | apply pw_below_drewN | apply below_drew1) | exact HB.out)⟩

end Go.Proofs.Ytngmipfobcaojaa.HA
end

-- YtngmipfobcaojaaHAhCheck
section
/- prop.Check answers what prop.check answers at the property's rule. -/
-- FOR polyglot/prop.Check
namespace Go.Proofs.Ytngmipfobcaojaa.HA
open Go.RowKit Go.Proofs.YtngmipfobcaojaaW.PrintWords Go.Proofs.YtngmipfobcaojaaW.PrintLast Go.Proofs.YtngmipfobcaojaaW.PrintMore
set_option linter.unusedVariables false
set_option linter.unusedSimpArgs false

def prop_Check.f (k : Nat) (a0 : Int) (a1_0 : Int) (a1_1 : Int) (a1_2 : ByteArray) (a1_3 : ByteArray) : Option Int :=
  prop_check.f k (ruleOf a1_0).1 (ruleOf a1_0).2.1 (ruleOf a1_0).2.2.1 (ruleOf a1_0).2.2.2 a0 a1_0 a1_1 a1_2 a1_3
theorem prop_Check.mono : ∀ a0 a1 a2 a3 a4 k, LeO (prop_Check.f k a0 a1 a2 a3 a4) (prop_Check.f (k + 1) a0 a1 a2 a3 a4) :=
  fun _ _ _ _ _ k => prop_check.mono _ _ _ _ _ _ _ _ _ k
set_option maxHeartbeats 4000000 in
set_option maxRecDepth 100000 in
theorem prop_Check.calls (k : Nat) (a0 : Int) (a1_0 : Int) (a1_1 : Int) (a1_2 : ByteArray) (a1_3 : ByteArray) (r : Int) (w : World) (h : prop_Check.f k a0 a1_0 a1_1 a1_2 a1_3 = some r) :
    Calls Try.prog 13 #[.int .i64 a0, .agg #[.int .i64 a1_0, .int .u32 a1_1, .string a1_2, .string a1_3]] w fun e w' => e = .returned (.int .i64 r) ∧ Below w.heap.size w w' := by
  have hl := fun (W : World) (b : Nat) (hb : W.heap[b]? = some ruleObj) => run_rule_lookup W b a1_0 hb
  have hc := fun W => prop_check.calls k (ruleOf a1_0).1 (ruleOf a1_0).2.1 (ruleOf a1_0).2.2.1 (ruleOf a1_0).2.2.2 a0 a1_0 a1_1 a1_2 a1_3 r W h
  unfold ruleVal at hl
  clear h
  generalize ruleOf a1_0 = ru at *
  have HC := Aside0.mk hc
  obtain ⟨O, hO⟩ : ∃ O : Obj, O = .cells #[.int .i64 a1_0, .int .u32 a1_1, .string a1_2, .string a1_3] 27 := ⟨_, rfl⟩
  have hl2 : (Instr.lookup 66 (.map (some (w.heap.size + 1))) (.int .i64 a1_0) false).run Try.prog (((w.alloc O).alloc ruleObj).drew) = .ok _ _ := hl (((w.alloc O).alloc ruleObj).drew) (w.heap.size + 1) (by
    show ((w.alloc O).alloc ruleObj).heap[w.heap.size + 1]? = _
    have := heap_alloc_new (w.alloc O) ruleObj
    rw [show (w.alloc O).heap.size = w.heap.size + 1 by simp] at this
    exact this)
  subst hO
  clear hc hl
  go_enter Try.func13, Try.ntmps13
  go_wp2_with fail
  go_region_with (first | (go_at_call 34; refine (prop_rules.calls0 _).mono ?_; rintro e w' ⟨rfl, rfl⟩) | (go_at_call 33; refine (HC.out _).mono ?_; rintro e w' ⟨rfl, hb⟩))
  all_goals go_wp2
  all_goals go_ret
  all_goals exact ⟨rfl, below_then (below_drew (((Below.refl _ _).alloc (Nat.le_refl _) _).alloc (by simp) _)) (by simp; omega) hb⟩
end Go.Proofs.Ytngmipfobcaojaa.HA
end
