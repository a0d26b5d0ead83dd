/- A part of the proof: texts that were built one by one, laid together. -/
import Derived.Test.YtngmipfobcaojaaCPropNames3
import Derived.RegionTactic
import Derived.ChangeAlike
import Derived.Deep.RegionHeld3
import Derived.Deep.AppendLies
import Derived.Lib.AppendStr

-- YtngmipfobcaojaaHAhSeen
section
/- prop.seen counts properties by their ids: what (*seen).again and (*seen).lone answer, and what they leave in the array. -/
-- FOR (*polyglot/prop.seen).again
namespace Go.Proofs.Ytngmipfobcaojaa.HA
open Go.RowKit Go.Proofs.YtngmipfobcaojaaW.PrintWords Go.Proofs.YtngmipfobcaojaaW.PrintLast Go.Proofs.YtngmipfobcaojaaW.PrintMore
set_option linter.unusedVariables false
set_option linter.unusedSimpArgs false

/-- An array of 64 counts, told by a function. -/
def seenArr (c : Nat → Int) : Array Value := ((List.range 64).map fun j => Value.int .i64 (c j)).toArray
def seenObj (c : Nat → Int) : Obj := .cells (seenArr c) 71 (0, 0)
def upd (c : Nat → Int) (i : Nat) (x : Int) : Nat → Int := fun j => if j = i then x else c j
theorem seenArr_get (c : Nat → Int) (i : Nat) (h : i < 64) : (seenArr c)[i]? = some (.int .i64 (c i)) := by
  simp [seenArr, h]
theorem seenArr_set (c : Nat → Int) (i : Nat) (x : Int) : (seenArr c).setIfInBounds i (.int .i64 x) = seenArr (upd c i x) := by
  apply Array.ext'
  apply List.ext_getElem?
  intro j
  simp only [seenArr, upd, Array.toList_setIfInBounds, List.getElem?_set, List.getElem?_map, List.length_map, List.length_range]
  by_cases hj : j < 64
  · rw [List.getElem?_range hj]
    by_cases e : i = j
    · subst e; simp [hj]
    · simp [e, Ne.symm e]
  · rw [List.getElem?_eq_none (by simp; omega)]
    by_cases e : i = j
    · subst e; simp [hj]
    · simp [e]
def oftenB (kind id : Int) : Bool := id == 38 || (id == 11 && kind == 3)
theorem often_f (kind id : Int) : prop_often.f kind id = some (oftenB kind id) := by
  unfold prop_often.f oftenB
  by_cases h : id = 38
  · simp [h]
  · by_cases h2 : id = 11 <;> simp [h, h2]

theorem again_yes (g : Nat) (c : Nat → Int) (kind id : Int) (w : World) (hs : w.heap[g]? = some (seenObj c)) (h0 : 0 ≤ id) (h1 : id < 64) (hc0 : 0 ≤ c id.toNat) (hc1 : c id.toNat ≤ 2000) :
    Calls Try.prog 37 #[.pointer (some ⟨g, 0, none⟩), .int .i64 kind, .int .i64 id] w fun e w' =>
      e = .returned (.bool (decide (1 < c id.toNat + 1) && !oftenB kind id)) ∧ w'.heap[g]? = some (seenObj (upd c id.toNat (c id.toNat + 1))) ∧ w.grownBy w' (some g) := by
  have hcell : w.cell? ⟨g, id.toNat, none⟩ = some (.int .i64 (c id.toNat)) := (blk_cell hs id.toNat).trans (seenArr_get c _ (by omega))
  have hfz : w.frozen? ⟨g, id.toNat, none⟩ = false := blk_frozen hs _
  have ho : ∀ W, Calls Try.prog 41 #[.int .i64 kind, .int .i64 id] W fun e w' => e = .returned (.bool (oftenB kind id)) ∧ Drawn0 W w' := fun W => prop_often.calls kind id _ W (often_f kind id)
  have HO := Aside0.mk ho
  have HS := Aside0.mk hs
  clear ho hs
  generalize hx : c id.toNat = x at *
  have HX := Aside0.mk hx
  clear hx
  by_cases hlt : 1 < x + 1
  · have hd : decide (1 < x + 1) = true := decide_eq_true hlt
    generalize hob : oftenB kind id = ob at *
    clear hob
    go_enter Try.func37, Try.ntmps37
    go_wp2
    go_region
    go_wp2_with (go_at_call 41; refine (HO.out _).mono ?_; rintro e w' ⟨rfl, ⟨⟨nq, rfl⟩⟩⟩)
    go_ret
    refine ⟨by simp; first | (intros; omega; done) | (intros; exfalso; omega), ?_, ?_⟩
    · exact (blk_set (w := w) HS.out id.toNat (.int .i64 (x + 1))).trans (by rw [seenArr_set]; rfl)
    · exact ⟨rfl, rfl, rfl, by simp [World.setCell], fun i _ hi => Below.heap_setCell w _ _ i (fun e => hi (by rw [e]))⟩
  · have hd : decide (1 < x + 1) = false := decide_eq_false hlt
    go_enter Try.func37, Try.ntmps37
    go_wp2
    go_region
    go_wp2
    go_ret
    refine ⟨by simp; first | (intros; omega; done) | (intros; exfalso; omega), ?_, ?_⟩
    · exact (blk_set (w := w) HS.out id.toNat (.int .i64 (x + 1))).trans (by rw [seenArr_set]; rfl)
    · exact ⟨rfl, rfl, rfl, by simp [World.setCell], fun i _ hi => Below.heap_setCell w _ _ i (fun e => hi (by rw [e]))⟩

theorem lone_any (g : Nat) (c : Nat → Int) (w : World) (hs : w.heap[g]? = some (seenObj c)) :
    Calls Try.prog 39 #[.pointer (some ⟨g, 0, none⟩)] w fun e w' => e = .returned (.bool (decide (0 < c 22) && c 21 == 0)) ∧ w = w' := by
  have h22 : w.cell? ⟨g, 22, none⟩ = some (.int .i64 (c 22)) := (blk_cell hs 22).trans (seenArr_get c 22 (by omega))
  have h21 : w.cell? ⟨g, 21, none⟩ = some (.int .i64 (c 21)) := (blk_cell hs 21).trans (seenArr_get c 21 (by omega))
  clear hs
  generalize c 22 = x at *
  generalize c 21 = y at *
  by_cases hx : 0 < x
  · have hd : decide (0 < x) = true := decide_eq_true hx
    go_enter Try.func39, Try.ntmps39
    go_wp2
    go_ret
    exact ⟨by simp; intros; omega, rfl⟩
  · have hd : decide (0 < x) = false := decide_eq_false hx
    go_enter Try.func39, Try.ntmps39
    go_wp2
    go_ret
    exact ⟨by first | (simp; done) | (simp; intros; omega), rfl⟩
end Go.Proofs.Ytngmipfobcaojaa.HA
end

-- YtngmipfobcaojaaHAhBytes
section
/- prop.Bytes: its answer is told by 'bytesTo', property by property. -/
-- FOR polyglot/prop.Bytes
namespace Go.Proofs.Ytngmipfobcaojaa.HA
open Go.RowKit Go.Proofs.YtngmipfobcaojaaW.PrintWords Go.Proofs.YtngmipfobcaojaaW.PrintLast Go.Proofs.YtngmipfobcaojaaW.PrintMore
set_option linter.unusedVariables false
set_option linter.unusedSimpArgs false

/-- From the properties that are left on: the counts, the bytes so far. -/
def bytesTo (kind : Int) : List S27 → (Nat → Int) → List Int → ByteArray × Int
  | [], c, acc => if decide (0 < c 22) && c 21 == 0 then (⟨#[]⟩, 9) else if (varS acc.length).2 = 0 then ((varS acc.length).1 ++ strOfNums acc, 0) else (⟨#[]⟩, 4)
  | p :: l, c, acc =>
    if checkS (ruleOf p.f0) kind p ≠ 0 then (⟨#[]⟩, checkS (ruleOf p.f0) kind p)
    else if decide (1 < c p.f0.toNat + 1) && !oftenB kind p.f0 then (⟨#[]⟩, 9)
    else bytesTo kind l (upd c p.f0.toNat (c p.f0.toNat + 1)) (acc ++ [p.f0 % 256] ++ bytesOf (valS (ruleOf p.f0).1 p))
def bytesS (kind : Int) (l : List S27) : ByteArray × Int := if l.length > 1000 then (⟨#[]⟩, 4) else bytesTo kind l (fun _ => 0) []
def prop_Bytes.f (a0 : Int) (l1 : List S27) : Option (ByteArray × Int) := some (bytesS a0 l1)

/-- What passes the check has an id of the table. -/
theorem check_id (kind : Int) (p : S27) (h : checkS (ruleOf p.f0) kind p = 0) : 1 ≤ p.f0 ∧ p.f0 ≤ 42 := by
  have hf : ∀ l : List (Int × Int × Int × Int × Int), (∀ x ∈ l, 1 ≤ x.1 ∧ x.1 ≤ 42) → ∀ id r, ruleFind l id = some r → 1 ≤ id ∧ id ≤ 42 := by
    intro l
    induction l with
    | nil => intro _ id r h; simp [ruleFind] at h
    | cons x l ih =>
      intro hx id r h
      simp only [ruleFind] at h
      by_cases e : (id == x.1) = true
      · have := hx x List.mem_cons_self
        rw [beq_iff_eq.1 e]; exact this
      · rw [if_neg e] at h
        exact ih (fun y hy => hx y (List.mem_cons_of_mem _ hy)) id r h
  cases hr : ruleFind ruleTab p.f0 with
  | some r => exact hf ruleTab (by decide) p.f0 r hr
  | none =>
    exfalso
    have e : ruleOf p.f0 = (0, 0, 0, 0) := by unfold ruleOf; rw [hr]; rfl
    have hs : hasS (0, 0, 0, 0) kind = false := by
      unfold hasS
      have : shr .i64 0 (IntKind.u64.wrap kind) = 0 := by unfold shr; simp
      rw [this]
      have : (Go.bits .and .i64 0 1 == 1) = false := by decide
      rw [this]; simp
    rw [e] at h
    unfold checkS at h
    rw [if_pos hs] at h
    omega
theorem varS_size (n : Int) : (varS n).1.size ≤ 10 := by
  unfold varS
  split
  · rw [strOfNums_size]
    have : ∀ d x, (varTo d x).length ≤ d + 1 := by
      intro d
      induction d with
      | zero => intro x; simp [varTo]
      | succ d ih => intro x; rw [varTo]; split <;> simp; exact ih _
    have := this 3 n.toNat
    omega
  · simp [ByteArray.size]
theorem valS_size (shape : Int) (p : S27) : (valS shape p).size ≤ 131074 := by
  have h1 := binS_size p.f2
  have h2 := binS_size p.f3
  unfold valS
  split
  · rename_i h
    rw [putS_size]
    rcases h with h | h <;> rw [h] <;> decide
  · split
    · rw [putS_size]; omega
    · split
      · unfold varS
        split
        · rw [strOfNums_size]
          have : ∀ d x, (varTo d x).length ≤ d + 1 := by
            intro d
            induction d with
            | zero => intro x; simp [varTo]
            | succ d ih => intro x; rw [varTo]; split <;> simp; exact ih _
          have := this 3 (wrap64 p.f1).toNat
          omega
        · simp [ByteArray.size]
      · split
        · simp only [ByteArray.size_append]; omega
        · omega

theorem drop_rd (l : List S27) (n : Nat) (h : n < l.length) : l.drop n = rd_T27 l (n : Int) :: l.drop (n + 1) := by
  rw [List.drop_eq_getElem_cons h]
  congr 1
  simp [rd_T27, h]
theorem bytes_long (kind : Int) (A1 : Option Addr) (c1 : Nat) (l : List S27) (w : World) (h : 1000 < l.length) :
    Calls Try.prog 18 #[.int .i64 kind, .slice A1 l.length c1] w fun e w' => e = .returned (.tuple #[.string ⟨#[]⟩, .int .i64 4]) ∧ w = w' := by
  have hd : decide ((1000 : Int) < (l.length : Int)) = true := decide_eq_true (by omega)
  go_enter Try.func18, Try.ntmps18
  go_wp2
  go_ret2
  exact ⟨rfl, rfl⟩

theorem grow_drew {w W : World} {row : Option Nat} (h : w.grownBy W row) : w.grownBy W.drew row := ⟨h.os, h.tape, h.output, h.size, h.block⟩
theorem grow_alloc {w W : World} {row : Option Nat} (h : w.grownBy W row) (o : Obj) : w.grownBy (W.alloc o) row :=
  ⟨h.os, h.tape, h.output, by simp; have := h.size; omega, fun i hi hr => (Below.heap_alloc W o i (Nat.lt_of_lt_of_le hi h.size)).trans (h.block i hi hr)⟩
theorem grow_row {w W W' : World} {row row' : Option Nat} (h : w.grownBy W row) (hg : W.grownBy W' row') (hr : row' = row ∨ ∀ i, i < w.heap.size → some i ≠ row') : w.grownBy W' row :=
  ⟨hg.os.trans h.os, hg.tape.trans h.tape, hg.output.trans h.output, Nat.le_trans h.size hg.size, fun i hi hn => by
    refine (hg.block i (Nat.lt_of_lt_of_le hi h.size) ?_).trans (h.block i hi hn)
    rcases hr with rfl | hr
    · exact hn
    · exact hr i hi⟩
theorem grow_below {w W W' : World} {row : Option Nat} (h : w.grownBy W row) (hb : Below W.heap.size W W') : w.grownBy W' row := grow_row h (grown_of_below hb row) (.inl rfl)
theorem row_either {w W : World} {u : Option Nat} {g : Nat} (h : w.grownBy W u) (hat : u = some g ∨ g = W.heap.size) : some g = u ∨ ∀ i, i < w.heap.size → some i ≠ some g := by
  rcases hat with q | q
  · exact .inl q.symm
  · right
    intro i hi e
    have := h.size
    cases e
    omega
theorem grow_cell {w W : World} {row : Option Nat} (h : w.grownBy W row) {a : Addr} {v : Value} (hc : w.cell? a = some v) (hne : some a.block ≠ row) : W.cell? a = some v :=
  (h.cell_far a (World.block_lt_of_cell? w a hc) hne).trans hc
section
variable {P : Program} {w : World}
theorem step_append_str {ops : Array Oper} {o : Oper} {a : Act} {K : Act → World → Prop} {Q : Exit → Act → World → Prop} {E : Prop} (hgd : o.guard = none) (s x : Operand) (t u : TypeId)
    (ho : o.op = .call { callee := .builtin .append, args := #[s, x], argTypes := #[t, u] })
    (base : Nat) (e : TypeId) (i : TypeInfo) (ht : P.underlying t = some (.slice e)) (hu : P.underlying u = some .string) (hi : P.info? e = some i) (hz : i.zero = some (.int .u8 0))
    (hsize : i.size = 1) (hby : i.bytes = 1)
    (v : Value) (n : Nat) (xs : List Value) (hs : a.eval s = v) (hown : w.ownsRow base e 1 v n xs) (y : ByteArray) (hx : a.eval x = .string y)
    (h63 : n + y.size ≤ maxLen) (hbytes : n + y.size ≤ 140737488355328) (hbase : base ≤ w.heap.size)
    (h : ∀ v' w', w'.ownsRow base e 1 v' (n + y.size) (xs ++ Lib.strCells y) → w.grownBy w' v.ownBlock → K (a.put o.dst v') w') :
    if Region.wanted o (yielded ops a.tmps) = true then Oper.wp P o a w K Q else E := by
  have hw : Region.wanted o (yielded ops a.tmps) = true := by simp [Region.wanted, hgd]
  rw [if_pos hw]
  obtain ⟨v', w', hr, h2, h3, _⟩ := Lib.run_append_own_string (P := P) w base t u o.type e i ht hu hi hz hsize hby v n xs hown y h63 hbytes hbase
  unfold Oper.wp
  simp [execOp, ho, resolve, invoke, builtin, hs, hx, hr, Result.andThen]
  exact h v' w' h2 h3
end

/-- What holds at the head of each round. -/
structure BHead (kind : Int) (l : List S27) (res : ByteArray × Int) (w wr : World) (n : Nat) (c : Nat → Int) (acc : List Int) (v : Value) : Prop where
  map : wr.heap[w.heap.size]? = some ruleObj
  seen : wr.heap[w.heap.size + 1]? = some (seenObj c)
  own : wr.ownsRow (w.heap.size + 2) 5 1 v acc.length (nums .u8 acc)
  below : Below w.heap.size w wr
  left : bytesTo kind (l.drop n) c acc = res
  cnt : ∀ j, 0 ≤ c j ∧ c j ≤ n
  len : acc.length ≤ n * 131100

set_option maxHeartbeats 4000000 in
set_option maxRecDepth 100000 in
theorem bytes_short (kind : Int) (A1 : Option Addr) (c1 : Nat) (l : List S27) (w : World) (hr1 : Kd.C k27 w A1 l.length l) (h : l.length ≤ 1000) (res : ByteArray × Int) (hres : bytesTo kind l (fun _ => 0) [] = res) :
    Calls Try.prog 18 #[.int .i64 kind, .slice A1 l.length c1] w fun e w' => e = .returned (.tuple #[.string res.1, .int .i64 res.2]) ∧ Below w.heap.size w w' := by
  have hd : decide ((1000 : Int) < (l.length : Int)) = false := decide_eq_false (by omega)
  have HR := Aside0.mk hr1
  have HS := Aside0.mk hres
  clear hr1 hres
  go_enter Try.func18, Try.ntmps18
  go_wp2_with (first | (go_at_call 34; refine (prop_rules.calls0 _).mono ?_; rintro e w' ⟨rfl, rfl⟩) | ((with_reducible refine gate_dst (N := 7) rfl ?_); refine box_event ?hg (N := 7) ?hd (cs := seenArr (fun _ => 0)) (t := 71) ?hr ?_; (case hd => rfl); (case hg => rfl); (case hr => kernel_rfl); intro gs hg w1 hbox hb))
  have hw1 : w1.heap[w.heap.size]? = some ruleObj := (hb.block w.heap.size (by simp)).trans (heap_alloc_new w _)
  have hB1 : Below w.heap.size w w1 := below_then ((Below.refl _ _).alloc (Nat.le_refl _) _) (by simp) hb
  have hs1 : w1.heap[w.heap.size + 1]? = some (seenObj (fun _ => 0)) := by rw [hg] at hbox; simpa [seenObj] using hbox
  have H0 : BHead kind l res w w1 0 (fun _ => 0) [] (.slice none 0 0) := ⟨hw1, hs1, own_nil _ _ _ _, hB1, HS.out, fun _ => ⟨by omega, by omega⟩, by simp⟩
  clear hw1 hB1 hs1 hbox hb hg HS
  go_loopg [8, 21] l.length (fun gk v8 i21 wx => ∃ (n : Nat) (c : Nat → Int) (acc : List Int), i21 = .int .i64 n ∧ n + gk = l.length ∧ Aside0 (BHead kind l res w wx n c acc v8))
  case atStart => exact ⟨0, fun _ => 0, [], rfl, by omega, ⟨H0⟩⟩
  case round =>
    clear H0
    obtain ⟨n, c, acc, rfl, hn, HH⟩ := hrel
    cases gk with
    | zero =>
      obtain rfl : n = l.length := by omega
      have hlt : decide ((l.length : Int) < (l.length : Int)) = false := decide_eq_false (by omega)
      obtain ⟨A8, c8, rfl⟩ := own_slice HH.out.own
      have hlo := lone_any (w.heap.size + 1) c wr HH.out.seen
      have hleft := HH.out.left
      have hlen := HH.out.len
      rw [List.drop_length, bytesTo] at hleft
      have HLO := Aside0.mk hlo
      have HL := Aside0.mk hleft
      clear hlo hleft
      generalize hb : (decide (0 < c 22) && c 21 == 0) = b at *
      cases b with
      | true =>
        have hr := HL.out
        rw [if_pos rfl] at hr
        have HR1 := Aside0.mk hr
        clear hr HL hb
        go_wp2_with (go_at_call 39; refine HLO.out.mono ?_; rintro e w' ⟨rfl, rfl⟩)
        go_ret2
        exact ⟨by rw [← HR1.out]; rfl, HH.out.below⟩
      | false =>
        have hr := HL.out
        rw [if_neg (by simp)] at hr
        have hv := fun W => varint_Bytes.calls 10 (acc.length : Int) (varS acc.length).1 (varS acc.length).2 W (var_f 10 _ (by omega))
        have hvz : (varS acc.length).1.size ≤ 10 := varS_size _
        obtain ⟨vb, hvb⟩ : ∃ vb, varS acc.length = vb := ⟨_, rfl⟩
        rw [hvb] at hr hv hvz
        have HV := Aside0.mk hv
        clear HL hb hv hvb
        by_cases he : vb.2 = 0
        · rw [if_pos he] at hr
          have HR1 := Aside0.mk hr
          have ht : (vb.2 != 0) = false := by rw [bne_eq_false_iff_eq]; exact he
          have hsz := strOfNums_size acc
          have hc1 : vb.1.size + (strOfNums acc).size ≤ 9223372036854775807 := by omega
          have hc2 : decide (vb.1.size + (strOfNums acc).size ≤ 9223372036854775807) = true := decide_eq_true hc1
          have hc3 : (9223372036854775807 < vb.1.size + (strOfNums acc).size) = False := eq_false (Nat.not_lt.2 hc1)
          replace hc1 := eq_true hc1
          clear hr he hsz
          go_wp2_with (first | (go_at_call 39; refine HLO.out.mono ?_; rintro e w' ⟨rfl, rfl⟩) | (go_at_call 40; refine (HV.out _).mono ?_; rintro e w5 ⟨rfl, hb5⟩; have hcv := own_string (P := Try.prog) Try.underlying55 Try.underlying5 Try.underlying9 (pw_own_below HH.out.own hb5)))
          go_ret2
          exact ⟨by rw [← HR1.out]; rfl, below_step HH.out.below hb5⟩
        · rw [if_neg he] at hr
          have HR1 := Aside0.mk hr
          have ht : (vb.2 != 0) = true := by rw [bne_iff_ne]; exact he
          clear hr he
          go_wp2_with (first | (go_at_call 39; refine HLO.out.mono ?_; rintro e w' ⟨rfl, rfl⟩) | (go_at_call 40; refine (HV.out _).mono ?_; rintro e w5 ⟨rfl, hb5⟩))
          go_ret2
          exact ⟨by rw [← HR1.out]; rfl, below_step HH.out.below hb5⟩
    | succ g =>
      have hlt : decide ((n : Int) < (l.length : Int)) = true := decide_eq_true (by omega)
      have p0 : 0 ≤ (n : Int) := by omega
      have q0 : (n : Int) < (l.length : Int) := by omega
      obtain ⟨ad, e0, x0, x1, x2, x3⟩ := at_T27 HR.out (n : Int) p0 q0
      cases e0
      replace x0 := (HH.out.below.cell (World.block_lt_of_cell? w _ x0)).trans x0
      replace x1 := (HH.out.below.cell (World.block_lt_of_cell? w _ x1)).trans x1
      replace x2 := (HH.out.below.cell (World.block_lt_of_cell? w _ x2)).trans x2
      replace x3 := (HH.out.below.cell (World.block_lt_of_cell? w _ x3)).trans x3
      simp only [Int.toNat_natCast] at x0 x1 x2 x3
      generalize hp : rd_T27 l (n : Int) = p at *
      have HP := Aside0.mk hp
      clear hp
      have hl := run_rule_lookup (wr.alloc (.cells #[.int .i64 p.f0, .int .u32 p.f1, .string p.f2, .string p.f3] 27)) w.heap.size p.f0 (blk_alloc HH.out.map _)
      unfold ruleVal at hl
      obtain ⟨ru, hru⟩ : ∃ ru, ruleOf p.f0 = ru := ⟨_, rfl⟩
      have hck := fun W => prop_check.calls 2 ru.1 ru.2.1 ru.2.2.1 ru.2.2.2 kind p.f0 p.f1 p.f2 p.f3 _ W (check_f 0 ru kind p)
      have HCK := Aside0.mk hck
      rw [hru] at hl
      have HRU := Aside0.mk hru
      clear hck hru
      have hdrop : l.drop n = p :: l.drop (n + 1) := by rw [← HP.out]; exact drop_rd l n (by omega)
      have hleft := HH.out.left
      rw [hdrop, bytesTo, HRU.out] at hleft
      have HL := Aside0.mk hleft
      clear hdrop hleft
      go_wp2_with fail
      refine (HCK.out _).mono ?_
      rintro e w3 ⟨rfl, hb3⟩
      have HM3 := Aside0.mk (blk_below (blk_alloc (blk_alloc HH.out.map _) _) hb3)
      have HS3 := Aside0.mk (blk_below (blk_alloc (blk_alloc HH.out.seen _) _) hb3)
      have HO3 := Aside0.mk (pw_own_below (own_alloc (own_alloc HH.out.own _) _) hb3)
      have HB3 := Aside0.mk (below_step (below_alloc (below_alloc HH.out.below _) _) hb3)
      have HP3 := Aside0.mk (blk_below (blk_alloc (heap_alloc_new wr (.cells #[.int .i64 p.f0, .int .u32 p.f1, .string p.f2, .string p.f3] 27)) _) hb3)
      have HU3 := Aside0.mk (blk_below (heap_alloc_new (wr.alloc (.cells #[.int .i64 p.f0, .int .u32 p.f1, .string p.f2, .string p.f3] 27)) (.cells #[.int .i64 ru.1, .int .i64 ru.2.1, .int .u32 ru.2.2.1, .int .u32 ru.2.2.2] 65)) hb3)
      rw [World.size_alloc] at HU3
      clear hb3 x0 x1 x2 x3 hl HCK
      by_cases he : checkS ru kind p = 0
      · have ht : (checkS ru kind p != 0) = false := by rw [bne_eq_false_iff_eq]; exact he
        have hid := check_id kind p (by rw [HRU.out]; exact he)
        have hcn := HH.out.cnt p.f0.toNat
        have hsz := blk_lt HH.out.seen
        have hag := again_yes (w.heap.size + 1) c kind p.f0 w3 HS3.out (by omega) (by omega) hcn.1 (by omega)
        have HAG := Aside0.mk hag
        have hr := HL.out
        rw [if_neg (fun q => q he)] at hr
        have HR1 := Aside0.mk hr
        have hcP : w3.cell? ⟨wr.heap.size, 0, none⟩ = some (.int .i64 p.f0) := (blk_cell HP3.out 0).trans rfl
        have HE := Aside0.mk he
        have HCN := Aside0.mk hcn
        have HID := Aside0.mk hid
        clear hr HL hag he hcn hid
        generalize checkS ru kind p = ck at *
        go_wp2_with fail
        refine HAG.out.mono ?_
        rintro e w4 ⟨rfl, hs4, hg4⟩
        have HS4 := Aside0.mk hs4
        have HM4 := Aside0.mk (blk_grown HM3.out hg4 (by simp))
        have HP4 := Aside0.mk (blk_grown HP3.out hg4 (by simp; omega))
        have HU4 := Aside0.mk (blk_grown HU3.out hg4 (by simp; omega))
        have HO4 := Aside0.mk (own_other HO3.out hg4 (.inr (fun q => by have := own_base HO3.out _ q; omega)))
        have HB4 := Aside0.mk (pw_below_grown HB3.out (some (w.heap.size + 1)) HB3.out.size hg4 (fun k hk => by cases hk; omega))
        clear HS3 HM3 HP3 HU3 HO3 hs4 hg4 hcP HAG
        generalize hb : (decide (1 < c p.f0.toNat + 1) && !oftenB kind p.f0) = b at *
        cases b with
        | true =>
          have hr := HR1.out
          rw [if_pos rfl] at hr
          have HR2 := Aside0.mk hr
          clear hr HR1
          go_wp2
          go_ret2
          exact ⟨by rw [← HR2.out]; rfl, HB4.out⟩
        | false =>
          have hr := HR1.out
          rw [if_neg (by simp)] at hr
          have HR2 := Aside0.mk hr
          clear hr HR1
          obtain ⟨vs, hvs⟩ : ∃ vs, valS ru.1 p = vs := ⟨_, rfl⟩
          have hval := fun W => prop_value.calls 20 ru.1 p.f0 p.f1 p.f2 p.f3 _ W (val_f 20 ru.1 p (by omega))
          have hvz := valS_size ru.1 p
          rw [hvs] at hval hvz
          have HV := Aside0.mk hval
          have HVS := Aside0.mk hvs
          have hc0 : w4.cell? ⟨wr.heap.size, 0, none⟩ = some (.int .i64 p.f0) := (blk_cell HP4.out 0).trans rfl
          have hc1 : w4.cell? ⟨wr.heap.size, 1, none⟩ = some (.int .u32 p.f1) := (blk_cell HP4.out 1).trans rfl
          have hc2 : w4.cell? ⟨wr.heap.size, 2, none⟩ = some (.string p.f2) := (blk_cell HP4.out 2).trans rfl
          have hc3 : w4.cell? ⟨wr.heap.size, 3, none⟩ = some (.string p.f3) := (blk_cell HP4.out 3).trans rfl
          have hcu : w4.cell? ⟨wr.heap.size + 1, 0, none⟩ = some (.int .i64 ru.1) := (blk_cell HU4.out 0).trans rfl
          have hnp : some wr.heap.size ≠ u8.ownBlock := fun q => by have := own_lt HH.out.own _ q.symm; omega
          have hnu : some (wr.heap.size + 1) ≠ u8.ownBlock := fun q => by have := own_lt HH.out.own _ q.symm; omega
          obtain ⟨i0, hi0, hz0, hz1, hz2⟩ := info_parts info5
          have hlen := HH.out.len
          have hbig : w.heap.size + 2 ≤ w4.heap.size := by have := HS4.out; have := blk_lt HU4.out; omega
          have HOc := HO4
          have hwr : IntKind.u8.wrap p.f0 = p.f0 % 256 := IntKind.wrap_u8 _
          clear hval hvs HP4 HU4
          go_wp2_with fail
          go_region_held3 (fun w' => w'.cell? ⟨wr.heap.size, 0, none⟩ = some (.int .i64 p.f0) ∧ w'.cell? ⟨wr.heap.size, 1, none⟩ = some (.int .u32 p.f1) ∧ w'.cell? ⟨wr.heap.size, 2, none⟩ = some (.string p.f2) ∧ w'.cell? ⟨wr.heap.size, 3, none⟩ = some (.string p.f3) ∧ w'.cell? ⟨wr.heap.size + 1, 0, none⟩ = some (.int .i64 ru.1) ∧ w4.grownBy w' u8.ownBlock)
            ((refine (fun (hG : w4.grownBy _ u8.ownBlock) => ⟨grow_cell hG hc0 hnp, grow_cell hG hc1 hnp, grow_cell hG hc2 hnp, grow_cell hG hc3 hnp, grow_cell hG hcu hnu, hG⟩) ?_; (first | exact HG.out | exact grow_drew (World.grownBy.refl _ _) | exact grow_drew (grow_alloc (World.grownBy.refl _ _) _))))
            (first
              | (go_at_call 38; refine (HV.out _).mono ?_; rintro e w5 ⟨rfl, hbc⟩; have HOd := Aside0.mk (pw_own_below HOc.out hbc); have HGd := Aside0.mk (grow_below HG.out hbc); clear HOc HG; have HOc := HOd; have HG := HGd; clear HOd HGd)
              | (refine step_append_lies _ (by rfl) _ _ _ (by rfl) (w.heap.size + 2) 5 i0 _ 1 1 Try.underlying55 hi0 hz0 hz1 hz2 rfl (by omega) u8 acc.length (nums .u8 acc) (by rfl) ((HOc.out.alloc _).drew) ⟨w4.heap.size, 0, none⟩ 1 1 [.int .u8 (p.f0 % 256)] (by rfl) (by rfl) (World.news_of_block (cs := #[.int .u8 (p.f0 % 256)]) (t := 5) (fr := (0, 0)) (heap_alloc_new w4 _)) (by simp [Value.oneCell']) (by omega) (by unfold maxLen; omega) (by omega) (by simp; omega) _ rfl ?_; intro gq cap w6 ho6 hgrow hat hlt6; have HROW := Aside0.mk (row_either (grow_drew (grow_alloc (World.grownBy.refl w4 u8.ownBlock) (.cells #[.int .u8 (p.f0 % 256)] 5))) hat); have HG := Aside0.mk (grow_row (grow_drew (grow_alloc (World.grownBy.refl w4 u8.ownBlock) (.cells #[.int .u8 (p.f0 % 256)] 5))) hgrow (.inl rfl)); clear HOc hat; have HOc := Aside0.mk ho6; clear ho6)
              | (refine step_append_str (by rfl) _ _ _ _ (by rfl) (w.heap.size + 2) 5 i0 Try.underlying55 Try.underlying9 hi0 hz0 hz1 hz2 _ (acc.length + 1) (nums .u8 acc ++ [.int .u8 (p.f0 % 256)]) (by rfl) HOc.out vs (by rfl) (by unfold maxLen; omega) (by omega) (Nat.le_trans hbig HG.out.size) ?_; intro v7 w7 ho7 hgrow2; have HGd := Aside0.mk (grow_row HG.out hgrow2 HROW.out); clear HOc HG; have HG := HGd; have HOc := Aside0.mk ho7; clear ho7 HGd))
          have hnb : ∀ k, u8.ownBlock = some k → w.heap.size + 2 ≤ k := fun k q => own_base HH.out.own k q
          have hHH : BHead kind l res w w7 (n + 1) (upd c p.f0.toNat (c p.f0.toNat + 1)) (acc ++ [p.f0 % 256] ++ bytesOf vs) v7 := by
            refine ⟨?_, ?_, ?_, ?_, ?_, ?_, ?_⟩
            · exact (HG.out.block _ (blk_lt HM4.out) (fun q => by have := hnb _ q.symm; omega)).trans HM4.out
            · exact (HG.out.block _ (blk_lt HS4.out) (fun q => by have := hnb _ q.symm; omega)).trans HS4.out
            · have hx := HOc.out
              have e1 : nums .u8 (acc ++ [p.f0 % 256] ++ bytesOf vs) = nums .u8 acc ++ [.int .u8 (p.f0 % 256)] ++ Lib.strCells vs := by simp [nums, bytesOf, Lib.strCells]
              have e2 : (acc ++ [p.f0 % 256] ++ bytesOf vs).length = acc.length + 1 + vs.size := by simp [bytesOf_length]; omega
              rw [e1, e2]; exact hx
            · exact pw_below_grown HB4.out u8.ownBlock HB4.out.size HG.out (fun k q => by have := hnb _ q; omega)
            · rw [← HVS.out]; exact HR2.out
            · intro j
              have := HH.out.cnt j
              have := HH.out.cnt p.f0.toNat
              unfold upd
              split <;> omega
            · have e2 : (acc ++ [p.f0 % 256] ++ bytesOf vs).length = acc.length + 1 + vs.size := by simp [bytesOf_length]; omega
              rw [e2]; omega
          have HF := Aside0.mk hHH
          clear hHH HR2 HM4 HS4 HO4 HB4 HG HOc HROW HV hlen hbc hgrow hgrow2 hc0 hc1 hc2 hc3 hcu hvz HCN HID HE
          go_wp2
          go_roundg g
          case measure => omega
          case rel => exact ⟨n + 1, _, _, by first | rfl | simp, by omega, HF⟩
      · have ht : (checkS ru kind p != 0) = true := by rw [bne_iff_ne]; exact he
        have hr := HL.out
        rw [if_pos he] at hr
        have HR1 := Aside0.mk hr
        clear hr
        generalize checkS ru kind p = ck at *
        go_wp2
        go_ret2
        exact ⟨by rw [← HR1.out]; rfl, HB3.out⟩

theorem prop_Bytes.calls (a0 : Int) (A1 : Option Addr) (c1 : Nat) (l1 : List S27) (r1 : ByteArray) (r2 : Int) (w : World) (hr1 : Kd.C k27 w A1 l1.length l1) (hc1 : l1.length ≤ c1) (h : prop_Bytes.f a0 l1 = some (r1, r2)) :
    Calls Try.prog 18 #[.int .i64 a0, .slice A1 l1.length c1] w fun e w' => e = .returned (.tuple #[.string r1, .int .i64 r2]) ∧ Below w.heap.size w w' := by
  have hb : bytesS a0 l1 = (r1, r2) := Option.some.inj h
  unfold bytesS at hb
  by_cases hl : 1000 < l1.length
  · rw [if_pos hl] at hb
    cases hb
    exact (bytes_long a0 A1 c1 l1 w hl).mono fun e w' ⟨he, hw⟩ => ⟨he, hw ▸ Below.refl _ _⟩
  · rw [if_neg hl] at hb
    exact bytes_short a0 A1 c1 l1 w hr1 (by omega) (r1, r2) hb
end Go.Proofs.Ytngmipfobcaojaa.HA
end

-- YtngmipfobcaojaaHA35
section
-- Written by hp.py (a driver over the kit's print). Not trusted: Lean checks it.
namespace Go.Proofs.Ytngmipfobcaojaa.HA
open Go.RowKit Go.Proofs.YtngmipfobcaojaaW.PrintWords Go.Proofs.YtngmipfobcaojaaW.PrintLast Go.Proofs.YtngmipfobcaojaaW.PrintMore
attribute [local go_sem] max2_int min2_int max_two min_two max_three min_three max_four min_four   -- for this text's walks alone
set_option linter.unusedVariables false
set_option linter.unusedSimpArgs false

/-! ### polyglotlaw05_lives: function 11 -/
def polyglotlaw05_lives.f  : Option (Bool) := (prop_Bytes.f 3 (([(⟨1, 1, (⟨#[]⟩ : ByteArray), (⟨#[]⟩ : ByteArray)⟩ : S27)] : List (S27)))).bind fun bt140 => (if bt140.2 = 0 then (some (bt140.1.toList == ([2, 1, 1] : List UInt8))) else (some false))
set_option maxHeartbeats 8000000 in
set_option maxRecDepth 100000 in
theorem polyglotlaw05_lives.calls  (r : Bool) (w : World) (h : polyglotlaw05_lives.f  = some r) :
    Calls Try.prog 11 #[] w fun e w' => e = .returned (.bool r) ∧ Below w.heap.size w w' := by
  have hu27 := Try.underlying27
  have HB := Aside0.mk (Below.refl w.heap.size w)
  have H : ((prop_Bytes.f 3 (([(⟨1, 1, (⟨#[]⟩ : ByteArray), (⟨#[]⟩ : ByteArray)⟩ : S27)] : List (S27)))).bind fun bt140 => (if bt140.2 = 0 then (some (bt140.1.toList == ([2, 1, 1] : List UInt8))) else (some false))) = some r := h
  clear h
  obtain ⟨y137, hy137⟩ : ∃ y_ : List (S27), y_ = (([(⟨1, 1, (⟨#[]⟩ : ByteArray), (⟨#[]⟩ : ByteArray)⟩ : S27)] : List (S27))) := ⟨_, rfl⟩
  replace H : ((prop_Bytes.f 3 y137).bind fun bt140 => (if bt140.2 = 0 then (some (bt140.1.toList == ([2, 1, 1] : List UInt8))) else (some false))) = some r := by first | (rw [hy137]; with_reducible exact H) | (have H2_ := (Option.bind_some _ _).symm.trans H; rw [hy137]; with_reducible exact H2_) | (have H2_ := (Option.bind_some _ _).symm.trans H; with_reducible exact H2_) | with_reducible exact H | (rw [hy137]; exact H) | exact H
  have Ny137 := Aside0.mk hy137
  clear hy137
  replace H := Option.bind_eq_some_iff.mp H
  obtain ⟨⟨t140, t141⟩, A10, H⟩ := H
  replace H : (if t141 = 0 then (some (t140.toList == ([2, 1, 1] : List UInt8))) else (some false)) = some r := H
  have A1 := Aside0.mk A10
  clear A10
  by_cases c2 : t141 = 0
  · rw [if_pos c2] at H
    have c2b0 : (t141 == 0) = true := beq_iff_eq.mpr c2
    have c2b1 : (t141 != 0) = false := bne_eq_false_iff_eq.mpr c2
    clear c2
    obtain rfl := Option.some.inj H
    go_enter Try.func11, Try.ntmps11
    go_wp2_with (first | ((with_reducible refine gate_dst (N := 5) rfl ?_); refine Kd.R_lit k27 _ 27 ?hg (N := 5) ?hd (xs := ([(⟨1, 1, (⟨#[]⟩ : ByteArray), (⟨#[]⟩ : ByteArray)⟩ : S27)] : List (S27))) (inner := [.int .i64 1, .int .u32 1, .string (⟨#[]⟩ : ByteArray), .string (⟨#[]⟩ : ByteArray)]) (ok := fun _ => True) (okp := fun _ => True) ?hr ?hp (fun _ hk => hk) trivial (Below.refl _ _) (Nat.le_refl _) (by simp) ?_; (case hd => rfl); (case hg => rfl); (case hr => first | (go_simp; done) | (go_simp; rfl)); (case hp => exact (Reps.c4 (show Kd.M k27 _ _ _ (⟨1, 1, (⟨#[]⟩ : ByteArray), (⟨#[]⟩ : ByteArray)⟩ : S27) [.int .i64 1, .int .u32 1, .string (⟨#[]⟩ : ByteArray), .string (⟨#[]⟩ : ByteArray)] from (k27_mkM _ _ _ (⟨1, 1, (⟨#[]⟩ : ByteArray), (⟨#[]⟩ : ByteArray)⟩ : S27) )) (Reps.none _ _))); intro v138 w3 ho4 hb hg_ hnew_; clear hg_ hnew_; (first | rw [← Ny137.out] at ho4 | (simp only [Int.reduceToNat] at ho4; rw [← Ny137.out] at ho4)); have n0_ := Aside0.mk (Kd.R_lower ho4 (below_size (by repeat (first | (with_reducible first | exact HB.out | apply below_alloc | apply pw_below_drewN | apply below_drew1) | exact HB.out)))); have n1_ := Aside0.mk (below_step (by repeat (first | (with_reducible first | exact HB.out | apply below_alloc | apply pw_below_drewN | apply below_drew1) | exact HB.out)) hb); clear HB; have HO139 := n0_; have HB := n1_; clear n0_ n1_; clear hb ho4; obtain ⟨Ao5, co5, eo5⟩ := Kd.R_slice HO139.out; subst eo5) | ((with_reducible refine gate_callee (f := 18) rfl ?_); refine goesL_ (some 6) rfl rfl Try.func18 (by kernel_rfl) rfl #[.int .i64 3, .slice Ao5 y137.length co5] rfl (by (try simp only [List.map_toArray, List.map_cons, List.map_nil]); first | done | rfl | (simp only [List.length_drop, List.length_take]; rfl)) ?_; (with_reducible refine (prop_Bytes.calls 3 _ _ y137 t140 t141 _ ?side1 ?side2 A1.out).mono ?_); (case side1 => repeat (first | exact (Kd.R_reads' HO139.out).2.2 | (with_reducible refine Kd.C_alloc ?_ _) | (with_reducible refine Kd.C_drewN ?_ _) | (with_reducible refine Kd.C_drew ?_))); (case side2 => exact (Kd.R_reads' HO139.out).2.1); rintro e w6 ⟨rfl, hb⟩; refine ⟨_, rfl, ?_⟩; have n0_ := Aside0.mk (Kd.R_below (by (with_reducible repeat (first | apply Kd.R_alloc | apply Kd.R_drewN | apply Kd.R_drew)); exact HO139.out) hb); have n1_ := Aside0.mk (below_step (by repeat (first | (with_reducible first | exact HB.out | apply below_alloc | apply pw_below_drewN | apply below_drew1) | exact HB.out)) hb); clear HO139; clear HB; have HO139 := n0_; have HB := n1_; clear n0_ n1_; (try clear hb); (try clear hb2); (try clear hk); (try clear hi)))
    go_ret
    exact ⟨by first | rfl | (simp [errW_none, errW_some] <;> rfl) | (simp [*, errW_none, errW_some] <;> rfl), by repeat (first | (with_reducible first | exact HB.out | apply below_alloc | apply pw_below_drewN | apply below_drew1) | exact HB.out)⟩
  · rw [if_neg c2] at H
    have c2b0 : (t141 == 0) = false := beq_eq_false_iff_ne.mpr c2
    have c2b1 : (t141 != 0) = true := bne_iff_ne.mpr c2
    obtain rfl := Option.some.inj H
    go_enter Try.func11, Try.ntmps11
    go_wp2_with (first | ((with_reducible refine gate_dst (N := 5) rfl ?_); refine Kd.R_lit k27 _ 27 ?hg (N := 5) ?hd (xs := ([(⟨1, 1, (⟨#[]⟩ : ByteArray), (⟨#[]⟩ : ByteArray)⟩ : S27)] : List (S27))) (inner := [.int .i64 1, .int .u32 1, .string (⟨#[]⟩ : ByteArray), .string (⟨#[]⟩ : ByteArray)]) (ok := fun _ => True) (okp := fun _ => True) ?hr ?hp (fun _ hk => hk) trivial (Below.refl _ _) (Nat.le_refl _) (by simp) ?_; (case hd => rfl); (case hg => rfl); (case hr => first | (go_simp; done) | (go_simp; rfl)); (case hp => exact (Reps.c4 (show Kd.M k27 _ _ _ (⟨1, 1, (⟨#[]⟩ : ByteArray), (⟨#[]⟩ : ByteArray)⟩ : S27) [.int .i64 1, .int .u32 1, .string (⟨#[]⟩ : ByteArray), .string (⟨#[]⟩ : ByteArray)] from (k27_mkM _ _ _ (⟨1, 1, (⟨#[]⟩ : ByteArray), (⟨#[]⟩ : ByteArray)⟩ : S27) )) (Reps.none _ _))); intro v138 w7 ho8 hb hg_ hnew_; clear hg_ hnew_; (first | rw [← Ny137.out] at ho8 | (simp only [Int.reduceToNat] at ho8; rw [← Ny137.out] at ho8)); have n0_ := Aside0.mk (Kd.R_lower ho8 (below_size (by repeat (first | (with_reducible first | exact HB.out | apply below_alloc | apply pw_below_drewN | apply below_drew1) | exact HB.out)))); have n1_ := Aside0.mk (below_step (by repeat (first | (with_reducible first | exact HB.out | apply below_alloc | apply pw_below_drewN | apply below_drew1) | exact HB.out)) hb); clear HB; have HO139 := n0_; have HB := n1_; clear n0_ n1_; clear hb ho8; obtain ⟨Ao9, co9, eo9⟩ := Kd.R_slice HO139.out; subst eo9) | ((with_reducible refine gate_callee (f := 18) rfl ?_); refine goesL_ (some 6) rfl rfl Try.func18 (by kernel_rfl) rfl #[.int .i64 3, .slice Ao9 y137.length co9] rfl (by (try simp only [List.map_toArray, List.map_cons, List.map_nil]); first | done | rfl | (simp only [List.length_drop, List.length_take]; rfl)) ?_; (with_reducible refine (prop_Bytes.calls 3 _ _ y137 t140 t141 _ ?side1 ?side2 A1.out).mono ?_); (case side1 => repeat (first | exact (Kd.R_reads' HO139.out).2.2 | (with_reducible refine Kd.C_alloc ?_ _) | (with_reducible refine Kd.C_drewN ?_ _) | (with_reducible refine Kd.C_drew ?_))); (case side2 => exact (Kd.R_reads' HO139.out).2.1); rintro e w10 ⟨rfl, hb⟩; refine ⟨_, rfl, ?_⟩; have n0_ := Aside0.mk (Kd.R_below (by (with_reducible repeat (first | apply Kd.R_alloc | apply Kd.R_drewN | apply Kd.R_drew)); exact HO139.out) hb); have n1_ := Aside0.mk (below_step (by repeat (first | (with_reducible first | exact HB.out | apply below_alloc | apply pw_below_drewN | apply below_drew1) | exact HB.out)) hb); clear HO139; clear HB; have HO139 := n0_; have HB := n1_; clear n0_ n1_; (try clear hb); (try clear hb2); (try clear hk); (try clear hi)))
    go_ret
    exact ⟨by first | rfl | (simp [errW_none, errW_some] <;> rfl) | (simp [*, errW_none, errW_some] <;> rfl), by repeat (first | (with_reducible first | exact HB.out | apply below_alloc | apply pw_below_drewN | apply below_drew1) | exact HB.out)⟩

end Go.Proofs.Ytngmipfobcaojaa.HA
end

-- YtngmipfobcaojaaHA45
section
-- Written by hp.py (a driver over the kit's print). Not trusted: Lean checks it.
namespace Go.Proofs.Ytngmipfobcaojaa.HA
open Go.RowKit Go.Proofs.YtngmipfobcaojaaW.PrintWords Go.Proofs.YtngmipfobcaojaaW.PrintLast Go.Proofs.YtngmipfobcaojaaW.PrintMore
attribute [local go_sem] max2_int min2_int max_two min_two max_three min_three max_four min_four   -- for this text's walks alone
set_option linter.unusedVariables false
set_option linter.unusedSimpArgs false

/-! ### prop_Valid: function 16 -/
def prop_Valid.f (a0 : Int) (l1 : List (S27)) : Option (Int) := (prop_Bytes.f a0 l1).bind fun bt159 => (some bt159.2)
set_option maxHeartbeats 8000000 in
set_option maxRecDepth 100000 in
theorem prop_Valid.calls (a0 : Int) (A1 : Option Addr) (c1 : Nat) (l1 : List (S27)) (r : Int) (w : World) (hr1 : Kd.C k27 w A1 l1.length l1) (hc1 : l1.length ≤ c1) (h : prop_Valid.f a0 l1 = some r) :
    Calls Try.prog 16 #[.int .i64 a0, .slice A1 l1.length c1] w fun e w' => e = .returned (.int .i64 r) ∧ Below w.heap.size w w' := by
  have HR1 := Aside0.mk hr1
  have HC1 := Aside0.mk hc1
  clear hr1 hc1
  have HB := Aside0.mk (Below.refl w.heap.size w)
  have H : ((prop_Bytes.f a0 l1).bind fun bt159 => (some bt159.2)) = some r := h
  clear h
  replace H := Option.bind_eq_some_iff.mp H
  obtain ⟨⟨t159, t160⟩, A30, H⟩ := H
  replace H : (some t160) = some r := H
  have A3 := Aside0.mk A30
  clear A30
  obtain rfl := Option.some.inj H
  go_enter Try.func16, Try.ntmps16
  go_wp2_with (first | ((with_reducible refine gate_callee (f := 18) rfl ?_); refine goesL_ (some 10) rfl rfl Try.func18 (by kernel_rfl) rfl #[.int .i64 a0, .slice A1 l1.length c1] rfl (by (try simp only [List.map_toArray, List.map_cons, List.map_nil]); first | done | rfl | (simp only [List.length_drop, List.length_take]; rfl)) ?_; (with_reducible refine (prop_Bytes.calls a0 _ _ l1 t159 t160 _ ?side1 ?side2 A3.out).mono ?_); (case side1 => repeat (first | exact HR1.out | (with_reducible refine Kd.C_alloc ?_ _) | (with_reducible refine Kd.C_drewN ?_ _) | (with_reducible refine Kd.C_drew ?_))); (case side2 => exact HC1.out); rintro e w4 ⟨rfl, hb⟩; refine ⟨_, rfl, ?_⟩; have n0_ := Aside0.mk (below_step (by repeat (first | (with_reducible first | exact HB.out | apply below_alloc | apply pw_below_drewN | apply below_drew1) | exact HB.out)) hb); clear HB; have HB := n0_; clear n0_; (try clear hb); (try clear hb2); (try clear hk); (try clear hi)))
  go_ret
  exact ⟨by first | rfl | (simp [errW_none, errW_some] <;> rfl) | (simp [*, errW_none, errW_some] <;> rfl), by repeat (first | (with_reducible first | exact HB.out | apply below_alloc | apply pw_below_drewN | apply below_drew1) | exact HB.out)⟩

end Go.Proofs.Ytngmipfobcaojaa.HA
end

-- YtngmipfobcaojaaHA48
section
-- Written by hp.py (a driver over the kit's print). Not trusted: Lean checks it.
namespace Go.Proofs.Ytngmipfobcaojaa.HA
open Go.RowKit Go.Proofs.YtngmipfobcaojaaW.PrintWords Go.Proofs.YtngmipfobcaojaaW.PrintLast Go.Proofs.YtngmipfobcaojaaW.PrintMore
attribute [local go_sem] max2_int min2_int max_two min_two max_three min_three max_four min_four   -- for this text's walks alone
set_option linter.unusedVariables false
set_option linter.unusedSimpArgs false

/-! ### prop_Many: function 19 -/
def prop_Many.f (a0 : Int) (a1 : Int) : Option (Bool) := (prop_often.f a0 a1).bind fun t167 => (if t167 = true then ((prop_May.f a0 a1).bind fun t168 => (some t168)) else (some false))
set_option maxHeartbeats 8000000 in
set_option maxRecDepth 100000 in
theorem prop_Many.calls (a0 : Int) (a1 : Int) (r : Bool) (w : World) (h : prop_Many.f a0 a1 = some r) :
    Calls Try.prog 19 #[.int .i64 a0, .int .i64 a1] w fun e w' => e = .returned (.bool r) ∧ Below w.heap.size w w' := by
  have HB := Aside0.mk (Below.refl w.heap.size w)
  have H : ((prop_often.f a0 a1).bind fun t167 => (if t167 = true then ((prop_May.f a0 a1).bind fun t168 => (some t168)) else (some false))) = some r := h
  clear h
  replace H := Option.bind_eq_some_iff.mp H
  obtain ⟨t167, A30, H⟩ := H
  replace H : (if t167 = true then ((prop_May.f a0 a1).bind fun t168 => (some t168)) else (some false)) = some r := H
  have A3 := Aside0.mk A30
  clear A30
  by_cases c4 : t167 = true
  · subst c4
    have H1 : ((prop_May.f a0 a1).bind fun t168 => (some t168)) = some r := by rw [if_pos rfl] at H; exact H
    clear H
    have H := H1
    clear H1
    replace H := Option.bind_eq_some_iff.mp H
    obtain ⟨t168, A50, H⟩ := H
    replace H : (some t168) = some r := H
    have A5 := Aside0.mk A50
    clear A50
    obtain rfl := Option.some.inj H
    go_enter Try.func19, Try.ntmps19
    go_wp2_with (first | ((with_reducible refine gate_callee (f := 41) rfl ?_); refine goesL_ (some 7) rfl rfl Try.func41 (by kernel_rfl) rfl #[.int .i64 a0, .int .i64 a1] rfl (by (try simp only [List.map_toArray, List.map_cons, List.map_nil]); first | done | rfl | (simp only [List.length_drop, List.length_take]; rfl)) ?_; (with_reducible refine (prop_often.calls a0 a1 true _ A3.out).mono ?_); rintro e w' ⟨rfl, ⟨nd, rfl⟩⟩; refine ⟨_, rfl, ?_⟩) | (go_at_call 32; (with_reducible refine (prop_May.calls a0 a1 t168 _ A5.out).mono ?_); rintro e w6 ⟨rfl, hb⟩; have n0_ := Aside0.mk (below_step (by repeat (first | (with_reducible first | exact HB.out | apply below_alloc | apply pw_below_drewN | apply below_drew1) | exact HB.out)) hb); clear HB; have HB := n0_; clear n0_; (try clear hb); (try clear hb2); (try clear hk); (try clear hi)))
    go_ret
    exact ⟨by first | rfl | (simp [errW_none, errW_some] <;> rfl) | (simp [*, errW_none, errW_some] <;> rfl), by repeat (first | (with_reducible first | exact HB.out | apply below_alloc | apply pw_below_drewN | apply below_drew1) | exact HB.out)⟩
  · replace c4 := Bool.eq_false_iff.mpr c4
    subst c4
    have H1 : (some false) = some r := by rw [if_neg (show ¬ (false = true) by decide)] at H; exact H
    clear H
    have H := H1
    clear H1
    obtain rfl := Option.some.inj H
    go_enter Try.func19, Try.ntmps19
    go_wp2_with (first | ((with_reducible refine gate_callee (f := 41) rfl ?_); refine goesL_ (some 7) rfl rfl Try.func41 (by kernel_rfl) rfl #[.int .i64 a0, .int .i64 a1] rfl (by (try simp only [List.map_toArray, List.map_cons, List.map_nil]); first | done | rfl | (simp only [List.length_drop, List.length_take]; rfl)) ?_; (with_reducible refine (prop_often.calls a0 a1 false _ A3.out).mono ?_); rintro e w' ⟨rfl, ⟨nd, rfl⟩⟩; refine ⟨_, rfl, ?_⟩))
    go_ret
    exact ⟨by first | rfl | (simp [errW_none, errW_some] <;> rfl) | (simp [*, errW_none, errW_some] <;> rfl), by repeat (first | (with_reducible first | exact HB.out | apply below_alloc | apply pw_below_drewN | apply below_drew1) | exact HB.out)⟩

end Go.Proofs.Ytngmipfobcaojaa.HA
end

-- YtngmipfobcaojaaHA50
section
-- Written by hp.py (a driver over the kit's print). Not trusted: Lean checks it.
namespace Go.Proofs.Ytngmipfobcaojaa.HA
open Go.RowKit Go.Proofs.YtngmipfobcaojaaW.PrintWords Go.Proofs.YtngmipfobcaojaaW.PrintLast Go.Proofs.YtngmipfobcaojaaW.PrintMore
attribute [local go_sem] max2_int min2_int max_two min_two max_three min_three max_four min_four   -- for this text's walks alone
set_option linter.unusedVariables false
set_option linter.unusedSimpArgs false

/-! ### prop_Get: function 20 -/
def prop_Get.l0 : Nat → Int → List (S27) → Int → Int → Option (Int × Int × ByteArray × ByteArray × Bool)
  | 0, _, _, _, _ => none
  | k + 1, x1, x8, x9, x10 => if x10 < x9 then (if 0 ≤ x10 then (if x10 < (x8.length : Int) then (if ((rd_T27 x8 x10).f0) = x1 then (some ((rd_T27 x8 x10).f0, (rd_T27 x8 x10).f1, (rd_T27 x8 x10).f2, (rd_T27 x8 x10).f3, true)) else (prop_Get.l0 k x1 x8 x9 (wrap64 (x10 + 1)))) else (none)) else (none)) else (some (0, 0, (⟨#[]⟩ : ByteArray), (⟨#[]⟩ : ByteArray), false))
def prop_Get.f (k : Nat) (l0 : List (S27)) (a1 : Int) : Option (Int × Int × ByteArray × ByteArray × Bool) := prop_Get.l0 k a1 l0 (l0.length : Int) 0
theorem prop_Get.mono_l : ∀ k, (∀ y0 y1 y2 y3, LeO (prop_Get.l0 k y0 y1 y2 y3) (prop_Get.l0 (k + 1) y0 y1 y2 y3))
  | 0 => fun _ _ _ _ r h => by simp [prop_Get.l0] at h
  | k + 1 => by
    have ih0 := prop_Get.mono_l k
    · intro y0 y1 y2 y3
      unfold prop_Get.l0
      repeat' first
      | (with_reducible exact ih0 _ _ _ _)
      | (with_reducible exact LeO.refl _)
      | (with_reducible exact LeO.none _)
      | (with_reducible refine LeO.ite ?_ ?_)
      | (with_reducible refine LeO.bind ?_ (fun _ => ?_))
      | exact ih0 _ _ _ _
      | exact LeO.none _
      | refine LeO.ite ?_ ?_
      | refine LeO.bind ?_ (fun _ => ?_)
theorem prop_Get.mono : ∀ a0 a1 k, LeO (prop_Get.f k a0 a1) (prop_Get.f (k + 1) a0 a1) := by
  intro a0 a1 k
  have ih0 := prop_Get.mono_l k
  unfold prop_Get.f
  repeat' first
      | (with_reducible exact ih0 _ _ _ _)
      | (with_reducible exact LeO.refl _)
      | (with_reducible exact LeO.none _)
      | (with_reducible refine LeO.ite ?_ ?_)
      | (with_reducible refine LeO.bind ?_ (fun _ => ?_))
      | exact ih0 _ _ _ _
      | exact LeO.none _
      | refine LeO.ite ?_ ?_
      | refine LeO.bind ?_ (fun _ => ?_)
set_option maxHeartbeats 8000000 in
set_option maxRecDepth 100000 in
theorem prop_Get.calls (k : Nat) (A0 : Option Addr) (c0 : Nat) (l0 : List (S27)) (a1 : Int) (r1 : Int) (r2 : Int) (r3 : ByteArray) (r4 : ByteArray) (r5 : Bool) (w : World) (hr0 : Kd.C k27 w A0 l0.length l0) (hc0 : l0.length ≤ c0) (h : prop_Get.f k l0 a1 = some (r1, r2, r3, r4, r5)) :
    Calls Try.prog 20 #[.slice A0 l0.length c0, .int .i64 a1] w fun e w' => e = .returned (.tuple #[.agg #[.int .i64 r1, .int .u32 r2, .string r3, .string r4], .bool r5]) ∧ Below w.heap.size w w' := by
  have hu27 := Try.underlying27
  have HR0 := Aside0.mk hr0
  have HC0 := Aside0.mk hc0
  clear hr0 hc0
  have HB := Aside0.mk (Below.refl w.heap.size w)
  have H : (prop_Get.l0 k a1 l0 (l0.length : Int) 0) = some (r1, r2, r3, r4, r5) := h
  clear h
  have H' := Aside0.mk H
  clear H
  go_enter Try.func20, Try.ntmps20
  go_wp2_with (first | ((with_reducible refine gate_dst (N := 4) rfl ?_); refine box_event ?hg (N := 4) ?hd (cs := #[.int .i64 0, .int .u32 0, .string (⟨#[]⟩ : ByteArray), .string (⟨#[]⟩ : ByteArray)]) (t := 27) ?hr ?_; (case hd => rfl); (case hg => rfl); (case hr => first | (go_simp; done) | (go_simp; rfl)); intro gb222 hg w3 hbox hb; have n0_ := Aside0.mk (below_step (by repeat (first | (with_reducible first | exact HB.out | apply below_alloc | apply pw_below_drewN | apply below_drew1) | exact HB.out)) hb); have n1_ := Aside0.mk (hbox); have n2_ := Aside0.mk ((by rw [hg]; exact (below_size (by repeat (first | (with_reducible first | exact HB.out | apply below_alloc | apply pw_below_drewN | apply below_drew1) | exact HB.out))) : w.heap.size ≤ gb222)); have n3_ := Aside0.mk ((by rw [hg]; exact (below_size (by repeat (first | (with_reducible first | exact HB.out | apply below_alloc | apply pw_below_drewN | apply below_drew1) | exact HB.out))) : w.heap.size ≤ gb222)); clear HB; have HB := n0_; have BK222 := n1_; have GW222 := n2_; have GE222 := n3_; clear n0_ n1_ n2_ n3_; clear hb hbox hg))
  go_loopg [10] k (fun kq v10 w' => ∃ (x10_1 : Int) (x223000_1 : Int) (x223001_1 : Int) (x223002_1 : ByteArray) (x223003_1 : ByteArray), v10 = .int .i64 x10_1 ∧ Aside0 (prop_Get.l0 kq a1 l0 (l0.length : Int) x10_1 = some (r1, r2, r3, r4, r5)) ∧ Aside0 (kq ≤ k) ∧ Aside0 (w'.heap[gb222]? = some (.cells #[.int .i64 x223000_1, .int .u32 x223001_1, .string x223002_1, .string x223003_1] 27 (0, 0))) ∧ Aside0 (Below w.heap.size w w'))
  case atStart => exact ⟨(0), (0), (0), ((⟨#[]⟩ : ByteArray)), ((⟨#[]⟩ : ByteArray)), (by first | rfl | (simp; done) | (simp [*]; done) | (simp; exact bne_nil_isEmpty _) | exact bne_nil_isEmpty _ | (simp; exact (bne_nil_isEmpty _).symm) | (simp; exact bne_nil_isEmpty' _)), H', ⟨Nat.le_refl _⟩, ⟨by (with_reducible repeat (first | refine blk_drewN ?_ _ | refine blk_drew ?_ | refine blk_alloc ?_ _)); exact BK222.out⟩, ⟨by repeat (first | (with_reducible first | exact HB.out | apply below_alloc | apply pw_below_drewN | apply below_drew1 | refine below_set ?_ GE222.out) | exact HB.out)⟩⟩
  case round =>
    clear H'
    try clear c2
    try clear p2
    obtain ⟨x10_1, x223000_1, x223001_1, x223002_1, x223003_1, rfl, HA, HK1, BK222, HB⟩ := hrel
    cases gk with
    | zero => exact absurd HA.out (by simp [prop_Get.l0])
    | succ k1 =>
      have H := HA.out
      clear HA
      simp only [prop_Get.l0] at H
      by_cases c4 : x10_1 < (l0.length : Int)
      · rw [if_pos c4] at H
        have c4b0 : decide (x10_1 < (l0.length : Int)) = true := decide_eq_true c4
        clear c4
        by_cases c5 : 0 ≤ x10_1
        · rw [if_pos c5] at H
          have c5b0 : decide (0 ≤ x10_1) = true := decide_eq_true c5
          clear c5
          by_cases c6 : x10_1 < (l0.length : Int)
          · rw [if_pos c6] at H
            have c6b0 : decide (x10_1 < (l0.length : Int)) = true := decide_eq_true c6
            clear c6
            by_cases c7 : ((rd_T27 l0 x10_1).f0) = a1
            · rw [if_pos c7] at H
              have c7b0 : (((rd_T27 l0 x10_1).f0) == a1) = true := beq_iff_eq.mpr c7
              have c7b1 : (((rd_T27 l0 x10_1).f0) != a1) = false := bne_eq_false_iff_eq.mpr c7
              clear c7
              simp only [Option.some.injEq, Prod.mk.injEq] at H
              obtain ⟨rfl, rfl, rfl, rfl, rfl⟩ := H
              have p223 : 0 ≤ (x10_1 : Int) := of_decide_eq_true (by first | (with_reducible assumption) | assumption)
              have q223 : x10_1 < (l0.length : Int) := of_decide_eq_true (by first | (with_reducible assumption) | assumption)
              obtain ⟨ad223, e223, hx223_0, hx223_1, hx223_2, hx223_3⟩ := at_T27 HR0.out x10_1 p223 q223
              cases e223
              replace hx223_0 := (HB.out.cell (World.block_lt_of_cell? w _ hx223_0)).trans hx223_0
              replace hx223_1 := (HB.out.cell (World.block_lt_of_cell? w _ hx223_1)).trans hx223_1
              replace hx223_2 := (HB.out.cell (World.block_lt_of_cell? w _ hx223_2)).trans hx223_2
              replace hx223_3 := (HB.out.cell (World.block_lt_of_cell? w _ hx223_3)).trans hx223_3
              replace p223 := eq_true p223
              replace q223 := eq_true q223
              go_wp2_with (first | ((with_reducible refine gate_dst (N := 7) rfl ?_); refine box_event ?hg (N := 7) ?hd (cs := #[.int .i64 0, .int .u32 0, .string (⟨#[]⟩ : ByteArray), .string (⟨#[]⟩ : ByteArray)]) (t := 27) ?hr ?_; (case hd => rfl); (case hg => rfl); (case hr => first | (go_simp; done) | (go_simp; rfl)); intro gb224 hg w8 hbox hb; have n0_ := Aside0.mk (blk_below (g := gb222) (o := .cells #[.int .i64 x223000_1, .int .u32 x223001_1, .string x223002_1, .string x223003_1] 27 (0, 0)) (by (with_reducible repeat (first | refine blk_drewN ?_ _ | refine blk_drew ?_ | refine blk_alloc ?_ _)); exact BK222.out) hb); have n1_ := Aside0.mk (below_step (by repeat (first | (with_reducible first | exact HB.out | apply below_alloc | apply pw_below_drewN | apply below_drew1 | refine below_set ?_ GE222.out) | exact HB.out)) hb); have n2_ := Aside0.mk (hbox); have n3_ := Aside0.mk ((by rw [hg]; exact (below_size (by repeat (first | (with_reducible first | exact HB.out | apply below_alloc | apply pw_below_drewN | apply below_drew1 | refine below_set ?_ GE222.out) | exact HB.out))) : w.heap.size ≤ gb224)); have n4_ := Aside0.mk ((by rw [hg]; exact (below_size (by repeat (first | (with_reducible first | exact HB.out | apply below_alloc | apply pw_below_drewN | apply below_drew1 | refine below_set ?_ GE222.out) | exact HB.out))) : w.heap.size ≤ gb224)); have n5_ := Aside0.mk ((by rw [hg]; exact Nat.ne_of_lt (blk_lt (g := gb222) (o := .cells #[.int .i64 x223000_1, .int .u32 x223001_1, .string x223002_1, .string x223003_1] 27 (0, 0)) (by (with_reducible repeat (first | refine blk_drewN ?_ _ | refine blk_drew ?_ | refine blk_alloc ?_ _)); exact BK222.out)) : gb222 ≠ gb224)); have n6_ := Aside0.mk ((by rw [hg]; exact Nat.ne_of_gt (blk_lt (g := gb222) (o := .cells #[.int .i64 x223000_1, .int .u32 x223001_1, .string x223002_1, .string x223003_1] 27 (0, 0)) (by (with_reducible repeat (first | refine blk_drewN ?_ _ | refine blk_drew ?_ | refine blk_alloc ?_ _)); exact BK222.out)) : gb224 ≠ gb222)); clear BK222; clear HB; have BK222 := n0_; have HB := n1_; have BK224 := n2_; have GW224 := n3_; have GE224 := n4_; have NB222_224 := n5_; have NB224_222 := n6_; clear n0_ n1_ n2_ n3_ n4_ n5_ n6_; clear hb hbox hg; have hnb9 := NB224_222.out; have hnc9 := NB222_224.out; have hcz10_0 : w8.cell? ⟨gb224, 0, none⟩ = some (.int .i64 0) := (blk_cell BK224.out 0).trans rfl; have hcz10_1 : w8.cell? ⟨gb224, 1, none⟩ = some (.int .u32 0) := (blk_cell BK224.out 1).trans rfl; have hcz10_2 : w8.cell? ⟨gb224, 2, none⟩ = some (.string (⟨#[]⟩ : ByteArray)) := (blk_cell BK224.out 2).trans rfl; have hcz10_3 : w8.cell? ⟨gb224, 3, none⟩ = some (.string (⟨#[]⟩ : ByteArray)) := (blk_cell BK224.out 3).trans rfl; have hfz10_0 := blk_frozen BK224.out 0; have hfz10_1 := blk_frozen BK224.out 1; have hfz10_2 := blk_frozen BK224.out 2; have hfz10_3 := blk_frozen BK224.out 3; have hcz11_0 : w8.cell? ⟨gb222, 0, none⟩ = some (.int .i64 x223000_1) := (blk_cell BK222.out 0).trans rfl; have hcz11_1 : w8.cell? ⟨gb222, 1, none⟩ = some (.int .u32 x223001_1) := (blk_cell BK222.out 1).trans rfl; have hcz11_2 : w8.cell? ⟨gb222, 2, none⟩ = some (.string x223002_1) := (blk_cell BK222.out 2).trans rfl; have hcz11_3 : w8.cell? ⟨gb222, 3, none⟩ = some (.string x223003_1) := (blk_cell BK222.out 3).trans rfl; have hfz11_0 := blk_frozen BK222.out 0; have hfz11_1 := blk_frozen BK222.out 1; have hfz11_2 := blk_frozen BK222.out 2; have hfz11_3 := blk_frozen BK222.out 3))
              refine bodyPost_ret (results_ct rfl _ _ gb222 27 #[.int .i64 ((rd_T27 l0 x10_1).f0), .int .u32 ((rd_T27 l0 x10_1).f1), .string ((rd_T27 l0 x10_1).f2), .string ((rd_T27 l0 x10_1).f3)] (0, 0) _ rfl (by (with_reducible repeat (first | refine blk_drewN ?_ _ | refine blk_drew ?_ | refine blk_alloc ?_ _)); refine blk_put (cs := #[.int .i64 ((rd_T27 l0 x10_1).f0), .int .u32 ((rd_T27 l0 x10_1).f1), .string ((rd_T27 l0 x10_1).f2), .string x223003_1]) ?_ 3 _ rfl; (with_reducible repeat (first | refine blk_drewN ?_ _ | refine blk_drew ?_ | refine blk_alloc ?_ _)); refine blk_put (cs := #[.int .i64 ((rd_T27 l0 x10_1).f0), .int .u32 ((rd_T27 l0 x10_1).f1), .string x223002_1, .string x223003_1]) ?_ 2 _ rfl; (with_reducible repeat (first | refine blk_drewN ?_ _ | refine blk_drew ?_ | refine blk_alloc ?_ _)); refine blk_put (cs := #[.int .i64 ((rd_T27 l0 x10_1).f0), .int .u32 x223001_1, .string x223002_1, .string x223003_1]) ?_ 1 _ rfl; (with_reducible repeat (first | refine blk_drewN ?_ _ | refine blk_drew ?_ | refine blk_alloc ?_ _)); refine blk_put (cs := #[.int .i64 x223000_1, .int .u32 x223001_1, .string x223002_1, .string x223003_1]) ?_ 0 _ rfl; (with_reducible repeat (first | refine blk_drewN ?_ _ | refine blk_drew ?_ | refine blk_alloc ?_ _)); refine blk_far ?_ NB222_224.out _; (with_reducible repeat (first | refine blk_drewN ?_ _ | refine blk_drew ?_ | refine blk_alloc ?_ _)); refine blk_far ?_ NB222_224.out _; (with_reducible repeat (first | refine blk_drewN ?_ _ | refine blk_drew ?_ | refine blk_alloc ?_ _)); refine blk_far ?_ NB222_224.out _; (with_reducible repeat (first | refine blk_drewN ?_ _ | refine blk_drew ?_ | refine blk_alloc ?_ _)); refine blk_far ?_ NB222_224.out _; (with_reducible repeat (first | refine blk_drewN ?_ _ | refine blk_drew ?_ | refine blk_alloc ?_ _)); exact BK222.out) Try.underlying27 rfl (by kernel_rfl)) rfl ?_
              exact ⟨by first | rfl | (simp [errW_none, errW_some] <;> rfl) | (simp [*, errW_none, errW_some] <;> rfl), by repeat (first | (with_reducible first | exact HB.out | apply below_alloc | apply pw_below_drewN | apply below_drew1 | refine below_set ?_ GE222.out | refine below_set ?_ GE224.out) | exact HB.out)⟩
            · rw [if_neg c7] at H
              have c7b0 : (((rd_T27 l0 x10_1).f0) == a1) = false := beq_eq_false_iff_ne.mpr c7
              have c7b1 : (((rd_T27 l0 x10_1).f0) != a1) = true := bne_iff_ne.mpr c7
              have H' := Aside0.mk H
              clear H
              have p223 : 0 ≤ (x10_1 : Int) := of_decide_eq_true (by first | (with_reducible assumption) | assumption)
              have q223 : x10_1 < (l0.length : Int) := of_decide_eq_true (by first | (with_reducible assumption) | assumption)
              obtain ⟨ad223, e223, hx223_0, hx223_1, hx223_2, hx223_3⟩ := at_T27 HR0.out x10_1 p223 q223
              cases e223
              replace hx223_0 := (HB.out.cell (World.block_lt_of_cell? w _ hx223_0)).trans hx223_0
              replace hx223_1 := (HB.out.cell (World.block_lt_of_cell? w _ hx223_1)).trans hx223_1
              replace hx223_2 := (HB.out.cell (World.block_lt_of_cell? w _ hx223_2)).trans hx223_2
              replace hx223_3 := (HB.out.cell (World.block_lt_of_cell? w _ hx223_3)).trans hx223_3
              replace p223 := eq_true p223
              replace q223 := eq_true q223
              go_wp2_with (first | ((with_reducible refine gate_dst (N := 7) rfl ?_); refine box_event ?hg (N := 7) ?hd (cs := #[.int .i64 0, .int .u32 0, .string (⟨#[]⟩ : ByteArray), .string (⟨#[]⟩ : ByteArray)]) (t := 27) ?hr ?_; (case hd => rfl); (case hg => rfl); (case hr => first | (go_simp; done) | (go_simp; rfl)); intro gb224 hg w12 hbox hb; have n0_ := Aside0.mk (blk_below (g := gb222) (o := .cells #[.int .i64 x223000_1, .int .u32 x223001_1, .string x223002_1, .string x223003_1] 27 (0, 0)) (by (with_reducible repeat (first | refine blk_drewN ?_ _ | refine blk_drew ?_ | refine blk_alloc ?_ _)); exact BK222.out) hb); have n1_ := Aside0.mk (below_step (by repeat (first | (with_reducible first | exact HB.out | apply below_alloc | apply pw_below_drewN | apply below_drew1 | refine below_set ?_ GE222.out) | exact HB.out)) hb); have n2_ := Aside0.mk (hbox); have n3_ := Aside0.mk ((by rw [hg]; exact (below_size (by repeat (first | (with_reducible first | exact HB.out | apply below_alloc | apply pw_below_drewN | apply below_drew1 | refine below_set ?_ GE222.out) | exact HB.out))) : w.heap.size ≤ gb224)); have n4_ := Aside0.mk ((by rw [hg]; exact (below_size (by repeat (first | (with_reducible first | exact HB.out | apply below_alloc | apply pw_below_drewN | apply below_drew1 | refine below_set ?_ GE222.out) | exact HB.out))) : w.heap.size ≤ gb224)); have n5_ := Aside0.mk ((by rw [hg]; exact Nat.ne_of_lt (blk_lt (g := gb222) (o := .cells #[.int .i64 x223000_1, .int .u32 x223001_1, .string x223002_1, .string x223003_1] 27 (0, 0)) (by (with_reducible repeat (first | refine blk_drewN ?_ _ | refine blk_drew ?_ | refine blk_alloc ?_ _)); exact BK222.out)) : gb222 ≠ gb224)); have n6_ := Aside0.mk ((by rw [hg]; exact Nat.ne_of_gt (blk_lt (g := gb222) (o := .cells #[.int .i64 x223000_1, .int .u32 x223001_1, .string x223002_1, .string x223003_1] 27 (0, 0)) (by (with_reducible repeat (first | refine blk_drewN ?_ _ | refine blk_drew ?_ | refine blk_alloc ?_ _)); exact BK222.out)) : gb224 ≠ gb222)); clear BK222; clear HB; have BK222 := n0_; have HB := n1_; have BK224 := n2_; have GW224 := n3_; have GE224 := n4_; have NB222_224 := n5_; have NB224_222 := n6_; clear n0_ n1_ n2_ n3_ n4_ n5_ n6_; clear hb hbox hg; have hnb13 := NB224_222.out; have hnc13 := NB222_224.out; have hcz14_0 : w12.cell? ⟨gb224, 0, none⟩ = some (.int .i64 0) := (blk_cell BK224.out 0).trans rfl; have hcz14_1 : w12.cell? ⟨gb224, 1, none⟩ = some (.int .u32 0) := (blk_cell BK224.out 1).trans rfl; have hcz14_2 : w12.cell? ⟨gb224, 2, none⟩ = some (.string (⟨#[]⟩ : ByteArray)) := (blk_cell BK224.out 2).trans rfl; have hcz14_3 : w12.cell? ⟨gb224, 3, none⟩ = some (.string (⟨#[]⟩ : ByteArray)) := (blk_cell BK224.out 3).trans rfl; have hfz14_0 := blk_frozen BK224.out 0; have hfz14_1 := blk_frozen BK224.out 1; have hfz14_2 := blk_frozen BK224.out 2; have hfz14_3 := blk_frozen BK224.out 3))
              go_roundg k1
              case measure => have := HK1.out; omega
              case rel => exact ⟨(wrap64 (x10_1 + 1)), (x223000_1), (x223001_1), (x223002_1), (x223003_1), (by first | rfl | (simp; done) | (simp [*]; done) | (simp; exact bne_nil_isEmpty _) | exact bne_nil_isEmpty _ | (simp; exact (bne_nil_isEmpty _).symm) | (simp; exact bne_nil_isEmpty' _)), H', ⟨by have := HK1.out; omega⟩, ⟨by (with_reducible repeat (first | refine blk_drewN ?_ _ | refine blk_drew ?_ | refine blk_alloc ?_ _)); refine blk_far ?_ NB222_224.out _; (with_reducible repeat (first | refine blk_drewN ?_ _ | refine blk_drew ?_ | refine blk_alloc ?_ _)); refine blk_far ?_ NB222_224.out _; (with_reducible repeat (first | refine blk_drewN ?_ _ | refine blk_drew ?_ | refine blk_alloc ?_ _)); refine blk_far ?_ NB222_224.out _; (with_reducible repeat (first | refine blk_drewN ?_ _ | refine blk_drew ?_ | refine blk_alloc ?_ _)); refine blk_far ?_ NB222_224.out _; (with_reducible repeat (first | refine blk_drewN ?_ _ | refine blk_drew ?_ | refine blk_alloc ?_ _)); exact BK222.out⟩, ⟨by repeat (first | (with_reducible first | exact HB.out | apply below_alloc | apply pw_below_drewN | apply below_drew1 | refine below_set ?_ GE222.out | refine below_set ?_ GE224.out) | exact HB.out)⟩⟩
          · rw [if_neg c6] at H
            exact absurd H (by simp)
        · rw [if_neg c5] at H
          exact absurd H (by simp)
      · rw [if_neg c4] at H
        have c4b0 : decide (x10_1 < (l0.length : Int)) = false := decide_eq_false c4
        clear c4
        simp only [Option.some.injEq, Prod.mk.injEq] at H
        obtain ⟨rfl, rfl, rfl, rfl, rfl⟩ := H
        have hcz15_0 : wr.cell? ⟨gb222, 0, none⟩ = some (.int .i64 x223000_1) := (blk_cell BK222.out 0).trans rfl
        have hcz15_1 : wr.cell? ⟨gb222, 1, none⟩ = some (.int .u32 x223001_1) := (blk_cell BK222.out 1).trans rfl
        have hcz15_2 : wr.cell? ⟨gb222, 2, none⟩ = some (.string x223002_1) := (blk_cell BK222.out 2).trans rfl
        have hcz15_3 : wr.cell? ⟨gb222, 3, none⟩ = some (.string x223003_1) := (blk_cell BK222.out 3).trans rfl
        have hfz15_0 := blk_frozen BK222.out 0
        have hfz15_1 := blk_frozen BK222.out 1
        have hfz15_2 := blk_frozen BK222.out 2
        have hfz15_3 := blk_frozen BK222.out 3
        go_wp2
        refine bodyPost_ret (results_ct rfl _ _ gb222 27 #[.int .i64 0, .int .u32 0, .string (⟨#[]⟩ : ByteArray), .string (⟨#[]⟩ : ByteArray)] (0, 0) _ rfl (by (with_reducible repeat (first | refine blk_drewN ?_ _ | refine blk_drew ?_ | refine blk_alloc ?_ _)); refine blk_put (cs := #[.int .i64 0, .int .u32 0, .string (⟨#[]⟩ : ByteArray), .string x223003_1]) ?_ 3 _ rfl; (with_reducible repeat (first | refine blk_drewN ?_ _ | refine blk_drew ?_ | refine blk_alloc ?_ _)); refine blk_put (cs := #[.int .i64 0, .int .u32 0, .string x223002_1, .string x223003_1]) ?_ 2 _ rfl; (with_reducible repeat (first | refine blk_drewN ?_ _ | refine blk_drew ?_ | refine blk_alloc ?_ _)); refine blk_put (cs := #[.int .i64 0, .int .u32 x223001_1, .string x223002_1, .string x223003_1]) ?_ 1 _ rfl; (with_reducible repeat (first | refine blk_drewN ?_ _ | refine blk_drew ?_ | refine blk_alloc ?_ _)); refine blk_put (cs := #[.int .i64 x223000_1, .int .u32 x223001_1, .string x223002_1, .string x223003_1]) ?_ 0 _ rfl; (with_reducible repeat (first | refine blk_drewN ?_ _ | refine blk_drew ?_ | refine blk_alloc ?_ _)); exact BK222.out) Try.underlying27 rfl (by kernel_rfl)) rfl ?_
        exact ⟨by first | rfl | (simp [errW_none, errW_some] <;> rfl) | (simp [*, errW_none, errW_some] <;> rfl), by repeat (first | (with_reducible first | exact HB.out | apply below_alloc | apply pw_below_drewN | apply below_drew1 | refine below_set ?_ GE222.out) | exact HB.out)⟩

end Go.Proofs.Ytngmipfobcaojaa.HA
end

-- YtngmipfobcaojaaHA64
section
-- Written by hp.py (a driver over the kit's print). Not trusted: Lean checks it.
namespace Go.Proofs.Ytngmipfobcaojaa.HA
open Go.RowKit Go.Proofs.YtngmipfobcaojaaW.PrintWords Go.Proofs.YtngmipfobcaojaaW.PrintLast Go.Proofs.YtngmipfobcaojaaW.PrintMore
attribute [local go_sem] max2_int min2_int max_two min_two max_three min_three max_four min_four   -- for this text's walks alone
set_option linter.unusedVariables false
set_option linter.unusedSimpArgs false

/-- A state of type 99 at block g of W; what its slices lead to came in by w0. -/
def IsS99 (w0 W : World) (g : Nat) (f0 : Int) (f1 : Int) (f2 : Bool) (f3 : Bool) : Prop := W.heap[g]? = some (.cells #[.int .i64 f0, .int .i64 f1, .bool f2, .bool f3] 99 (0, 0)) ∧ w0.heap.size ≤ g
theorem IsS99.grown {w0 W : World} {g : Nat} {f0 : Int} {f1 : Int} {f2 : Bool} {f3 : Bool} {W1 : World} {row : Option Nat} (h : IsS99 w0 W g f0 f1 f2 f3) (hw : W.grownBy W1 row) (hne : some g ≠ row) : IsS99 w0 W1 g f0 f1 f2 f3 := by
  obtain ⟨hb, hg⟩ := h
  exact ⟨blk_grown hb hw hne, hg⟩
theorem IsS99.own_neN {w0 W : World} {g : Nat} {f0 : Int} {f1 : Int} {f2 : Bool} {f3 : Bool} {α : Type} {d : Kd α} {e : Nat} {base : Nat} {ok : Nat → Prop} {v : Value} {xs : List α} (h : IsS99 w0 W g f0 f1 f2 f3) (ho : Kd.N d e W base ok v xs) (ht : e ≠ 99) : some g ≠ v.ownBlock := by
  obtain ⟨hb, hg⟩ := h
  exact Kd.N_ne ho hb ht
theorem IsS99.fresh {w0 W : World} {g : Nat} {f0 : Int} {f1 : Int} {f2 : Bool} {f3 : Bool} (h : IsS99 w0 W g f0 f1 f2 f3) : ∀ k, W.heap.size ≤ k → k ≠ g := by
  obtain ⟨hb, hg⟩ := h
  exact Kd.freshB hb
theorem IsS99.kept {w0 W : World} {g : Nat} {f0 : Int} {f1 : Int} {f2 : Bool} {f3 : Bool} {W1 : World} {S : Nat → Prop} (h : IsS99 w0 W g f0 f1 f2 f3) (hk : Kept W W1 S) (hne : ¬ S g) : IsS99 w0 W1 g f0 f1 f2 f3 := by
  obtain ⟨hb, hg⟩ := h
  exact ⟨blk_kept hb hk hne, hg⟩
theorem IsS99.below {w0 W : World} {g : Nat} {f0 : Int} {f1 : Int} {f2 : Bool} {f3 : Bool} {W1 : World} (h : IsS99 w0 W g f0 f1 f2 f3) (hw : Below W.heap.size W W1) : IsS99 w0 W1 g f0 f1 f2 f3 := h.grown (grown_of_below hw none) (by simp)
theorem IsS99.alloc {w0 W : World} {g : Nat} {f0 : Int} {f1 : Int} {f2 : Bool} {f3 : Bool} (h : IsS99 w0 W g f0 f1 f2 f3) (o : Obj) : IsS99 w0 (W.alloc o) g f0 f1 f2 f3 := h.below (below_alloc (Below.refl _ _) o)
theorem IsS99.drewN {w0 W : World} {g : Nat} {f0 : Int} {f1 : Int} {f2 : Bool} {f3 : Bool} (h : IsS99 w0 W g f0 f1 f2 f3) (m : Nat) : IsS99 w0 (W.drewN m) g f0 f1 f2 f3 := h
theorem IsS99.drew {w0 W : World} {g : Nat} {f0 : Int} {f1 : Int} {f2 : Bool} {f3 : Bool} (h : IsS99 w0 W g f0 f1 f2 f3) : IsS99 w0 W.drew g f0 f1 f2 f3 := h
theorem IsS99.at_ {w0 W : World} {g : Nat} {f0 : Int} {f1 : Int} {f2 : Bool} {f3 : Bool} {w' : World} {m : Nat} (hq : W.drewN m = w') (h : IsS99 w0 W g f0 f1 f2 f3) : IsS99 w0 w' g f0 f1 f2 f3 := by subst hq; exact IsS99.drewN h m
theorem IsS99.apart {w0 W : World} {g : Nat} {f0 : Int} {f1 : Int} {f2 : Bool} {f3 : Bool} {α : Type} {d : Kd α} {e : Nat} {base : Nat} {ok : Nat → Prop} {v : Value} {xs : List α} (h : IsS99 w0 W g f0 f1 f2 f3) (ho : d.R e W base ok v xs) (ht : ∀ q, q ∈ e :: d.E → q ≠ 99) : d.R e W base (fun k => ok k ∧ k ≠ g) v xs := by
  obtain ⟨hb, hg⟩ := h
  exact Kd.R_types ho hb ht
theorem IsS99.own_ne {w0 W : World} {g : Nat} {f0 : Int} {f1 : Int} {f2 : Bool} {f3 : Bool} {α : Type} {d : Kd α} {e : Nat} {base : Nat} {ok : Nat → Prop} {v : Value} {xs : List α} (h : IsS99 w0 W g f0 f1 f2 f3) (ho : d.R e W base ok v xs) (ht : e ≠ 99) : some g ≠ v.ownBlock := by
  obtain ⟨hb, hg⟩ := h
  exact Kd.R_ne ho hb ht
theorem IsS99.apartQ {w0 W : World} {g : Nat} {f0 : Int} {f1 : Int} {f2 : Bool} {f3 : Bool} {α : Type} {d : Kd α} {e : Nat} {base : Nat} {ok : Nat → Prop} {v : Value} {xs : List α} (h : IsS99 w0 W g f0 f1 f2 f3) (ho : d.Q e W base ok v xs) (ht : ∀ q, q ∈ e :: d.E → q ≠ 99) : d.Q e W base (fun k => ok k ∧ k ≠ g) v xs := by
  obtain ⟨hb, hg⟩ := h
  exact Kd.Q_types ho hb ht
theorem IsS99.own_neQ {w0 W : World} {g : Nat} {f0 : Int} {f1 : Int} {f2 : Bool} {f3 : Bool} {α : Type} {d : Kd α} {e : Nat} {base : Nat} {ok : Nat → Prop} {v : Value} {xs : List α} (h : IsS99 w0 W g f0 f1 f2 f3) (ho : d.Q e W base ok v xs) (ht : e ≠ 99) : some g ≠ v.ownBlock := by
  obtain ⟨hb, hg⟩ := h
  exact Kd.Q_ne ho hb ht
theorem IsS99.apartS {w0 W : World} {g : Nat} {f0 : Int} {f1 : Int} {f2 : Bool} {f3 : Bool} {α : Type} {d : Kd α} {e : Nat} {base : Nat} {ok : Nat → Prop} {v : Value} {xs : List α} (h : IsS99 w0 W g f0 f1 f2 f3) (ho : d.S e W base ok v xs) (ht : ∀ q, q ∈ e :: d.E → q ≠ 99) : d.S e W base (fun k => ok k ∧ k ≠ g) v xs := by
  obtain ⟨hb, hg⟩ := h
  exact Kd.S_types ho hb ht
theorem IsS99.own_neS {w0 W : World} {g : Nat} {f0 : Int} {f1 : Int} {f2 : Bool} {f3 : Bool} {α : Type} {d : Kd α} {e : Nat} {base : Nat} {ok : Nat → Prop} {v : Value} {xs : List α} (h : IsS99 w0 W g f0 f1 f2 f3) (ho : d.S e W base ok v xs) (ht : e ≠ 99) : some g ≠ v.ownBlock := by
  obtain ⟨hb, hg⟩ := h
  exact Kd.S_ne ho hb ht
theorem IsS99.lt {w0 W : World} {g : Nat} {f0 : Int} {f1 : Int} {f2 : Bool} {f3 : Bool} (h : IsS99 w0 W g f0 f1 f2 f3) : g < W.heap.size := by
  obtain ⟨hb, hg⟩ := h
  exact blk_lt hb
theorem IsS99.ge {w0 W : World} {g : Nat} {f0 : Int} {f1 : Int} {f2 : Bool} {f3 : Bool} (h : IsS99 w0 W g f0 f1 f2 f3) : w0.heap.size ≤ g := by
  obtain ⟨hb, hg⟩ := h
  exact hg
theorem IsS99.ne_blk {w0 W : World} {g : Nat} {f0 : Int} {f1 : Int} {f2 : Bool} {f3 : Bool} {a : Nat} {cs : Array Value} {t : TypeId} {fr : Nat × Nat} (h : IsS99 w0 W g f0 f1 f2 f3) (hb2 : W.heap[a]? = some (.cells cs t fr)) (ht : t ≠ 99) : g ≠ a := by
  obtain ⟨hb, hg⟩ := h
  rintro rfl
  rw [hb] at hb2
  injection hb2 with hb2
  injection hb2 with _ ht2
  exact ht ht2.symm
theorem IsS99.far {w0 W : World} {g : Nat} {f0 : Int} {f1 : Int} {f2 : Bool} {f3 : Bool} {p : Addr} (h : IsS99 w0 W g f0 f1 f2 f3) (hne : g ≠ p.block) (u : Value) : IsS99 w0 (W.setCell p u) g f0 f1 f2 f3 := by
  obtain ⟨hb, hg⟩ := h
  exact ⟨blk_far hb hne u, hg⟩
theorem cellS99_0 {W : World} {g : Nat} {f0 : Int} {f1 : Int} {f2 : Bool} {f3 : Bool} (h : W.heap[g]? = some (.cells #[.int .i64 f0, .int .i64 f1, .bool f2, .bool f3] 99 (0, 0))) : W.cell? ⟨g, 0, none⟩ = some (.int .i64 f0) := (blk_cell h 0).trans rfl
theorem IsS99.set_0 {w0 W : World} {g : Nat} {f0 : Int} {f1 : Int} {f2 : Bool} {f3 : Bool} (h : IsS99 w0 W g f0 f1 f2 f3) (x : Int) : IsS99 w0 (W.setCell ⟨g, 0, none⟩ (.int .i64 x)) g x f1 f2 f3 := by
  obtain ⟨hb, hg⟩ := h
  exact ⟨by simpa using blk_set hb 0 (.int .i64 x), hg⟩
theorem cellS99_1 {W : World} {g : Nat} {f0 : Int} {f1 : Int} {f2 : Bool} {f3 : Bool} (h : W.heap[g]? = some (.cells #[.int .i64 f0, .int .i64 f1, .bool f2, .bool f3] 99 (0, 0))) : W.cell? ⟨g, 1, none⟩ = some (.int .i64 f1) := (blk_cell h 1).trans rfl
theorem IsS99.set_1 {w0 W : World} {g : Nat} {f0 : Int} {f1 : Int} {f2 : Bool} {f3 : Bool} (h : IsS99 w0 W g f0 f1 f2 f3) (x : Int) : IsS99 w0 (W.setCell ⟨g, 1, none⟩ (.int .i64 x)) g f0 x f2 f3 := by
  obtain ⟨hb, hg⟩ := h
  exact ⟨by simpa using blk_set hb 1 (.int .i64 x), hg⟩
theorem cellS99_2 {W : World} {g : Nat} {f0 : Int} {f1 : Int} {f2 : Bool} {f3 : Bool} (h : W.heap[g]? = some (.cells #[.int .i64 f0, .int .i64 f1, .bool f2, .bool f3] 99 (0, 0))) : W.cell? ⟨g, 2, none⟩ = some (.bool f2) := (blk_cell h 2).trans rfl
theorem IsS99.set_2 {w0 W : World} {g : Nat} {f0 : Int} {f1 : Int} {f2 : Bool} {f3 : Bool} (h : IsS99 w0 W g f0 f1 f2 f3) (x : Bool) : IsS99 w0 (W.setCell ⟨g, 2, none⟩ (.bool x)) g f0 f1 x f3 := by
  obtain ⟨hb, hg⟩ := h
  exact ⟨by simpa using blk_set hb 2 (.bool x), hg⟩
theorem cellS99_3 {W : World} {g : Nat} {f0 : Int} {f1 : Int} {f2 : Bool} {f3 : Bool} (h : W.heap[g]? = some (.cells #[.int .i64 f0, .int .i64 f1, .bool f2, .bool f3] 99 (0, 0))) : W.cell? ⟨g, 3, none⟩ = some (.bool f3) := (blk_cell h 3).trans rfl
theorem IsS99.set_3 {w0 W : World} {g : Nat} {f0 : Int} {f1 : Int} {f2 : Bool} {f3 : Bool} (h : IsS99 w0 W g f0 f1 f2 f3) (x : Bool) : IsS99 w0 (W.setCell ⟨g, 3, none⟩ (.bool x)) g f0 f1 f2 x := by
  obtain ⟨hb, hg⟩ := h
  exact ⟨by simpa using blk_set hb 3 (.bool x), hg⟩
theorem IsS99.new (w0 W : World) (f0 : Int) (f1 : Int) (f2 : Bool) (f3 : Bool) (hB : Below w0.heap.size w0 W) : IsS99 w0 (W.alloc (.cells #[.int .i64 f0, .int .i64 f1, .bool f2, .bool f3] 99)) W.heap.size f0 f1 f2 f3 := ⟨by simpa using heap_alloc_new W _, hB.size⟩

/-! ### varint_New: function 72 -/
def varint_New.f  : Option (Int × Int × Bool × Bool) := some (0, 0, false, false)
set_option maxHeartbeats 8000000 in
set_option maxRecDepth 100000 in
theorem varint_New.calls  (r1 : Int) (r2 : Int) (r3 : Bool) (r4 : Bool) (w0 w : World) (hB : Below w0.heap.size w0 w) (h : varint_New.f  = some (r1, r2, r3, r4)) :
    Calls Try.prog 72 #[] w fun e w' => ∃ g_ : Nat, e = .returned (.pointer (some ⟨g_, 0, none⟩)) ∧ IsS99 w0 w' g_ r1 r2 r3 r4 ∧ Below w0.heap.size w0 w' ∧ Below w.heap.size w w' := by
  have hu99 := Try.underlying99
  have HBW := Aside0.mk (Below.refl w.heap.size w)
  have HW0 := Aside0.mk hB.size
  have HB := Aside0.mk hB
  clear hB
  have H : (some (0, 0, false, false)) = some (r1, r2, r3, r4) := h
  clear h
  simp only [Option.some.injEq, Prod.mk.injEq] at H
  obtain ⟨rfl, rfl, rfl, rfl⟩ := H
  go_enter Try.func72, Try.ntmps72
  go_wp2_with (first | ((with_reducible refine gate_dst (N := 2) rfl ?_); refine box_event ?hg (N := 2) ?hd (cs := #[.int .i64 0, .int .i64 0, .bool false, .bool false]) (t := 99) ?hr ?_; (case hd => rfl); (case hg => rfl); (case hr => first | (go_simp; done) | (go_simp; rfl)); intro gb274 hg w1 hbox hb; have n0_ := Aside0.mk (below_step HBW.out hb); have n1_ := Aside0.mk (below_step (by repeat (first | (with_reducible first | exact HB.out | apply below_alloc | apply pw_below_drewN | apply below_drew1) | exact HB.out)) hb); have n2_ := Aside0.mk (hbox); have n3_ := Aside0.mk ((by rw [hg]; exact (below_size (by repeat (first | (with_reducible first | exact HBW.out | apply below_alloc | apply pw_below_drewN | apply below_drew1) | exact HBW.out))) : w.heap.size ≤ gb274)); have n4_ := Aside0.mk ((Nat.le_trans HW0.out (by rw [hg]; exact (below_size (by repeat (first | (with_reducible first | exact HBW.out | apply below_alloc | apply pw_below_drewN | apply below_drew1) | exact HBW.out))) : w.heap.size ≤ gb274) : w0.heap.size ≤ gb274)); clear HBW; clear HB; have HBW := n0_; have HB := n1_; have BK274 := n2_; have GW274 := n3_; have GE274 := n4_; clear n0_ n1_ n2_ n3_ n4_; clear hb hbox hg))
  go_ret
  exact ⟨_, rfl, (show IsS99 w0 _ gb274 0 0 false false from ⟨by (with_reducible repeat (first | refine blk_drewN ?_ _ | refine blk_drew ?_ | refine blk_alloc ?_ _)); exact BK274.out, GE274.out⟩), by repeat (first | (with_reducible first | exact HB.out | apply below_alloc | apply pw_below_drewN | apply below_drew1 | refine below_set ?_ GE274.out) | exact HB.out), by repeat (first | (with_reducible first | exact HBW.out | apply below_alloc | apply pw_below_drewN | apply below_drew1 | refine below_set ?_ GW274.out) | exact HBW.out)⟩

end Go.Proofs.Ytngmipfobcaojaa.HA
end

-- YtngmipfobcaojaaHAhPush
section
/- (*varint.Reader).Push: one byte more. -/
-- FOR (*polyglot/varint.Reader).Push
namespace Go.Proofs.Ytngmipfobcaojaa.HA
open Go.RowKit Go.Proofs.YtngmipfobcaojaaW.PrintWords Go.Proofs.YtngmipfobcaojaaW.PrintLast Go.Proofs.YtngmipfobcaojaaW.PrintMore
set_option linter.unusedVariables false
set_option linter.unusedSimpArgs false
def pushN (n size b : Int) : Int := wrap64 (n + wrap64 (wrap64 (Go.bits .and .u8 b 127) * 2 ^ min (IntKind.u64.wrap (wrap64 (7 * size))).toNat 64))
def varint_Reader_Push.f (s0_0 : Int) (s0_1 : Int) (s0_2 : Bool) (s0_3 : Bool) (a1 : Int) : Option (Bool × Int × Int × Int × Bool × Bool) :=
  if (s0_2 || s0_3) = true then some (false, 13, s0_0, s0_1, s0_2, s0_3)
  else if ¬ Go.bits .and .u8 a1 128 = 0 then (if wrap64 (s0_1 + 1) = 4 then some (false, 5, pushN s0_0 s0_1 a1, wrap64 (s0_1 + 1), false, true) else some (false, 0, pushN s0_0 s0_1 a1, wrap64 (s0_1 + 1), false, false))
  else if a1 = 0 then (if wrap64 (s0_1 + 1) > 1 then some (false, 5, pushN s0_0 s0_1 a1, wrap64 (s0_1 + 1), false, true) else some (true, 0, pushN s0_0 s0_1 a1, wrap64 (s0_1 + 1), true, false))
  else some (true, 0, pushN s0_0 s0_1 a1, wrap64 (s0_1 + 1), true, false)
set_option maxHeartbeats 1000000 in
set_option maxRecDepth 100000 in
theorem varint_Reader_Push.calls (g : Nat) (s0_0 : Int) (s0_1 : Int) (s0_2 : Bool) (s0_3 : Bool) (a1 : Int) (r1 : Bool) (r2 : Int) (r3 : Int) (r4 : Int) (r5 : Bool) (r6 : Bool) (w0 w : World)
    (hI : IsS99 w0 w g s0_0 s0_1 s0_2 s0_3) (hB : Below w0.heap.size w0 w) (h : varint_Reader_Push.f s0_0 s0_1 s0_2 s0_3 a1 = some (r1, r2, r3, r4, r5, r6)) :
    Calls Try.prog 73 #[.pointer (some ⟨g, 0, none⟩), .int .u8 a1] w fun e w' => e = .returned (.tuple #[.bool r1, .int .i64 r2]) ∧ IsS99 w0 w' g r3 r4 r5 r6 ∧ Below w0.heap.size w0 w' ∧ KeepBut w w' g none := by
  have hc0 : w.cell? ⟨g, 0, none⟩ = some (.int .i64 s0_0) := (blk_cell hI.1 0).trans rfl
  have hc1 : w.cell? ⟨g, 1, none⟩ = some (.int .i64 s0_1) := (blk_cell hI.1 1).trans rfl
  have hc2 : w.cell? ⟨g, 2, none⟩ = some (.bool s0_2) := (blk_cell hI.1 2).trans rfl
  have hc3 : w.cell? ⟨g, 3, none⟩ = some (.bool s0_3) := (blk_cell hI.1 3).trans rfl
  have hf0 := blk_frozen hI.1 0
  have hf1 := blk_frozen hI.1 1
  have hf2 := blk_frozen hI.1 2
  have hf3 := blk_frozen hI.1 3
  have HI0 := Aside0.mk hI
  have HB := Aside0.mk hB
  have HK := Aside0.mk (KeepBut.refl w g none)
  clear hI hB
  unfold varint_Reader_Push.f at h
  generalize hN : pushN s0_0 s0_1 a1 = n' at h
  unfold pushN at hN
  by_cases h0 : (s0_2 || s0_3) = true
  · rw [if_pos h0] at h
    simp only [Option.some.injEq, Prod.mk.injEq] at h
    obtain ⟨rfl, rfl, rfl, rfl, rfl, rfl⟩ := h
    clear hN
    cases s0_2 with
    | true =>
      go_enter Try.func73, Try.ntmps73
      go_wp2
      (first | go_ret | go_ret2)
      exact ⟨rfl, HI0.out, HB.out, HK.out⟩
    | false =>
      obtain rfl : s0_3 = true := by simpa using h0
      go_enter Try.func73, Try.ntmps73
      go_wp2
      (first | go_ret | go_ret2)
      exact ⟨rfl, HI0.out, HB.out, HK.out⟩
  · rw [if_neg h0] at h
    obtain ⟨rfl, rfl⟩ : s0_2 = false ∧ s0_3 = false := by cases s0_2 <;> cases s0_3 <;> simp at h0 ⊢
    clear h0
    generalize hz : wrap64 (s0_1 + 1) = z at h
    by_cases h1 : Go.bits .and .u8 a1 128 = 0
    · rw [if_neg (fun q => q h1)] at h
      have t1 : (Go.bits .and .u8 a1 128 != 0) = false := by rw [h1]; rfl
      by_cases h2 : a1 = 0
      · rw [if_pos h2] at h
        have t2 : (a1 == 0) = true := beq_iff_eq.2 h2
        by_cases h3 : z > 1
        · rw [if_pos h3] at h
          have t3 : decide (1 < z) = true := decide_eq_true h3
          clear h1 h2 h3
          simp only [Option.some.injEq, Prod.mk.injEq] at h
          obtain ⟨rfl, rfl, rfl, rfl, rfl, rfl⟩ := h
          go_enter Try.func73, Try.ntmps73
          go_wp2
          go_region
          go_wp2
          (first | go_ret | go_ret2)
          exact ⟨by first | rfl | (simp [*]; done), by repeat (with_reducible first | exact HI0.out | apply IsS99.drewN | apply IsS99.drew | apply IsS99.set_0 | apply IsS99.set_1 | apply IsS99.set_2 | apply IsS99.set_3), by repeat (with_reducible first | exact HB.out | apply pw_below_drewN | apply below_drew1 | refine below_set ?_ (IsS99.ge HI0.out)), by repeat (with_reducible first | exact HK.out | apply KeepBut.set_ | apply keep_drewN | apply keep_drew)⟩
        · rw [if_neg h3] at h
          have t3 : decide (1 < z) = false := decide_eq_false h3
          clear h1 h2 h3
          simp only [Option.some.injEq, Prod.mk.injEq] at h
          obtain ⟨rfl, rfl, rfl, rfl, rfl, rfl⟩ := h
          go_enter Try.func73, Try.ntmps73
          go_wp2
          go_region
          go_wp2
          (first | go_ret | go_ret2)
          exact ⟨by first | rfl | (simp [*]; done), by repeat (with_reducible first | exact HI0.out | apply IsS99.drewN | apply IsS99.drew | apply IsS99.set_0 | apply IsS99.set_1 | apply IsS99.set_2 | apply IsS99.set_3), by repeat (with_reducible first | exact HB.out | apply pw_below_drewN | apply below_drew1 | refine below_set ?_ (IsS99.ge HI0.out)), by repeat (with_reducible first | exact HK.out | apply KeepBut.set_ | apply keep_drewN | apply keep_drew)⟩
      · rw [if_neg h2] at h
        have t2 : (a1 == 0) = false := beq_eq_false_iff_ne.2 h2
        clear h1 h2
        simp only [Option.some.injEq, Prod.mk.injEq] at h
        obtain ⟨rfl, rfl, rfl, rfl, rfl, rfl⟩ := h
        go_enter Try.func73, Try.ntmps73
        go_wp2
        go_region
        go_wp2
        (first | go_ret | go_ret2)
        exact ⟨by first | rfl | (simp [*]; done), by repeat (with_reducible first | exact HI0.out | apply IsS99.drewN | apply IsS99.drew | apply IsS99.set_0 | apply IsS99.set_1 | apply IsS99.set_2 | apply IsS99.set_3), by repeat (with_reducible first | exact HB.out | apply pw_below_drewN | apply below_drew1 | refine below_set ?_ (IsS99.ge HI0.out)), by repeat (with_reducible first | exact HK.out | apply KeepBut.set_ | apply keep_drewN | apply keep_drew)⟩
    · rw [if_pos h1] at h
      have t1 : (Go.bits .and .u8 a1 128 != 0) = true := bne_iff_ne.2 h1
      by_cases h2 : z = 4
      · rw [if_pos h2] at h
        have t2 : (z == 4) = true := beq_iff_eq.2 h2
        clear h1 h2
        simp only [Option.some.injEq, Prod.mk.injEq] at h
        obtain ⟨rfl, rfl, rfl, rfl, rfl, rfl⟩ := h
        go_enter Try.func73, Try.ntmps73
        go_wp2
        go_region
        go_wp2
        (first | go_ret | go_ret2)
        exact ⟨by first | rfl | (simp [*]; done), by repeat (with_reducible first | exact HI0.out | apply IsS99.drewN | apply IsS99.drew | apply IsS99.set_0 | apply IsS99.set_1 | apply IsS99.set_2 | apply IsS99.set_3), by repeat (with_reducible first | exact HB.out | apply pw_below_drewN | apply below_drew1 | refine below_set ?_ (IsS99.ge HI0.out)), by repeat (with_reducible first | exact HK.out | apply KeepBut.set_ | apply keep_drewN | apply keep_drew)⟩
      · rw [if_neg h2] at h
        have t2 : (z == 4) = false := beq_eq_false_iff_ne.2 h2
        clear h1 h2
        simp only [Option.some.injEq, Prod.mk.injEq] at h
        obtain ⟨rfl, rfl, rfl, rfl, rfl, rfl⟩ := h
        go_enter Try.func73, Try.ntmps73
        go_wp2
        go_region
        go_wp2
        (first | go_ret | go_ret2)
        exact ⟨by first | rfl | (simp [*]; done), by repeat (with_reducible first | exact HI0.out | apply IsS99.drewN | apply IsS99.drew | apply IsS99.set_0 | apply IsS99.set_1 | apply IsS99.set_2 | apply IsS99.set_3), by repeat (with_reducible first | exact HB.out | apply pw_below_drewN | apply below_drew1 | refine below_set ?_ (IsS99.ge HI0.out)), by repeat (with_reducible first | exact HK.out | apply KeepBut.set_ | apply keep_drewN | apply keep_drew)⟩
end Go.Proofs.Ytngmipfobcaojaa.HA
end

-- YtngmipfobcaojaaHA66
section
-- Written by hp.py (a driver over the kit's print). Not trusted: Lean checks it.
namespace Go.Proofs.Ytngmipfobcaojaa.HA
open Go.RowKit Go.Proofs.YtngmipfobcaojaaW.PrintWords Go.Proofs.YtngmipfobcaojaaW.PrintLast Go.Proofs.YtngmipfobcaojaaW.PrintMore
attribute [local go_sem] max2_int min2_int max_two min_two max_three min_three max_four min_four   -- for this text's walks alone
set_option linter.unusedVariables false
set_option linter.unusedSimpArgs false

/-! ### varint_Read: function 57 -/
def varint_Read.l0 : Nat → ByteArray → Int → Int → Int → Int → Bool → Bool → Option (Int × Int × Int)
  | 0, _, _, _, _, _, _, _ => none
  | k + 1, x0, x11, x12, x280000, x280001, x280002, x280003 => if x12 < x11 then (if 0 ≤ x12 then (if x12 < (x0.size : Int) then ((varint_Reader_Push.f x280000 x280001 x280002 x280003 (bt x0 x12)).bind fun bt280 => (if bt280.2.1 = 0 then (if bt280.1 = true then (some (bt280.2.2.1, bt280.2.2.2.1, 0)) else (varint_Read.l0 k x0 x11 (wrap64 (x12 + 1)) bt280.2.2.1 bt280.2.2.2.1 bt280.2.2.2.2.1 bt280.2.2.2.2.2)) else (some (0, 0, bt280.2.1)))) else (none)) else (none)) else (some (0, 0, 3))
def varint_Read.f (k : Nat) (a0 : ByteArray) : Option (Int × Int × Int) := (varint_New.f).bind fun bt275 => (varint_Read.l0 k a0 (a0.size : Int) 0 bt275.1 bt275.2.1 bt275.2.2.1 bt275.2.2.2)
theorem varint_Read.mono_l : ∀ k, (∀ y0 y1 y2 y3 y4 y5 y6, LeO (varint_Read.l0 k y0 y1 y2 y3 y4 y5 y6) (varint_Read.l0 (k + 1) y0 y1 y2 y3 y4 y5 y6))
  | 0 => fun _ _ _ _ _ _ _ r h => by simp [varint_Read.l0] at h
  | k + 1 => by
    have ih0 := varint_Read.mono_l k
    · intro y0 y1 y2 y3 y4 y5 y6
      unfold varint_Read.l0
      repeat' first
      | (with_reducible exact ih0 _ _ _ _ _ _ _)
      | (with_reducible exact LeO.refl _)
      | (with_reducible exact LeO.none _)
      | (with_reducible refine LeO.ite ?_ ?_)
      | (with_reducible refine LeO.bind ?_ (fun _ => ?_))
      | exact ih0 _ _ _ _ _ _ _
      | exact LeO.none _
      | refine LeO.ite ?_ ?_
      | refine LeO.bind ?_ (fun _ => ?_)
theorem varint_Read.mono : ∀ a0 k, LeO (varint_Read.f k a0) (varint_Read.f (k + 1) a0) := by
  intro a0 k
  have ih0 := varint_Read.mono_l k
  unfold varint_Read.f
  repeat' first
      | (with_reducible exact ih0 _ _ _ _ _ _ _)
      | (with_reducible exact LeO.refl _)
      | (with_reducible exact LeO.none _)
      | (with_reducible refine LeO.ite ?_ ?_)
      | (with_reducible refine LeO.bind ?_ (fun _ => ?_))
      | exact ih0 _ _ _ _ _ _ _
      | exact LeO.none _
      | refine LeO.ite ?_ ?_
      | refine LeO.bind ?_ (fun _ => ?_)
set_option maxHeartbeats 8000000 in
set_option maxRecDepth 100000 in
theorem varint_Read.calls (k : Nat) (a0 : ByteArray) (r1 : Int) (r2 : Int) (r3 : Int) (w : World) (h : varint_Read.f k a0 = some (r1, r2, r3)) :
    Calls Try.prog 57 #[.string a0] w fun e w' => e = .returned (.tuple #[.int .i64 r1, .int .i64 r2, .int .i64 r3]) ∧ Below w.heap.size w w' := by
  have HB := Aside0.mk (Below.refl w.heap.size w)
  have H : ((varint_New.f).bind fun bt275 => (varint_Read.l0 k a0 (a0.size : Int) 0 bt275.1 bt275.2.1 bt275.2.2.1 bt275.2.2.2)) = some (r1, r2, r3) := h
  clear h
  replace H := Option.bind_eq_some_iff.mp H
  obtain ⟨⟨t275, t276, t277, t278⟩, A20, H⟩ := H
  replace H : (varint_Read.l0 k a0 (a0.size : Int) 0 t275 t276 t277 t278) = some (r1, r2, r3) := H
  have A2 := Aside0.mk A20
  clear A20
  have H' := Aside0.mk H
  clear H
  go_enter Try.func57, Try.ntmps57
  go_wp2_with (first | (go_at_call 72; (with_reducible refine (varint_New.calls  t275 t276 t277 t278 w _ ?side1 A2.out).mono ?_); (case side1 => repeat (first | (with_reducible first | exact HB.out | apply below_alloc | apply pw_below_drewN | apply below_drew1) | exact HB.out)); rintro e w3 ⟨g279, rfl, hi, hb, hb2⟩; have n0_ := Aside0.mk (hb); have n1_ := Aside0.mk (hi); clear HB; have HB := n0_; have HI279 := n1_; clear n0_ n1_; (try clear hb); (try clear hb2); (try clear hk); (try clear hi)))
  repeat (go_quiet (first | (go_at_call 72; (with_reducible refine (varint_New.calls  t275 t276 t277 t278 w _ ?side1 A2.out).mono ?_); (case side1 => repeat (first | (with_reducible first | exact HB.out | apply below_alloc | apply pw_below_drewN | apply below_drew1) | exact HB.out)); rintro e w3 ⟨g279, rfl, hi, hb, hb2⟩; have n0_ := Aside0.mk (hb); have n1_ := Aside0.mk (hi); clear HB; have HB := n0_; have HI279 := n1_; clear n0_ n1_; (try clear hb); (try clear hb2); (try clear hk); (try clear hi))); try go_wp2_with (first | (go_at_call 72; (with_reducible refine (varint_New.calls  t275 t276 t277 t278 w _ ?side1 A2.out).mono ?_); (case side1 => repeat (first | (with_reducible first | exact HB.out | apply below_alloc | apply pw_below_drewN | apply below_drew1) | exact HB.out)); rintro e w3 ⟨g279, rfl, hi, hb, hb2⟩; have n0_ := Aside0.mk (hb); have n1_ := Aside0.mk (hi); clear HB; have HB := n0_; have HI279 := n1_; clear n0_ n1_; (try clear hb); (try clear hb2); (try clear hk); (try clear hi))))
  go_loopg [12] k (fun kq v12 w' => ∃ (x12_1 : Int) (x280000_1 : Int) (x280001_1 : Int) (x280002_1 : Bool) (x280003_1 : Bool), v12 = .int .i64 x12_1 ∧ Aside0 (varint_Read.l0 kq a0 (a0.size : Int) x12_1 x280000_1 x280001_1 x280002_1 x280003_1 = some (r1, r2, r3)) ∧ Aside0 (kq ≤ k) ∧ Aside0 (IsS99 w w' g279 x280000_1 x280001_1 x280002_1 x280003_1) ∧ Aside0 (Below w.heap.size w w'))
  case atStart => exact ⟨(0), (t275), (t276), (t277), (t278), (by first | rfl | (simp; done) | (simp [*]; done) | (simp; exact bne_nil_isEmpty _) | exact bne_nil_isEmpty _ | (simp; exact (bne_nil_isEmpty _).symm) | (simp; exact bne_nil_isEmpty' _)), H', ⟨Nat.le_refl _⟩, ⟨by repeat (first | (with_reducible first | exact HI279.out | apply IsS99.alloc | apply IsS99.drewN | apply IsS99.drew | apply IsS99.set_0 | apply IsS99.set_1 | apply IsS99.set_2 | apply IsS99.set_3) | exact HI279.out)⟩, ⟨by repeat (first | (with_reducible first | exact HB.out | apply below_alloc | apply pw_below_drewN | apply below_drew1 | refine below_set ?_ (IsS99.ge HI279.out)) | exact HB.out)⟩⟩
  case round =>
    clear H'
    try clear p2
    obtain ⟨x12_1, x280000_1, x280001_1, x280002_1, x280003_1, rfl, HA, HK1, HI279, HB⟩ := hrel
    cases gk with
    | zero => exact absurd HA.out (by simp [varint_Read.l0])
    | succ k1 =>
      have H := HA.out
      clear HA
      simp only [varint_Read.l0] at H
      by_cases c4 : x12_1 < (a0.size : Int)
      · rw [if_pos c4] at H
        have c4b0 : decide (x12_1 < (a0.size : Int)) = true := decide_eq_true c4
        clear c4
        by_cases c5 : 0 ≤ x12_1
        · rw [if_pos c5] at H
          have c5b0 : decide (0 ≤ x12_1) = true := decide_eq_true c5
          clear c5
          by_cases c6 : x12_1 < (a0.size : Int)
          · rw [if_pos c6] at H
            have c6b0 : decide (x12_1 < (a0.size : Int)) = true := decide_eq_true c6
            clear c6
            replace H := Option.bind_eq_some_iff.mp H
            obtain ⟨⟨t280, t281, t282, t283, t284, t285⟩, A80, H⟩ := H
            replace H : (if t281 = 0 then (if t280 = true then (some (t282, t283, 0)) else (varint_Read.l0 k1 a0 (a0.size : Int) (wrap64 (x12_1 + 1)) t282 t283 t284 t285)) else (some (0, 0, t281))) = some (r1, r2, r3) := H
            have A8 := Aside0.mk A80
            clear A80
            by_cases c9 : t281 = 0
            · rw [if_pos c9] at H
              have c9b0 : (t281 == 0) = true := beq_iff_eq.mpr c9
              have c9b1 : (t281 != 0) = false := bne_eq_false_iff_eq.mpr c9
              clear c9
              by_cases c10 : t280 = true
              · subst c10
                have H1 : (some (t282, t283, 0)) = some (r1, r2, r3) := by rw [if_pos rfl] at H; exact H
                clear H
                have H := H1
                clear H1
                simp only [Option.some.injEq, Prod.mk.injEq] at H
                obtain ⟨rfl, rfl, rfl⟩ := H
                have p7 : 0 ≤ (x12_1 : Int) := of_decide_eq_true (by first | (with_reducible assumption) | assumption)
                have q7 : x12_1 < (a0.size : Int) := of_decide_eq_true (by first | (with_reducible assumption) | assumption)
                have hx7 := bt_at a0 x12_1
                replace p7 := eq_true p7
                replace q7 := eq_true q7
                go_wp2_with (first | (go_at_call 73; (with_reducible refine (varint_Reader_Push.calls g279 x280000_1 x280001_1 x280002_1 x280003_1 (bt a0 x12_1) true t281 t282 t283 t284 t285 w _ ?side1 ?side2 A8.out).mono ?_); (case side1 => repeat (first | (with_reducible first | exact HI279.out | apply IsS99.alloc | apply IsS99.drewN | apply IsS99.drew | apply IsS99.set_0 | apply IsS99.set_1 | apply IsS99.set_2 | apply IsS99.set_3) | exact HI279.out)); (case side2 => repeat (first | (with_reducible first | exact HB.out | apply below_alloc | apply pw_below_drewN | apply below_drew1 | refine below_set ?_ (IsS99.ge HI279.out)) | exact HB.out)); rintro e w11 ⟨rfl, hi, hb, hk⟩; have n0_ := Aside0.mk (hb); have n1_ := Aside0.mk (hi); clear HB; clear HI279; have HB := n0_; have HI279 := n1_; clear n0_ n1_; (try clear hb); (try clear hb2); (try clear hk); (try clear hi); obtain ⟨HGz12, hgz12⟩ := HI279.out; have hcz12_0 := cellS99_0 HGz12; have hcz12_1 := cellS99_1 HGz12; have hcz12_2 := cellS99_2 HGz12; have hcz12_3 := cellS99_3 HGz12; have hfz12_0 := blk_frozen HGz12 0; have hfz12_1 := blk_frozen HGz12 1; have hfz12_2 := blk_frozen HGz12 2; have hfz12_3 := blk_frozen HGz12 3; clear HGz12 hgz12))
                repeat (go_quiet (first | (go_at_call 73; (with_reducible refine (varint_Reader_Push.calls g279 x280000_1 x280001_1 x280002_1 x280003_1 (bt a0 x12_1) true t281 t282 t283 t284 t285 w _ ?side1 ?side2 A8.out).mono ?_); (case side1 => repeat (first | (with_reducible first | exact HI279.out | apply IsS99.alloc | apply IsS99.drewN | apply IsS99.drew | apply IsS99.set_0 | apply IsS99.set_1 | apply IsS99.set_2 | apply IsS99.set_3) | exact HI279.out)); (case side2 => repeat (first | (with_reducible first | exact HB.out | apply below_alloc | apply pw_below_drewN | apply below_drew1 | refine below_set ?_ (IsS99.ge HI279.out)) | exact HB.out)); rintro e w11 ⟨rfl, hi, hb, hk⟩; have n0_ := Aside0.mk (hb); have n1_ := Aside0.mk (hi); clear HB; clear HI279; have HB := n0_; have HI279 := n1_; clear n0_ n1_; (try clear hb); (try clear hb2); (try clear hk); (try clear hi); obtain ⟨HGz12, hgz12⟩ := HI279.out; have hcz12_0 := cellS99_0 HGz12; have hcz12_1 := cellS99_1 HGz12; have hcz12_2 := cellS99_2 HGz12; have hcz12_3 := cellS99_3 HGz12; have hfz12_0 := blk_frozen HGz12 0; have hfz12_1 := blk_frozen HGz12 1; have hfz12_2 := blk_frozen HGz12 2; have hfz12_3 := blk_frozen HGz12 3; clear HGz12 hgz12)); try go_wp2_with (first | (go_at_call 73; (with_reducible refine (varint_Reader_Push.calls g279 x280000_1 x280001_1 x280002_1 x280003_1 (bt a0 x12_1) true t281 t282 t283 t284 t285 w _ ?side1 ?side2 A8.out).mono ?_); (case side1 => repeat (first | (with_reducible first | exact HI279.out | apply IsS99.alloc | apply IsS99.drewN | apply IsS99.drew | apply IsS99.set_0 | apply IsS99.set_1 | apply IsS99.set_2 | apply IsS99.set_3) | exact HI279.out)); (case side2 => repeat (first | (with_reducible first | exact HB.out | apply below_alloc | apply pw_below_drewN | apply below_drew1 | refine below_set ?_ (IsS99.ge HI279.out)) | exact HB.out)); rintro e w11 ⟨rfl, hi, hb, hk⟩; have n0_ := Aside0.mk (hb); have n1_ := Aside0.mk (hi); clear HB; clear HI279; have HB := n0_; have HI279 := n1_; clear n0_ n1_; (try clear hb); (try clear hb2); (try clear hk); (try clear hi); obtain ⟨HGz12, hgz12⟩ := HI279.out; have hcz12_0 := cellS99_0 HGz12; have hcz12_1 := cellS99_1 HGz12; have hcz12_2 := cellS99_2 HGz12; have hcz12_3 := cellS99_3 HGz12; have hfz12_0 := blk_frozen HGz12 0; have hfz12_1 := blk_frozen HGz12 1; have hfz12_2 := blk_frozen HGz12 2; have hfz12_3 := blk_frozen HGz12 3; clear HGz12 hgz12)))
                go_ret3
                exact ⟨by first | rfl | (simp [errW_none, errW_some] <;> rfl) | (simp [*, errW_none, errW_some] <;> rfl), by repeat (first | (with_reducible first | exact HB.out | apply below_alloc | apply pw_below_drewN | apply below_drew1 | refine below_set ?_ (IsS99.ge HI279.out)) | exact HB.out)⟩
              · replace c10 := Bool.eq_false_iff.mpr c10
                subst c10
                have H1 : (varint_Read.l0 k1 a0 (a0.size : Int) (wrap64 (x12_1 + 1)) t282 t283 t284 t285) = some (r1, r2, r3) := by rw [if_neg (show ¬ (false = true) by decide)] at H; exact H
                clear H
                have H := H1
                clear H1
                have H' := Aside0.mk H
                clear H
                have p7 : 0 ≤ (x12_1 : Int) := of_decide_eq_true (by first | (with_reducible assumption) | assumption)
                have q7 : x12_1 < (a0.size : Int) := of_decide_eq_true (by first | (with_reducible assumption) | assumption)
                have hx7 := bt_at a0 x12_1
                replace p7 := eq_true p7
                replace q7 := eq_true q7
                go_wp2_with (first | (go_at_call 73; (with_reducible refine (varint_Reader_Push.calls g279 x280000_1 x280001_1 x280002_1 x280003_1 (bt a0 x12_1) false t281 t282 t283 t284 t285 w _ ?side1 ?side2 A8.out).mono ?_); (case side1 => repeat (first | (with_reducible first | exact HI279.out | apply IsS99.alloc | apply IsS99.drewN | apply IsS99.drew | apply IsS99.set_0 | apply IsS99.set_1 | apply IsS99.set_2 | apply IsS99.set_3) | exact HI279.out)); (case side2 => repeat (first | (with_reducible first | exact HB.out | apply below_alloc | apply pw_below_drewN | apply below_drew1 | refine below_set ?_ (IsS99.ge HI279.out)) | exact HB.out)); rintro e w13 ⟨rfl, hi, hb, hk⟩; have n0_ := Aside0.mk (hb); have n1_ := Aside0.mk (hi); clear HB; clear HI279; have HB := n0_; have HI279 := n1_; clear n0_ n1_; (try clear hb); (try clear hb2); (try clear hk); (try clear hi)))
                repeat (go_quiet (first | (go_at_call 73; (with_reducible refine (varint_Reader_Push.calls g279 x280000_1 x280001_1 x280002_1 x280003_1 (bt a0 x12_1) false t281 t282 t283 t284 t285 w _ ?side1 ?side2 A8.out).mono ?_); (case side1 => repeat (first | (with_reducible first | exact HI279.out | apply IsS99.alloc | apply IsS99.drewN | apply IsS99.drew | apply IsS99.set_0 | apply IsS99.set_1 | apply IsS99.set_2 | apply IsS99.set_3) | exact HI279.out)); (case side2 => repeat (first | (with_reducible first | exact HB.out | apply below_alloc | apply pw_below_drewN | apply below_drew1 | refine below_set ?_ (IsS99.ge HI279.out)) | exact HB.out)); rintro e w13 ⟨rfl, hi, hb, hk⟩; have n0_ := Aside0.mk (hb); have n1_ := Aside0.mk (hi); clear HB; clear HI279; have HB := n0_; have HI279 := n1_; clear n0_ n1_; (try clear hb); (try clear hb2); (try clear hk); (try clear hi))); try go_wp2_with (first | (go_at_call 73; (with_reducible refine (varint_Reader_Push.calls g279 x280000_1 x280001_1 x280002_1 x280003_1 (bt a0 x12_1) false t281 t282 t283 t284 t285 w _ ?side1 ?side2 A8.out).mono ?_); (case side1 => repeat (first | (with_reducible first | exact HI279.out | apply IsS99.alloc | apply IsS99.drewN | apply IsS99.drew | apply IsS99.set_0 | apply IsS99.set_1 | apply IsS99.set_2 | apply IsS99.set_3) | exact HI279.out)); (case side2 => repeat (first | (with_reducible first | exact HB.out | apply below_alloc | apply pw_below_drewN | apply below_drew1 | refine below_set ?_ (IsS99.ge HI279.out)) | exact HB.out)); rintro e w13 ⟨rfl, hi, hb, hk⟩; have n0_ := Aside0.mk (hb); have n1_ := Aside0.mk (hi); clear HB; clear HI279; have HB := n0_; have HI279 := n1_; clear n0_ n1_; (try clear hb); (try clear hb2); (try clear hk); (try clear hi))))
                go_roundg k1
                case measure => have := HK1.out; omega
                case rel => exact ⟨(wrap64 (x12_1 + 1)), (t282), (t283), (t284), (t285), (by first | rfl | (simp; done) | (simp [*]; done) | (simp; exact bne_nil_isEmpty _) | exact bne_nil_isEmpty _ | (simp; exact (bne_nil_isEmpty _).symm) | (simp; exact bne_nil_isEmpty' _)), H', ⟨by have := HK1.out; omega⟩, ⟨by repeat (first | (with_reducible first | exact HI279.out | apply IsS99.alloc | apply IsS99.drewN | apply IsS99.drew | apply IsS99.set_0 | apply IsS99.set_1 | apply IsS99.set_2 | apply IsS99.set_3) | exact HI279.out)⟩, ⟨by repeat (first | (with_reducible first | exact HB.out | apply below_alloc | apply pw_below_drewN | apply below_drew1 | refine below_set ?_ (IsS99.ge HI279.out)) | exact HB.out)⟩⟩
            · rw [if_neg c9] at H
              have c9b0 : (t281 == 0) = false := beq_eq_false_iff_ne.mpr c9
              have c9b1 : (t281 != 0) = true := bne_iff_ne.mpr c9
              simp only [Option.some.injEq, Prod.mk.injEq] at H
              obtain ⟨rfl, rfl, rfl⟩ := H
              have p7 : 0 ≤ (x12_1 : Int) := of_decide_eq_true (by first | (with_reducible assumption) | assumption)
              have q7 : x12_1 < (a0.size : Int) := of_decide_eq_true (by first | (with_reducible assumption) | assumption)
              have hx7 := bt_at a0 x12_1
              replace p7 := eq_true p7
              replace q7 := eq_true q7
              go_wp2_with (first | (go_at_call 73; (with_reducible refine (varint_Reader_Push.calls g279 x280000_1 x280001_1 x280002_1 x280003_1 (bt a0 x12_1) t280 t281 t282 t283 t284 t285 w _ ?side1 ?side2 A8.out).mono ?_); (case side1 => repeat (first | (with_reducible first | exact HI279.out | apply IsS99.alloc | apply IsS99.drewN | apply IsS99.drew | apply IsS99.set_0 | apply IsS99.set_1 | apply IsS99.set_2 | apply IsS99.set_3) | exact HI279.out)); (case side2 => repeat (first | (with_reducible first | exact HB.out | apply below_alloc | apply pw_below_drewN | apply below_drew1 | refine below_set ?_ (IsS99.ge HI279.out)) | exact HB.out)); rintro e w14 ⟨rfl, hi, hb, hk⟩; have n0_ := Aside0.mk (hb); have n1_ := Aside0.mk (hi); clear HB; clear HI279; have HB := n0_; have HI279 := n1_; clear n0_ n1_; (try clear hb); (try clear hb2); (try clear hk); (try clear hi)))
              repeat (go_quiet (first | (go_at_call 73; (with_reducible refine (varint_Reader_Push.calls g279 x280000_1 x280001_1 x280002_1 x280003_1 (bt a0 x12_1) t280 t281 t282 t283 t284 t285 w _ ?side1 ?side2 A8.out).mono ?_); (case side1 => repeat (first | (with_reducible first | exact HI279.out | apply IsS99.alloc | apply IsS99.drewN | apply IsS99.drew | apply IsS99.set_0 | apply IsS99.set_1 | apply IsS99.set_2 | apply IsS99.set_3) | exact HI279.out)); (case side2 => repeat (first | (with_reducible first | exact HB.out | apply below_alloc | apply pw_below_drewN | apply below_drew1 | refine below_set ?_ (IsS99.ge HI279.out)) | exact HB.out)); rintro e w14 ⟨rfl, hi, hb, hk⟩; have n0_ := Aside0.mk (hb); have n1_ := Aside0.mk (hi); clear HB; clear HI279; have HB := n0_; have HI279 := n1_; clear n0_ n1_; (try clear hb); (try clear hb2); (try clear hk); (try clear hi))); try go_wp2_with (first | (go_at_call 73; (with_reducible refine (varint_Reader_Push.calls g279 x280000_1 x280001_1 x280002_1 x280003_1 (bt a0 x12_1) t280 t281 t282 t283 t284 t285 w _ ?side1 ?side2 A8.out).mono ?_); (case side1 => repeat (first | (with_reducible first | exact HI279.out | apply IsS99.alloc | apply IsS99.drewN | apply IsS99.drew | apply IsS99.set_0 | apply IsS99.set_1 | apply IsS99.set_2 | apply IsS99.set_3) | exact HI279.out)); (case side2 => repeat (first | (with_reducible first | exact HB.out | apply below_alloc | apply pw_below_drewN | apply below_drew1 | refine below_set ?_ (IsS99.ge HI279.out)) | exact HB.out)); rintro e w14 ⟨rfl, hi, hb, hk⟩; have n0_ := Aside0.mk (hb); have n1_ := Aside0.mk (hi); clear HB; clear HI279; have HB := n0_; have HI279 := n1_; clear n0_ n1_; (try clear hb); (try clear hb2); (try clear hk); (try clear hi))))
              go_ret3
              exact ⟨by first | rfl | (simp [errW_none, errW_some] <;> rfl) | (simp [*, errW_none, errW_some] <;> rfl), by repeat (first | (with_reducible first | exact HB.out | apply below_alloc | apply pw_below_drewN | apply below_drew1 | refine below_set ?_ (IsS99.ge HI279.out)) | exact HB.out)⟩
          · rw [if_neg c6] at H
            exact absurd H (by simp)
        · rw [if_neg c5] at H
          exact absurd H (by simp)
      · rw [if_neg c4] at H
        have c4b0 : decide (x12_1 < (a0.size : Int)) = false := decide_eq_false c4
        clear c4
        simp only [Option.some.injEq, Prod.mk.injEq] at H
        obtain ⟨rfl, rfl, rfl⟩ := H
        go_wp2
        repeat (go_quiet (fail); try go_wp2)
        go_ret3
        exact ⟨by first | rfl | (simp [errW_none, errW_some] <;> rfl) | (simp [*, errW_none, errW_some] <;> rfl), by repeat (first | (with_reducible first | exact HB.out | apply below_alloc | apply pw_below_drewN | apply below_drew1 | refine below_set ?_ (IsS99.ge HI279.out)) | exact HB.out)⟩

end Go.Proofs.Ytngmipfobcaojaa.HA
end

-- YtngmipfobcaojaaHA68
section
-- Written by hp.py (a driver over the kit's print). Not trusted: Lean checks it.
namespace Go.Proofs.Ytngmipfobcaojaa.HA
open Go.RowKit Go.Proofs.YtngmipfobcaojaaW.PrintWords Go.Proofs.YtngmipfobcaojaaW.PrintLast Go.Proofs.YtngmipfobcaojaaW.PrintMore
attribute [local go_sem] max2_int min2_int max_two min_two max_three min_three max_four min_four   -- for this text's walks alone
set_option linter.unusedVariables false
set_option linter.unusedSimpArgs false

/-- A state of type 121 at block g of W; what its slices lead to came in by w0. -/
def IsS121 (w0 W : World) (g : Nat) (f0 : ByteArray) (f1 : Int) (f2 : Int) : Prop := W.heap[g]? = some (.cells #[.string f0, .int .i64 f1, .int .i64 f2] 121 (0, 0)) ∧ w0.heap.size ≤ g
theorem IsS121.grown {w0 W : World} {g : Nat} {f0 : ByteArray} {f1 : Int} {f2 : Int} {W1 : World} {row : Option Nat} (h : IsS121 w0 W g f0 f1 f2) (hw : W.grownBy W1 row) (hne : some g ≠ row) : IsS121 w0 W1 g f0 f1 f2 := by
  obtain ⟨hb, hg⟩ := h
  exact ⟨blk_grown hb hw hne, hg⟩
theorem IsS121.own_neN {w0 W : World} {g : Nat} {f0 : ByteArray} {f1 : Int} {f2 : Int} {α : Type} {d : Kd α} {e : Nat} {base : Nat} {ok : Nat → Prop} {v : Value} {xs : List α} (h : IsS121 w0 W g f0 f1 f2) (ho : Kd.N d e W base ok v xs) (ht : e ≠ 121) : some g ≠ v.ownBlock := by
  obtain ⟨hb, hg⟩ := h
  exact Kd.N_ne ho hb ht
theorem IsS121.fresh {w0 W : World} {g : Nat} {f0 : ByteArray} {f1 : Int} {f2 : Int} (h : IsS121 w0 W g f0 f1 f2) : ∀ k, W.heap.size ≤ k → k ≠ g := by
  obtain ⟨hb, hg⟩ := h
  exact Kd.freshB hb
theorem IsS121.kept {w0 W : World} {g : Nat} {f0 : ByteArray} {f1 : Int} {f2 : Int} {W1 : World} {S : Nat → Prop} (h : IsS121 w0 W g f0 f1 f2) (hk : Kept W W1 S) (hne : ¬ S g) : IsS121 w0 W1 g f0 f1 f2 := by
  obtain ⟨hb, hg⟩ := h
  exact ⟨blk_kept hb hk hne, hg⟩
theorem IsS121.below {w0 W : World} {g : Nat} {f0 : ByteArray} {f1 : Int} {f2 : Int} {W1 : World} (h : IsS121 w0 W g f0 f1 f2) (hw : Below W.heap.size W W1) : IsS121 w0 W1 g f0 f1 f2 := h.grown (grown_of_below hw none) (by simp)
theorem IsS121.alloc {w0 W : World} {g : Nat} {f0 : ByteArray} {f1 : Int} {f2 : Int} (h : IsS121 w0 W g f0 f1 f2) (o : Obj) : IsS121 w0 (W.alloc o) g f0 f1 f2 := h.below (below_alloc (Below.refl _ _) o)
theorem IsS121.drewN {w0 W : World} {g : Nat} {f0 : ByteArray} {f1 : Int} {f2 : Int} (h : IsS121 w0 W g f0 f1 f2) (m : Nat) : IsS121 w0 (W.drewN m) g f0 f1 f2 := h
theorem IsS121.drew {w0 W : World} {g : Nat} {f0 : ByteArray} {f1 : Int} {f2 : Int} (h : IsS121 w0 W g f0 f1 f2) : IsS121 w0 W.drew g f0 f1 f2 := h
theorem IsS121.at_ {w0 W : World} {g : Nat} {f0 : ByteArray} {f1 : Int} {f2 : Int} {w' : World} {m : Nat} (hq : W.drewN m = w') (h : IsS121 w0 W g f0 f1 f2) : IsS121 w0 w' g f0 f1 f2 := by subst hq; exact IsS121.drewN h m
theorem IsS121.apart {w0 W : World} {g : Nat} {f0 : ByteArray} {f1 : Int} {f2 : Int} {α : Type} {d : Kd α} {e : Nat} {base : Nat} {ok : Nat → Prop} {v : Value} {xs : List α} (h : IsS121 w0 W g f0 f1 f2) (ho : d.R e W base ok v xs) (ht : ∀ q, q ∈ e :: d.E → q ≠ 121) : d.R e W base (fun k => ok k ∧ k ≠ g) v xs := by
  obtain ⟨hb, hg⟩ := h
  exact Kd.R_types ho hb ht
theorem IsS121.own_ne {w0 W : World} {g : Nat} {f0 : ByteArray} {f1 : Int} {f2 : Int} {α : Type} {d : Kd α} {e : Nat} {base : Nat} {ok : Nat → Prop} {v : Value} {xs : List α} (h : IsS121 w0 W g f0 f1 f2) (ho : d.R e W base ok v xs) (ht : e ≠ 121) : some g ≠ v.ownBlock := by
  obtain ⟨hb, hg⟩ := h
  exact Kd.R_ne ho hb ht
theorem IsS121.apartQ {w0 W : World} {g : Nat} {f0 : ByteArray} {f1 : Int} {f2 : Int} {α : Type} {d : Kd α} {e : Nat} {base : Nat} {ok : Nat → Prop} {v : Value} {xs : List α} (h : IsS121 w0 W g f0 f1 f2) (ho : d.Q e W base ok v xs) (ht : ∀ q, q ∈ e :: d.E → q ≠ 121) : d.Q e W base (fun k => ok k ∧ k ≠ g) v xs := by
  obtain ⟨hb, hg⟩ := h
  exact Kd.Q_types ho hb ht
theorem IsS121.own_neQ {w0 W : World} {g : Nat} {f0 : ByteArray} {f1 : Int} {f2 : Int} {α : Type} {d : Kd α} {e : Nat} {base : Nat} {ok : Nat → Prop} {v : Value} {xs : List α} (h : IsS121 w0 W g f0 f1 f2) (ho : d.Q e W base ok v xs) (ht : e ≠ 121) : some g ≠ v.ownBlock := by
  obtain ⟨hb, hg⟩ := h
  exact Kd.Q_ne ho hb ht
theorem IsS121.apartS {w0 W : World} {g : Nat} {f0 : ByteArray} {f1 : Int} {f2 : Int} {α : Type} {d : Kd α} {e : Nat} {base : Nat} {ok : Nat → Prop} {v : Value} {xs : List α} (h : IsS121 w0 W g f0 f1 f2) (ho : d.S e W base ok v xs) (ht : ∀ q, q ∈ e :: d.E → q ≠ 121) : d.S e W base (fun k => ok k ∧ k ≠ g) v xs := by
  obtain ⟨hb, hg⟩ := h
  exact Kd.S_types ho hb ht
theorem IsS121.own_neS {w0 W : World} {g : Nat} {f0 : ByteArray} {f1 : Int} {f2 : Int} {α : Type} {d : Kd α} {e : Nat} {base : Nat} {ok : Nat → Prop} {v : Value} {xs : List α} (h : IsS121 w0 W g f0 f1 f2) (ho : d.S e W base ok v xs) (ht : e ≠ 121) : some g ≠ v.ownBlock := by
  obtain ⟨hb, hg⟩ := h
  exact Kd.S_ne ho hb ht
theorem IsS121.lt {w0 W : World} {g : Nat} {f0 : ByteArray} {f1 : Int} {f2 : Int} (h : IsS121 w0 W g f0 f1 f2) : g < W.heap.size := by
  obtain ⟨hb, hg⟩ := h
  exact blk_lt hb
theorem IsS121.ge {w0 W : World} {g : Nat} {f0 : ByteArray} {f1 : Int} {f2 : Int} (h : IsS121 w0 W g f0 f1 f2) : w0.heap.size ≤ g := by
  obtain ⟨hb, hg⟩ := h
  exact hg
theorem IsS121.ne_blk {w0 W : World} {g : Nat} {f0 : ByteArray} {f1 : Int} {f2 : Int} {a : Nat} {cs : Array Value} {t : TypeId} {fr : Nat × Nat} (h : IsS121 w0 W g f0 f1 f2) (hb2 : W.heap[a]? = some (.cells cs t fr)) (ht : t ≠ 121) : g ≠ a := by
  obtain ⟨hb, hg⟩ := h
  rintro rfl
  rw [hb] at hb2
  injection hb2 with hb2
  injection hb2 with _ ht2
  exact ht ht2.symm
theorem IsS121.far {w0 W : World} {g : Nat} {f0 : ByteArray} {f1 : Int} {f2 : Int} {p : Addr} (h : IsS121 w0 W g f0 f1 f2) (hne : g ≠ p.block) (u : Value) : IsS121 w0 (W.setCell p u) g f0 f1 f2 := by
  obtain ⟨hb, hg⟩ := h
  exact ⟨blk_far hb hne u, hg⟩
theorem cellS121_0 {W : World} {g : Nat} {f0 : ByteArray} {f1 : Int} {f2 : Int} (h : W.heap[g]? = some (.cells #[.string f0, .int .i64 f1, .int .i64 f2] 121 (0, 0))) : W.cell? ⟨g, 0, none⟩ = some (.string f0) := (blk_cell h 0).trans rfl
theorem IsS121.set_0 {w0 W : World} {g : Nat} {f0 : ByteArray} {f1 : Int} {f2 : Int} (h : IsS121 w0 W g f0 f1 f2) (x : ByteArray) : IsS121 w0 (W.setCell ⟨g, 0, none⟩ (.string x)) g x f1 f2 := by
  obtain ⟨hb, hg⟩ := h
  exact ⟨by simpa using blk_set hb 0 (.string x), hg⟩
theorem cellS121_1 {W : World} {g : Nat} {f0 : ByteArray} {f1 : Int} {f2 : Int} (h : W.heap[g]? = some (.cells #[.string f0, .int .i64 f1, .int .i64 f2] 121 (0, 0))) : W.cell? ⟨g, 1, none⟩ = some (.int .i64 f1) := (blk_cell h 1).trans rfl
theorem IsS121.set_1 {w0 W : World} {g : Nat} {f0 : ByteArray} {f1 : Int} {f2 : Int} (h : IsS121 w0 W g f0 f1 f2) (x : Int) : IsS121 w0 (W.setCell ⟨g, 1, none⟩ (.int .i64 x)) g f0 x f2 := by
  obtain ⟨hb, hg⟩ := h
  exact ⟨by simpa using blk_set hb 1 (.int .i64 x), hg⟩
theorem cellS121_2 {W : World} {g : Nat} {f0 : ByteArray} {f1 : Int} {f2 : Int} (h : W.heap[g]? = some (.cells #[.string f0, .int .i64 f1, .int .i64 f2] 121 (0, 0))) : W.cell? ⟨g, 2, none⟩ = some (.int .i64 f2) := (blk_cell h 2).trans rfl
theorem IsS121.set_2 {w0 W : World} {g : Nat} {f0 : ByteArray} {f1 : Int} {f2 : Int} (h : IsS121 w0 W g f0 f1 f2) (x : Int) : IsS121 w0 (W.setCell ⟨g, 2, none⟩ (.int .i64 x)) g f0 f1 x := by
  obtain ⟨hb, hg⟩ := h
  exact ⟨by simpa using blk_set hb 2 (.int .i64 x), hg⟩
theorem IsS121.new (w0 W : World) (f0 : ByteArray) (f1 : Int) (f2 : Int) (hB : Below w0.heap.size w0 W) : IsS121 w0 (W.alloc (.cells #[.string f0, .int .i64 f1, .int .i64 f2] 121)) W.heap.size f0 f1 f2 := ⟨by simpa using heap_alloc_new W _, hB.size⟩

/-! ### octet_New: function 75 -/
def octet_New.f (a0 : ByteArray) : Option (ByteArray × Int × Int) := some (a0, 0, 0)
set_option maxHeartbeats 8000000 in
set_option maxRecDepth 100000 in
theorem octet_New.calls (a0 : ByteArray) (r1 : ByteArray) (r2 : Int) (r3 : Int) (w0 w : World) (hB : Below w0.heap.size w0 w) (h : octet_New.f a0 = some (r1, r2, r3)) :
    Calls Try.prog 75 #[.string a0] w fun e w' => ∃ g_ : Nat, e = .returned (.pointer (some ⟨g_, 0, none⟩)) ∧ IsS121 w0 w' g_ r1 r2 r3 ∧ Below w0.heap.size w0 w' ∧ Below w.heap.size w w' := by
  have hu121 := Try.underlying121
  have HBW := Aside0.mk (Below.refl w.heap.size w)
  have HW0 := Aside0.mk hB.size
  have HB := Aside0.mk hB
  clear hB
  have H : (some (a0, 0, 0)) = some (r1, r2, r3) := h
  clear h
  simp only [Option.some.injEq, Prod.mk.injEq] at H
  obtain ⟨rfl, rfl, rfl⟩ := H
  go_enter Try.func75, Try.ntmps75
  go_wp2_with (first | ((with_reducible refine gate_dst (N := 5) rfl ?_); refine box_event ?hg (N := 5) ?hd (cs := #[.string a0, .int .i64 0, .int .i64 0]) (t := 121) ?hr ?_; (case hd => rfl); (case hg => rfl); (case hr => first | (go_simp; done) | (go_simp; rfl)); intro gb286 hg w2 hbox hb; have n0_ := Aside0.mk (below_step HBW.out hb); have n1_ := Aside0.mk (below_step (by repeat (first | (with_reducible first | exact HB.out | apply below_alloc | apply pw_below_drewN | apply below_drew1) | exact HB.out)) hb); have n2_ := Aside0.mk (hbox); have n3_ := Aside0.mk ((by rw [hg]; exact (below_size (by repeat (first | (with_reducible first | exact HBW.out | apply below_alloc | apply pw_below_drewN | apply below_drew1) | exact HBW.out))) : w.heap.size ≤ gb286)); have n4_ := Aside0.mk ((Nat.le_trans HW0.out (by rw [hg]; exact (below_size (by repeat (first | (with_reducible first | exact HBW.out | apply below_alloc | apply pw_below_drewN | apply below_drew1) | exact HBW.out))) : w.heap.size ≤ gb286) : w0.heap.size ≤ gb286)); clear HBW; clear HB; have HBW := n0_; have HB := n1_; have BK286 := n2_; have GW286 := n3_; have GE286 := n4_; clear n0_ n1_ n2_ n3_ n4_; clear hb hbox hg))
  go_ret
  exact ⟨_, rfl, (show IsS121 w0 _ gb286 a0 0 0 from ⟨by (with_reducible repeat (first | refine blk_drewN ?_ _ | refine blk_drew ?_ | refine blk_alloc ?_ _)); exact BK286.out, GE286.out⟩), by repeat (first | (with_reducible first | exact HB.out | apply below_alloc | apply pw_below_drewN | apply below_drew1 | refine below_set ?_ GE286.out) | exact HB.out), by repeat (first | (with_reducible first | exact HBW.out | apply below_alloc | apply pw_below_drewN | apply below_drew1 | refine below_set ?_ GW286.out) | exact HBW.out)⟩

end Go.Proofs.Ytngmipfobcaojaa.HA
end

-- YtngmipfobcaojaaHA71
section
-- Written by hp.py (a driver over the kit's print). Not trusted: Lean checks it.
namespace Go.Proofs.Ytngmipfobcaojaa.HA
open Go.RowKit Go.Proofs.YtngmipfobcaojaaW.PrintWords Go.Proofs.YtngmipfobcaojaaW.PrintLast Go.Proofs.YtngmipfobcaojaaW.PrintMore
attribute [local go_sem] max2_int min2_int max_two min_two max_three min_three max_four min_four   -- for this text's walks alone
set_option linter.unusedVariables false
set_option linter.unusedSimpArgs false

/-! ### octet_Get: function 96 -/
mutual
def octet_Get.j0 : Nat → ByteArray → Option (Int)
  | 0, _ => none
  | k + 1, x0 => octet_Get.l0 k x0 0 (x0.size : Int) 0
def octet_Get.l0 : Nat → ByteArray → Int → Int → Int → Option (Int)
  | 0, _, _, _, _ => none
  | k + 1, x0, x3, x14, x15 => if x15 < x14 then (if 0 ≤ x15 then (if x15 < (x0.size : Int) then (octet_Get.l0 k x0 (Go.bits .or .u64 (IntKind.u64.wrap (x3 * 256)) (IntKind.u64.wrap (bt x0 x15))) x14 (wrap64 (x15 + 1))) else (none)) else (none)) else (some x3)
end
def octet_Get.f (k : Nat) (a0 : ByteArray) : Option (Int) := if (a0.size : Int) > 8 then (if 0 ≤ (wrap64 ((a0.size : Int) - 8)) then (if (wrap64 ((a0.size : Int) - 8)) ≤ (a0.size : Int) then (octet_Get.j0 k (a0.extract ((wrap64 ((a0.size : Int) - 8)) : Int).toNat a0.size)) else (none)) else (none)) else (octet_Get.j0 k a0)
theorem octet_Get.mono_l : ∀ k, (∀ y0, LeO (octet_Get.j0 k y0) (octet_Get.j0 (k + 1) y0)) ∧ (∀ y0 y1 y2 y3, LeO (octet_Get.l0 k y0 y1 y2 y3) (octet_Get.l0 (k + 1) y0 y1 y2 y3))
  | 0 => ⟨fun _ r h => by simp [octet_Get.j0] at h, fun _ _ _ _ r h => by simp [octet_Get.l0] at h⟩
  | k + 1 => by
    obtain ⟨ih0, ih1⟩ := octet_Get.mono_l k
    refine ⟨?_, ?_⟩
    · intro y0
      unfold octet_Get.j0
      repeat' first
      | (with_reducible exact ih0 _)
      | (with_reducible exact ih1 _ _ _ _)
      | (with_reducible exact LeO.refl _)
      | (with_reducible exact LeO.none _)
      | (with_reducible refine LeO.ite ?_ ?_)
      | (with_reducible refine LeO.bind ?_ (fun _ => ?_))
      | exact ih0 _
      | exact ih1 _ _ _ _
      | exact LeO.none _
      | refine LeO.ite ?_ ?_
      | refine LeO.bind ?_ (fun _ => ?_)
    · intro y0 y1 y2 y3
      unfold octet_Get.l0
      repeat' first
      | (with_reducible exact ih0 _)
      | (with_reducible exact ih1 _ _ _ _)
      | (with_reducible exact LeO.refl _)
      | (with_reducible exact LeO.none _)
      | (with_reducible refine LeO.ite ?_ ?_)
      | (with_reducible refine LeO.bind ?_ (fun _ => ?_))
      | exact ih0 _
      | exact ih1 _ _ _ _
      | exact LeO.none _
      | refine LeO.ite ?_ ?_
      | refine LeO.bind ?_ (fun _ => ?_)
theorem octet_Get.mono : ∀ a0 k, LeO (octet_Get.f k a0) (octet_Get.f (k + 1) a0) := by
  intro a0 k
  obtain ⟨ih0, ih1⟩ := octet_Get.mono_l k
  unfold octet_Get.f
  repeat' first
      | (with_reducible exact ih0 _)
      | (with_reducible exact ih1 _ _ _ _)
      | (with_reducible exact LeO.refl _)
      | (with_reducible exact LeO.none _)
      | (with_reducible refine LeO.ite ?_ ?_)
      | (with_reducible refine LeO.bind ?_ (fun _ => ?_))
      | exact ih0 _
      | exact ih1 _ _ _ _
      | exact LeO.none _
      | refine LeO.ite ?_ ?_
      | refine LeO.bind ?_ (fun _ => ?_)
set_option maxHeartbeats 8000000 in
set_option maxRecDepth 100000 in
theorem octet_Get.calls (k : Nat) (a0 : ByteArray) (r : Int) (w : World) (h : octet_Get.f k a0 = some r) :
    Calls Try.prog 96 #[.string a0] w fun e w' => e = .returned (.int .u64 r) ∧ Drawn0 w w' := by
  have H : (if (a0.size : Int) > 8 then (if 0 ≤ (wrap64 ((a0.size : Int) - 8)) then (if (wrap64 ((a0.size : Int) - 8)) ≤ (a0.size : Int) then (octet_Get.j0 k (a0.extract ((wrap64 ((a0.size : Int) - 8)) : Int).toNat a0.size)) else (none)) else (none)) else (octet_Get.j0 k a0)) = some r := h
  clear h
  have HC2 := Aside0.mk H
  clear H
  go_enter Try.func96, Try.ntmps96
  go_upto_if 7 with (fail)
  go_cut [0] (fun v0 wc => ∃ (kq : Nat) (x0_1 : ByteArray), v0 = .string x0_1 ∧ Aside0 (octet_Get.j0 kq x0_1 = some r) ∧ Aside0 (kq ≤ k) ∧ Drawn0 w wc)
  case first =>
    have H := HC2.out
    clear HC2
    by_cases c3 : (a0.size : Int) > 8
    · rw [if_pos c3] at H
      have c3b0 : decide (8 < (a0.size : Int)) = true := decide_eq_true c3
      have c3b1 : decide (8 < a0.size) = true := decide_eq_true (by omega)
      clear c3
      (first | rw [c3b0] | (simp only [i64_w, i32_w]; rw [c3b0]) | skip)
      obtain ⟨ji4, hji4⟩ : ∃ j_ : Int, (wrap64 ((a0.size : Int) - 8)) = j_ := ⟨_, rfl⟩
      replace H : (if 0 ≤ (ji4) then (if (ji4) ≤ (a0.size : Int) then (octet_Get.j0 k (a0.extract ((ji4) : Int).toNat a0.size)) else (none)) else (none)) = some r := by first | (rw [hji4] at H; exact H) | (simp only [hji4] at H ⊢; exact H)
      have hji4w : (IntKind.i64.wrap ((a0.size : Int) - 8)) = ji4 := (i64_w _).trans hji4
      by_cases c5 : 0 ≤ (ji4)
      · rw [if_pos c5] at H
        have c5b0 := eq_true c5
        have c5b1 : decide (0 ≤ (ji4)) = true := decide_eq_true c5
        clear c5
        by_cases c6 : (ji4) ≤ (a0.size : Int)
        · rw [if_pos c6] at H
          have c6b0 := eq_true c6
          have c6b1 : decide ((ji4) ≤ (a0.size : Int)) = true := decide_eq_true c6
          clear c6
          have H' := Aside0.mk H
          clear H
          go_wp2
          go_meet
          case rel => exact ⟨_, (a0.extract ((ji4) : Int).toNat a0.size), (by first | rfl | (simp; done) | (simp only [← hji4] <;> (first | rfl | simp)) | (simp [*]; done) | (simp; exact bne_nil_isEmpty _)), H', ⟨by first | omega | exact Nat.le_refl _⟩, by repeat (first | exact Drawn0.refl _ | apply Drawn0.step)⟩
        · rw [if_neg c6] at H
          exact absurd H (by simp)
      · rw [if_neg c5] at H
        exact absurd H (by simp)
    · rw [if_neg c3] at H
      have c3b0 : decide (8 < (a0.size : Int)) = false := decide_eq_false c3
      have c3b1 : decide (8 < a0.size) = false := decide_eq_false (by omega)
      clear c3
      (first | rw [c3b0] | (simp only [i64_w, i32_w]; rw [c3b0]) | skip)
      have H' := Aside0.mk H
      clear H
      go_wp2
      go_meet
      case rel => exact ⟨_, (a0), (by first | rfl | (simp; done) | (simp [*]; done) | (simp; exact bne_nil_isEmpty _) | exact bne_nil_isEmpty _ | (simp; exact (bne_nil_isEmpty _).symm) | (simp; exact bne_nil_isEmpty' _)), H', ⟨by first | omega | exact Nat.le_refl _⟩, by repeat (first | exact Drawn0.refl _ | apply Drawn0.step)⟩
  case rest =>
    clear HC2
    try clear p2
    try clear c3
    try clear c3b0
    try clear c3b1
    try clear c5
    try clear c5b0
    try clear c5b1
    try clear c6
    try clear c6b0
    try clear c6b1
    try clear p6
    obtain ⟨kq, x0_1, rfl, HA, HJ1, ⟨mc1, rfl⟩⟩ := hcut
    cases kq with
    | zero => exact absurd HA.out (by simp [octet_Get.j0])
    | succ kj1 =>
      have H := HA.out
      clear HA
      simp only [octet_Get.j0] at H
      have H' := Aside0.mk H
      clear H
      go_wp2
      go_loopg [3, 15] kj1 (fun kq v3 v15 w' => ∃ (x3_2 : Int) (x15_2 : Int), v3 = .int .u64 x3_2 ∧ v15 = .int .i64 x15_2 ∧ Aside0 (octet_Get.l0 kq x0_1 x3_2 (x0_1.size : Int) x15_2 = some r) ∧ Aside0 (kq ≤ kj1) ∧ Drawn0 w w')
      case atStart => exact ⟨(0), (0), (by first | rfl | (simp; done) | (simp [*]; done) | (simp; exact bne_nil_isEmpty _) | exact bne_nil_isEmpty _ | (simp; exact (bne_nil_isEmpty _).symm) | (simp; exact bne_nil_isEmpty' _)), (by first | rfl | (simp; done) | (simp [*]; done) | (simp; exact bne_nil_isEmpty _) | exact bne_nil_isEmpty _ | (simp; exact (bne_nil_isEmpty _).symm) | (simp; exact bne_nil_isEmpty' _)), H', ⟨Nat.le_refl _⟩, by repeat (first | exact Drawn0.refl _ | apply Drawn0.step)⟩
      case round =>
        clear H'
        try clear c1
        try clear p2
        try clear c3
        try clear c3b0
        try clear c3b1
        try clear c5
        try clear c5b0
        try clear c5b1
        try clear c6
        try clear c6b0
        try clear c6b1
        try clear p6
        try clear p2
        try clear p6
        obtain ⟨x3_2, x15_2, rfl, rfl, HA, HK2, ⟨m2, rfl⟩⟩ := hrel
        cases gk with
        | zero => exact absurd HA.out (by simp [octet_Get.l0])
        | succ k2 =>
          have H := HA.out
          clear HA
          simp only [octet_Get.l0] at H
          by_cases c7 : x15_2 < (x0_1.size : Int)
          · rw [if_pos c7] at H
            have c7b0 : decide (x15_2 < (x0_1.size : Int)) = true := decide_eq_true c7
            clear c7
            by_cases c8 : 0 ≤ x15_2
            · rw [if_pos c8] at H
              have c8b0 : decide (0 ≤ x15_2) = true := decide_eq_true c8
              clear c8
              by_cases c9 : x15_2 < (x0_1.size : Int)
              · rw [if_pos c9] at H
                have c9b0 : decide (x15_2 < (x0_1.size : Int)) = true := decide_eq_true c9
                clear c9
                have H' := Aside0.mk H
                clear H
                have p10 : 0 ≤ (x15_2 : Int) := of_decide_eq_true (by first | (with_reducible assumption) | assumption)
                have q10 : x15_2 < (x0_1.size : Int) := of_decide_eq_true (by first | (with_reducible assumption) | assumption)
                have hx10 := bt_at x0_1 x15_2
                replace p10 := eq_true p10
                replace q10 := eq_true q10
                go_wp2
                go_roundg k2
                case measure => have := HJ1.out; have := HK2.out; omega
                case rel => exact ⟨(Go.bits .or .u64 (IntKind.u64.wrap (x3_2 * 256)) (IntKind.u64.wrap (bt x0_1 x15_2))), (wrap64 (x15_2 + 1)), (by first | rfl | (simp; done) | (simp [*]; done) | (simp; exact bne_nil_isEmpty _) | exact bne_nil_isEmpty _ | (simp; exact (bne_nil_isEmpty _).symm) | (simp; exact bne_nil_isEmpty' _)), (by first | rfl | (simp; done) | (simp [*]; done) | (simp; exact bne_nil_isEmpty _) | exact bne_nil_isEmpty _ | (simp; exact (bne_nil_isEmpty _).symm) | (simp; exact bne_nil_isEmpty' _)), H', ⟨by have := HJ1.out; have := HK2.out; omega⟩, by repeat (first | exact Drawn0.refl _ | apply Drawn0.step)⟩
              · rw [if_neg c9] at H
                exact absurd H (by simp)
            · rw [if_neg c8] at H
              exact absurd H (by simp)
          · rw [if_neg c7] at H
            have c7b0 : decide (x15_2 < (x0_1.size : Int)) = false := decide_eq_false c7
            clear c7
            obtain rfl := Option.some.inj H
            go_wp2
            go_ret
            exact ⟨by first | rfl | (simp; done) | (simp [*]; done) | (simp; exact bne_nil_isEmpty _) | exact bne_nil_isEmpty _ | (simp; exact (bne_nil_isEmpty _).symm) | (simp; exact bne_nil_isEmpty' _), by repeat (first | exact Drawn0.refl _ | apply Drawn0.step)⟩

end Go.Proofs.Ytngmipfobcaojaa.HA
end

-- YtngmipfobcaojaaHA72
section
-- Written by hp.py (a driver over the kit's print). Not trusted: Lean checks it.
namespace Go.Proofs.Ytngmipfobcaojaa.HA
open Go.RowKit Go.Proofs.YtngmipfobcaojaaW.PrintWords Go.Proofs.YtngmipfobcaojaaW.PrintLast Go.Proofs.YtngmipfobcaojaaW.PrintMore
attribute [local go_sem] max2_int min2_int max_two min_two max_three min_three max_four min_four   -- for this text's walks alone
set_option linter.unusedVariables false
set_option linter.unusedSimpArgs false

/-! ### octet_Cursor_ready: function 110 -/
def octet_Cursor_ready.f (s0_0 : ByteArray) (s0_1 : Int) (s0_2 : Int) : Option (Bool × ByteArray × Int × Int) := some ((s0_2 == 0), s0_0, s0_1, s0_2)
set_option maxHeartbeats 8000000 in
set_option maxRecDepth 100000 in
theorem octet_Cursor_ready.calls (g : Nat) (s0_0 : ByteArray) (s0_1 : Int) (s0_2 : Int) (r1 : Bool) (r2 : ByteArray) (r3 : Int) (r4 : Int) (w0 w : World) (hI : IsS121 w0 w g s0_0 s0_1 s0_2) (hB : Below w0.heap.size w0 w) (h : octet_Cursor_ready.f s0_0 s0_1 s0_2 = some (r1, r2, r3, r4)) :
    Calls Try.prog 110 #[.pointer (some ⟨g, 0, none⟩)] w fun e w' => e = .returned (.bool r1) ∧ IsS121 w0 w' g r2 r3 r4 ∧ Below w0.heap.size w0 w' ∧ KeepBut w w' g none := by
  have HI0 := Aside0.mk hI
  have HK := Aside0.mk (KeepBut.refl w g none)
  have HL := Aside0.mk hB.size
  clear hI
  have HW0 := Aside0.mk hB.size
  have HB := Aside0.mk hB
  clear hB
  have H : (some ((s0_2 == 0), s0_0, s0_1, s0_2)) = some (r1, r2, r3, r4) := h
  clear h
  simp only [Option.some.injEq, Prod.mk.injEq] at H
  obtain ⟨rfl, rfl, rfl, rfl⟩ := H
  obtain ⟨HGz2, hgz2⟩ := HI0.out
  have hcz2_0 := cellS121_0 HGz2
  have hcz2_1 := cellS121_1 HGz2
  have hcz2_2 := cellS121_2 HGz2
  have hfz2_0 := blk_frozen HGz2 0
  have hfz2_1 := blk_frozen HGz2 1
  have hfz2_2 := blk_frozen HGz2 2
  clear HGz2 hgz2
  go_enter Try.func110, Try.ntmps110
  go_wp2
  go_ret
  exact ⟨by first | rfl | (simp [errW_none, errW_some] <;> rfl) | (simp [*, errW_none, errW_some] <;> rfl), by repeat (first | (with_reducible first | exact HI0.out | apply IsS121.alloc | apply IsS121.drewN | apply IsS121.drew | apply IsS121.set_0 | apply IsS121.set_1 | apply IsS121.set_2) | exact HI0.out), by repeat (first | (with_reducible first | exact HB.out | apply below_alloc | apply pw_below_drewN | apply below_drew1 | refine below_set ?_ (IsS121.ge HI0.out)) | exact HB.out), by repeat (first | (with_reducible first | exact HK.out | apply KeepBut.set_ | apply keep_drewN | apply keep_drew | apply keep_alloc) | exact HK.out)⟩

end Go.Proofs.Ytngmipfobcaojaa.HA
end

-- YtngmipfobcaojaaHA73
section
-- Written by hp.py (a driver over the kit's print). Not trusted: Lean checks it.
namespace Go.Proofs.Ytngmipfobcaojaa.HA
open Go.RowKit Go.Proofs.YtngmipfobcaojaaW.PrintWords Go.Proofs.YtngmipfobcaojaaW.PrintLast Go.Proofs.YtngmipfobcaojaaW.PrintMore
attribute [local go_sem] max2_int min2_int max_two min_two max_three min_three max_four min_four   -- for this text's walks alone
set_option linter.unusedVariables false
set_option linter.unusedSimpArgs false

/-! ### octet_Cursor_has: function 111 -/
def octet_Cursor_has.f (s0_0 : ByteArray) (s0_1 : Int) (s0_2 : Int) (a1 : Int) : Option (Bool × ByteArray × Int × Int) := if a1 ≥ 0 then (some (decide (a1 ≤ (wrap64 ((s0_0.size : Int) - s0_1))), s0_0, s0_1, s0_2)) else (some (false, s0_0, s0_1, s0_2))
set_option maxHeartbeats 8000000 in
set_option maxRecDepth 100000 in
theorem octet_Cursor_has.calls (g : Nat) (s0_0 : ByteArray) (s0_1 : Int) (s0_2 : Int) (a1 : Int) (r1 : Bool) (r2 : ByteArray) (r3 : Int) (r4 : Int) (w0 w : World) (hI : IsS121 w0 w g s0_0 s0_1 s0_2) (hB : Below w0.heap.size w0 w) (h : octet_Cursor_has.f s0_0 s0_1 s0_2 a1 = some (r1, r2, r3, r4)) :
    Calls Try.prog 111 #[.pointer (some ⟨g, 0, none⟩), .int .i64 a1] w fun e w' => e = .returned (.bool r1) ∧ IsS121 w0 w' g r2 r3 r4 ∧ Below w0.heap.size w0 w' ∧ KeepBut w w' g none := by
  have HI0 := Aside0.mk hI
  have HK := Aside0.mk (KeepBut.refl w g none)
  have HL := Aside0.mk hB.size
  clear hI
  have HW0 := Aside0.mk hB.size
  have HB := Aside0.mk hB
  clear hB
  have H : (if a1 ≥ 0 then (some (decide (a1 ≤ (wrap64 ((s0_0.size : Int) - s0_1))), s0_0, s0_1, s0_2)) else (some (false, s0_0, s0_1, s0_2))) = some (r1, r2, r3, r4) := h
  clear h
  by_cases c3 : a1 ≥ 0
  · rw [if_pos c3] at H
    have c3b0 : decide (0 ≤ a1) = true := decide_eq_true c3
    clear c3
    simp only [Option.some.injEq, Prod.mk.injEq] at H
    obtain ⟨rfl, rfl, rfl, rfl⟩ := H
    obtain ⟨HGz4, hgz4⟩ := HI0.out
    have hcz4_0 := cellS121_0 HGz4
    have hcz4_1 := cellS121_1 HGz4
    have hcz4_2 := cellS121_2 HGz4
    have hfz4_0 := blk_frozen HGz4 0
    have hfz4_1 := blk_frozen HGz4 1
    have hfz4_2 := blk_frozen HGz4 2
    clear HGz4 hgz4
    go_enter Try.func111, Try.ntmps111
    go_wp2
    repeat (go_quiet (fail); try go_wp2)
    go_ret
    exact ⟨by first | rfl | (simp [errW_none, errW_some] <;> rfl) | (simp [*, errW_none, errW_some] <;> rfl), by repeat (first | (with_reducible first | exact HI0.out | apply IsS121.alloc | apply IsS121.drewN | apply IsS121.drew | apply IsS121.set_0 | apply IsS121.set_1 | apply IsS121.set_2) | exact HI0.out), by repeat (first | (with_reducible first | exact HB.out | apply below_alloc | apply pw_below_drewN | apply below_drew1 | refine below_set ?_ (IsS121.ge HI0.out)) | exact HB.out), by repeat (first | (with_reducible first | exact HK.out | apply KeepBut.set_ | apply keep_drewN | apply keep_drew | apply keep_alloc) | exact HK.out)⟩
  · rw [if_neg c3] at H
    have c3b0 : decide (0 ≤ a1) = false := decide_eq_false c3
    clear c3
    simp only [Option.some.injEq, Prod.mk.injEq] at H
    obtain ⟨rfl, rfl, rfl, rfl⟩ := H
    go_enter Try.func111, Try.ntmps111
    go_wp2
    repeat (go_quiet (fail); try go_wp2)
    go_ret
    exact ⟨by first | rfl | (simp [errW_none, errW_some] <;> rfl) | (simp [*, errW_none, errW_some] <;> rfl), by repeat (first | (with_reducible first | exact HI0.out | apply IsS121.alloc | apply IsS121.drewN | apply IsS121.drew | apply IsS121.set_0 | apply IsS121.set_1 | apply IsS121.set_2) | exact HI0.out), by repeat (first | (with_reducible first | exact HB.out | apply below_alloc | apply pw_below_drewN | apply below_drew1 | refine below_set ?_ (IsS121.ge HI0.out)) | exact HB.out), by repeat (first | (with_reducible first | exact HK.out | apply KeepBut.set_ | apply keep_drewN | apply keep_drew | apply keep_alloc) | exact HK.out)⟩

end Go.Proofs.Ytngmipfobcaojaa.HA
end

-- YtngmipfobcaojaaHA74
section
-- Written by hp.py (a driver over the kit's print). Not trusted: Lean checks it.
namespace Go.Proofs.Ytngmipfobcaojaa.HA
open Go.RowKit Go.Proofs.YtngmipfobcaojaaW.PrintWords Go.Proofs.YtngmipfobcaojaaW.PrintLast Go.Proofs.YtngmipfobcaojaaW.PrintMore
attribute [local go_sem] max2_int min2_int max_two min_two max_three min_three max_four min_four   -- for this text's walks alone
set_option linter.unusedVariables false
set_option linter.unusedSimpArgs false

/-! ### octet_Cursor_Take: function 97 -/
def octet_Cursor_Take.f (s0_0 : ByteArray) (s0_1 : Int) (s0_2 : Int) (a1 : Int) : Option (ByteArray × ByteArray × Int × Int) := (octet_Cursor_ready.f s0_0 s0_1 s0_2).bind fun bt291 => (if bt291.1 = true then ((octet_Cursor_has.f bt291.2.1 bt291.2.2.1 bt291.2.2.2 a1).bind fun bt295 => (if bt295.1 = true then (if 0 ≤ bt295.2.2.1 then (if bt295.2.2.1 ≤ (wrap64 (bt295.2.2.1 + a1)) then (if (wrap64 (bt295.2.2.1 + a1)) ≤ (bt295.2.1.size : Int) then (some (bt295.2.1.extract (bt295.2.2.1 : Int).toNat ((wrap64 (bt295.2.2.1 + a1)) : Int).toNat, bt295.2.1, wrap64 (bt295.2.2.1 + a1), bt295.2.2.2)) else (none)) else (none)) else (none)) else (some ((⟨#[]⟩ : ByteArray), bt295.2.1, bt295.2.2.1, 3)))) else (some ((⟨#[]⟩ : ByteArray), bt291.2.1, bt291.2.2.1, bt291.2.2.2)))
set_option maxHeartbeats 8000000 in
set_option maxRecDepth 100000 in
theorem octet_Cursor_Take.calls (g : Nat) (s0_0 : ByteArray) (s0_1 : Int) (s0_2 : Int) (a1 : Int) (r1 : ByteArray) (r2 : ByteArray) (r3 : Int) (r4 : Int) (w0 w : World) (hI : IsS121 w0 w g s0_0 s0_1 s0_2) (hB : Below w0.heap.size w0 w) (h : octet_Cursor_Take.f s0_0 s0_1 s0_2 a1 = some (r1, r2, r3, r4)) :
    Calls Try.prog 97 #[.pointer (some ⟨g, 0, none⟩), .int .i64 a1] w fun e w' => e = .returned (.string r1) ∧ IsS121 w0 w' g r2 r3 r4 ∧ Below w0.heap.size w0 w' ∧ KeepBut w w' g none := by
  have HI0 := Aside0.mk hI
  have HK := Aside0.mk (KeepBut.refl w g none)
  have HL := Aside0.mk hB.size
  clear hI
  have HW0 := Aside0.mk hB.size
  have HB := Aside0.mk hB
  clear hB
  have H : ((octet_Cursor_ready.f s0_0 s0_1 s0_2).bind fun bt291 => (if bt291.1 = true then ((octet_Cursor_has.f bt291.2.1 bt291.2.2.1 bt291.2.2.2 a1).bind fun bt295 => (if bt295.1 = true then (if 0 ≤ bt295.2.2.1 then (if bt295.2.2.1 ≤ (wrap64 (bt295.2.2.1 + a1)) then (if (wrap64 (bt295.2.2.1 + a1)) ≤ (bt295.2.1.size : Int) then (some (bt295.2.1.extract (bt295.2.2.1 : Int).toNat ((wrap64 (bt295.2.2.1 + a1)) : Int).toNat, bt295.2.1, wrap64 (bt295.2.2.1 + a1), bt295.2.2.2)) else (none)) else (none)) else (none)) else (some ((⟨#[]⟩ : ByteArray), bt295.2.1, bt295.2.2.1, 3)))) else (some ((⟨#[]⟩ : ByteArray), bt291.2.1, bt291.2.2.1, bt291.2.2.2)))) = some (r1, r2, r3, r4) := h
  clear h
  replace H := Option.bind_eq_some_iff.mp H
  obtain ⟨⟨t291, t292, t293, t294⟩, A30, H⟩ := H
  replace H : (if t291 = true then ((octet_Cursor_has.f t292 t293 t294 a1).bind fun bt295 => (if bt295.1 = true then (if 0 ≤ bt295.2.2.1 then (if bt295.2.2.1 ≤ (wrap64 (bt295.2.2.1 + a1)) then (if (wrap64 (bt295.2.2.1 + a1)) ≤ (bt295.2.1.size : Int) then (some (bt295.2.1.extract (bt295.2.2.1 : Int).toNat ((wrap64 (bt295.2.2.1 + a1)) : Int).toNat, bt295.2.1, wrap64 (bt295.2.2.1 + a1), bt295.2.2.2)) else (none)) else (none)) else (none)) else (some ((⟨#[]⟩ : ByteArray), bt295.2.1, bt295.2.2.1, 3)))) else (some ((⟨#[]⟩ : ByteArray), t292, t293, t294))) = some (r1, r2, r3, r4) := H
  have A3 := Aside0.mk A30
  clear A30
  by_cases c4 : t291 = true
  · subst c4
    have H1 : ((octet_Cursor_has.f t292 t293 t294 a1).bind fun bt295 => (if bt295.1 = true then (if 0 ≤ bt295.2.2.1 then (if bt295.2.2.1 ≤ (wrap64 (bt295.2.2.1 + a1)) then (if (wrap64 (bt295.2.2.1 + a1)) ≤ (bt295.2.1.size : Int) then (some (bt295.2.1.extract (bt295.2.2.1 : Int).toNat ((wrap64 (bt295.2.2.1 + a1)) : Int).toNat, bt295.2.1, wrap64 (bt295.2.2.1 + a1), bt295.2.2.2)) else (none)) else (none)) else (none)) else (some ((⟨#[]⟩ : ByteArray), bt295.2.1, bt295.2.2.1, 3)))) = some (r1, r2, r3, r4) := by rw [if_pos rfl] at H; exact H
    clear H
    have H := H1
    clear H1
    replace H := Option.bind_eq_some_iff.mp H
    obtain ⟨⟨t295, t296, t297, t298⟩, A50, H⟩ := H
    replace H : (if t295 = true then (if 0 ≤ t297 then (if t297 ≤ (wrap64 (t297 + a1)) then (if (wrap64 (t297 + a1)) ≤ (t296.size : Int) then (some (t296.extract (t297 : Int).toNat ((wrap64 (t297 + a1)) : Int).toNat, t296, wrap64 (t297 + a1), t298)) else (none)) else (none)) else (none)) else (some ((⟨#[]⟩ : ByteArray), t296, t297, 3))) = some (r1, r2, r3, r4) := H
    have A5 := Aside0.mk A50
    clear A50
    by_cases c6 : t295 = true
    · subst c6
      have H1 : (if 0 ≤ t297 then (if t297 ≤ (wrap64 (t297 + a1)) then (if (wrap64 (t297 + a1)) ≤ (t296.size : Int) then (some (t296.extract (t297 : Int).toNat ((wrap64 (t297 + a1)) : Int).toNat, t296, wrap64 (t297 + a1), t298)) else (none)) else (none)) else (none)) = some (r1, r2, r3, r4) := by rw [if_pos rfl] at H; exact H
      clear H
      have H := H1
      clear H1
      by_cases c7 : 0 ≤ t297
      · rw [if_pos c7] at H
        have c7b0 := eq_true c7
        have c7b1 : decide (0 ≤ t297) = true := decide_eq_true c7
        clear c7
        by_cases c8 : t297 ≤ (wrap64 (t297 + a1))
        · rw [if_pos c8] at H
          have c8b0 := eq_true c8
          have c8b1 : decide (t297 ≤ (wrap64 (t297 + a1))) = true := decide_eq_true c8
          by_cases c9 : (wrap64 (t297 + a1)) ≤ (t296.size : Int)
          · rw [if_pos c9] at H
            have c9b0 := eq_true c9
            have c9b1 : decide ((wrap64 (t297 + a1)) ≤ (t296.size : Int)) = true := decide_eq_true c9
            simp only [Option.some.injEq, Prod.mk.injEq] at H
            obtain ⟨rfl, rfl, rfl, rfl⟩ := H
            go_enter Try.func97, Try.ntmps97
            go_wp2_with (first | (go_at_call 110; (with_reducible refine (octet_Cursor_ready.calls g s0_0 s0_1 s0_2 true t292 t293 t294 w0 _ ?side1 ?side2 A3.out).mono ?_); (case side1 => repeat (first | (with_reducible first | exact HI0.out | apply IsS121.alloc | apply IsS121.drewN | apply IsS121.drew | apply IsS121.set_0 | apply IsS121.set_1 | apply IsS121.set_2) | exact HI0.out)); (case side2 => repeat (first | (with_reducible first | exact HB.out | apply below_alloc | apply pw_below_drewN | apply below_drew1 | refine below_set ?_ (IsS121.ge HI0.out)) | exact HB.out)); rintro e w10 ⟨rfl, hi, hb, hk⟩; have n0_ := Aside0.mk (KeepBut.trans (by repeat (first | (with_reducible first | exact HK.out | apply KeepBut.set_ | apply keep_drewN | apply keep_drew | apply keep_alloc) | exact HK.out)) hk (.inl rfl)); have n1_ := Aside0.mk (hb); have n2_ := Aside0.mk (hi); clear HK; clear HB; clear HI0; have HK := n0_; have HB := n1_; have HI0 := n2_; clear n0_ n1_ n2_; (try clear hb); (try clear hb2); (try clear hk); (try clear hi)) | (go_at_call 111; (with_reducible refine (octet_Cursor_has.calls g t292 t293 t294 a1 true t296 t297 t298 w0 _ ?side1 ?side2 A5.out).mono ?_); (case side1 => repeat (first | (with_reducible first | exact HI0.out | apply IsS121.alloc | apply IsS121.drewN | apply IsS121.drew | apply IsS121.set_0 | apply IsS121.set_1 | apply IsS121.set_2) | exact HI0.out)); (case side2 => repeat (first | (with_reducible first | exact HB.out | apply below_alloc | apply pw_below_drewN | apply below_drew1 | refine below_set ?_ (IsS121.ge HI0.out)) | exact HB.out)); rintro e w11 ⟨rfl, hi, hb, hk⟩; have n0_ := Aside0.mk (KeepBut.trans (by repeat (first | (with_reducible first | exact HK.out | apply KeepBut.set_ | apply keep_drewN | apply keep_drew | apply keep_alloc) | exact HK.out)) hk (.inl rfl)); have n1_ := Aside0.mk (hb); have n2_ := Aside0.mk (hi); clear HK; clear HB; clear HI0; have HK := n0_; have HB := n1_; have HI0 := n2_; clear n0_ n1_ n2_; (try clear hb); (try clear hb2); (try clear hk); (try clear hi); obtain ⟨HGz12, hgz12⟩ := HI0.out; have hcz12_0 := cellS121_0 HGz12; have hcz12_1 := cellS121_1 HGz12; have hcz12_2 := cellS121_2 HGz12; have hfz12_0 := blk_frozen HGz12 0; have hfz12_1 := blk_frozen HGz12 1; have hfz12_2 := blk_frozen HGz12 2; clear HGz12 hgz12))
            repeat (go_quiet (first | (go_at_call 110; (with_reducible refine (octet_Cursor_ready.calls g s0_0 s0_1 s0_2 true t292 t293 t294 w0 _ ?side1 ?side2 A3.out).mono ?_); (case side1 => repeat (first | (with_reducible first | exact HI0.out | apply IsS121.alloc | apply IsS121.drewN | apply IsS121.drew | apply IsS121.set_0 | apply IsS121.set_1 | apply IsS121.set_2) | exact HI0.out)); (case side2 => repeat (first | (with_reducible first | exact HB.out | apply below_alloc | apply pw_below_drewN | apply below_drew1 | refine below_set ?_ (IsS121.ge HI0.out)) | exact HB.out)); rintro e w10 ⟨rfl, hi, hb, hk⟩; have n0_ := Aside0.mk (KeepBut.trans (by repeat (first | (with_reducible first | exact HK.out | apply KeepBut.set_ | apply keep_drewN | apply keep_drew | apply keep_alloc) | exact HK.out)) hk (.inl rfl)); have n1_ := Aside0.mk (hb); have n2_ := Aside0.mk (hi); clear HK; clear HB; clear HI0; have HK := n0_; have HB := n1_; have HI0 := n2_; clear n0_ n1_ n2_; (try clear hb); (try clear hb2); (try clear hk); (try clear hi)) | (go_at_call 111; (with_reducible refine (octet_Cursor_has.calls g t292 t293 t294 a1 true t296 t297 t298 w0 _ ?side1 ?side2 A5.out).mono ?_); (case side1 => repeat (first | (with_reducible first | exact HI0.out | apply IsS121.alloc | apply IsS121.drewN | apply IsS121.drew | apply IsS121.set_0 | apply IsS121.set_1 | apply IsS121.set_2) | exact HI0.out)); (case side2 => repeat (first | (with_reducible first | exact HB.out | apply below_alloc | apply pw_below_drewN | apply below_drew1 | refine below_set ?_ (IsS121.ge HI0.out)) | exact HB.out)); rintro e w11 ⟨rfl, hi, hb, hk⟩; have n0_ := Aside0.mk (KeepBut.trans (by repeat (first | (with_reducible first | exact HK.out | apply KeepBut.set_ | apply keep_drewN | apply keep_drew | apply keep_alloc) | exact HK.out)) hk (.inl rfl)); have n1_ := Aside0.mk (hb); have n2_ := Aside0.mk (hi); clear HK; clear HB; clear HI0; have HK := n0_; have HB := n1_; have HI0 := n2_; clear n0_ n1_ n2_; (try clear hb); (try clear hb2); (try clear hk); (try clear hi); obtain ⟨HGz12, hgz12⟩ := HI0.out; have hcz12_0 := cellS121_0 HGz12; have hcz12_1 := cellS121_1 HGz12; have hcz12_2 := cellS121_2 HGz12; have hfz12_0 := blk_frozen HGz12 0; have hfz12_1 := blk_frozen HGz12 1; have hfz12_2 := blk_frozen HGz12 2; clear HGz12 hgz12)); try go_wp2_with (first | (go_at_call 110; (with_reducible refine (octet_Cursor_ready.calls g s0_0 s0_1 s0_2 true t292 t293 t294 w0 _ ?side1 ?side2 A3.out).mono ?_); (case side1 => repeat (first | (with_reducible first | exact HI0.out | apply IsS121.alloc | apply IsS121.drewN | apply IsS121.drew | apply IsS121.set_0 | apply IsS121.set_1 | apply IsS121.set_2) | exact HI0.out)); (case side2 => repeat (first | (with_reducible first | exact HB.out | apply below_alloc | apply pw_below_drewN | apply below_drew1 | refine below_set ?_ (IsS121.ge HI0.out)) | exact HB.out)); rintro e w10 ⟨rfl, hi, hb, hk⟩; have n0_ := Aside0.mk (KeepBut.trans (by repeat (first | (with_reducible first | exact HK.out | apply KeepBut.set_ | apply keep_drewN | apply keep_drew | apply keep_alloc) | exact HK.out)) hk (.inl rfl)); have n1_ := Aside0.mk (hb); have n2_ := Aside0.mk (hi); clear HK; clear HB; clear HI0; have HK := n0_; have HB := n1_; have HI0 := n2_; clear n0_ n1_ n2_; (try clear hb); (try clear hb2); (try clear hk); (try clear hi)) | (go_at_call 111; (with_reducible refine (octet_Cursor_has.calls g t292 t293 t294 a1 true t296 t297 t298 w0 _ ?side1 ?side2 A5.out).mono ?_); (case side1 => repeat (first | (with_reducible first | exact HI0.out | apply IsS121.alloc | apply IsS121.drewN | apply IsS121.drew | apply IsS121.set_0 | apply IsS121.set_1 | apply IsS121.set_2) | exact HI0.out)); (case side2 => repeat (first | (with_reducible first | exact HB.out | apply below_alloc | apply pw_below_drewN | apply below_drew1 | refine below_set ?_ (IsS121.ge HI0.out)) | exact HB.out)); rintro e w11 ⟨rfl, hi, hb, hk⟩; have n0_ := Aside0.mk (KeepBut.trans (by repeat (first | (with_reducible first | exact HK.out | apply KeepBut.set_ | apply keep_drewN | apply keep_drew | apply keep_alloc) | exact HK.out)) hk (.inl rfl)); have n1_ := Aside0.mk (hb); have n2_ := Aside0.mk (hi); clear HK; clear HB; clear HI0; have HK := n0_; have HB := n1_; have HI0 := n2_; clear n0_ n1_ n2_; (try clear hb); (try clear hb2); (try clear hk); (try clear hi); obtain ⟨HGz12, hgz12⟩ := HI0.out; have hcz12_0 := cellS121_0 HGz12; have hcz12_1 := cellS121_1 HGz12; have hcz12_2 := cellS121_2 HGz12; have hfz12_0 := blk_frozen HGz12 0; have hfz12_1 := blk_frozen HGz12 1; have hfz12_2 := blk_frozen HGz12 2; clear HGz12 hgz12)))
            go_ret
            exact ⟨by first | rfl | (simp [errW_none, errW_some] <;> rfl) | (simp [*, errW_none, errW_some] <;> rfl), by repeat (first | (with_reducible first | exact HI0.out | apply IsS121.alloc | apply IsS121.drewN | apply IsS121.drew | apply IsS121.set_0 | apply IsS121.set_1 | apply IsS121.set_2) | exact HI0.out), by repeat (first | (with_reducible first | exact HB.out | apply below_alloc | apply pw_below_drewN | apply below_drew1 | refine below_set ?_ (IsS121.ge HI0.out)) | exact HB.out), by repeat (first | (with_reducible first | exact HK.out | apply KeepBut.set_ | apply keep_drewN | apply keep_drew | apply keep_alloc) | exact HK.out)⟩
          · rw [if_neg c9] at H
            exact absurd H (by simp)
        · rw [if_neg c8] at H
          exact absurd H (by simp)
      · rw [if_neg c7] at H
        exact absurd H (by simp)
    · replace c6 := Bool.eq_false_iff.mpr c6
      subst c6
      have H1 : (some ((⟨#[]⟩ : ByteArray), t296, t297, 3)) = some (r1, r2, r3, r4) := by rw [if_neg (show ¬ (false = true) by decide)] at H; exact H
      clear H
      have H := H1
      clear H1
      simp only [Option.some.injEq, Prod.mk.injEq] at H
      obtain ⟨rfl, rfl, rfl, rfl⟩ := H
      go_enter Try.func97, Try.ntmps97
      go_wp2_with (first | (go_at_call 110; (with_reducible refine (octet_Cursor_ready.calls g s0_0 s0_1 s0_2 true t292 t293 t294 w0 _ ?side1 ?side2 A3.out).mono ?_); (case side1 => repeat (first | (with_reducible first | exact HI0.out | apply IsS121.alloc | apply IsS121.drewN | apply IsS121.drew | apply IsS121.set_0 | apply IsS121.set_1 | apply IsS121.set_2) | exact HI0.out)); (case side2 => repeat (first | (with_reducible first | exact HB.out | apply below_alloc | apply pw_below_drewN | apply below_drew1 | refine below_set ?_ (IsS121.ge HI0.out)) | exact HB.out)); rintro e w13 ⟨rfl, hi, hb, hk⟩; have n0_ := Aside0.mk (KeepBut.trans (by repeat (first | (with_reducible first | exact HK.out | apply KeepBut.set_ | apply keep_drewN | apply keep_drew | apply keep_alloc) | exact HK.out)) hk (.inl rfl)); have n1_ := Aside0.mk (hb); have n2_ := Aside0.mk (hi); clear HK; clear HB; clear HI0; have HK := n0_; have HB := n1_; have HI0 := n2_; clear n0_ n1_ n2_; (try clear hb); (try clear hb2); (try clear hk); (try clear hi)) | (go_at_call 111; (with_reducible refine (octet_Cursor_has.calls g t292 t293 t294 a1 false t296 t297 t298 w0 _ ?side1 ?side2 A5.out).mono ?_); (case side1 => repeat (first | (with_reducible first | exact HI0.out | apply IsS121.alloc | apply IsS121.drewN | apply IsS121.drew | apply IsS121.set_0 | apply IsS121.set_1 | apply IsS121.set_2) | exact HI0.out)); (case side2 => repeat (first | (with_reducible first | exact HB.out | apply below_alloc | apply pw_below_drewN | apply below_drew1 | refine below_set ?_ (IsS121.ge HI0.out)) | exact HB.out)); rintro e w14 ⟨rfl, hi, hb, hk⟩; have n0_ := Aside0.mk (KeepBut.trans (by repeat (first | (with_reducible first | exact HK.out | apply KeepBut.set_ | apply keep_drewN | apply keep_drew | apply keep_alloc) | exact HK.out)) hk (.inl rfl)); have n1_ := Aside0.mk (hb); have n2_ := Aside0.mk (hi); clear HK; clear HB; clear HI0; have HK := n0_; have HB := n1_; have HI0 := n2_; clear n0_ n1_ n2_; (try clear hb); (try clear hb2); (try clear hk); (try clear hi); obtain ⟨HGz15, hgz15⟩ := HI0.out; have hcz15_0 := cellS121_0 HGz15; have hcz15_1 := cellS121_1 HGz15; have hcz15_2 := cellS121_2 HGz15; have hfz15_0 := blk_frozen HGz15 0; have hfz15_1 := blk_frozen HGz15 1; have hfz15_2 := blk_frozen HGz15 2; clear HGz15 hgz15))
      repeat (go_quiet (first | (go_at_call 110; (with_reducible refine (octet_Cursor_ready.calls g s0_0 s0_1 s0_2 true t292 t293 t294 w0 _ ?side1 ?side2 A3.out).mono ?_); (case side1 => repeat (first | (with_reducible first | exact HI0.out | apply IsS121.alloc | apply IsS121.drewN | apply IsS121.drew | apply IsS121.set_0 | apply IsS121.set_1 | apply IsS121.set_2) | exact HI0.out)); (case side2 => repeat (first | (with_reducible first | exact HB.out | apply below_alloc | apply pw_below_drewN | apply below_drew1 | refine below_set ?_ (IsS121.ge HI0.out)) | exact HB.out)); rintro e w13 ⟨rfl, hi, hb, hk⟩; have n0_ := Aside0.mk (KeepBut.trans (by repeat (first | (with_reducible first | exact HK.out | apply KeepBut.set_ | apply keep_drewN | apply keep_drew | apply keep_alloc) | exact HK.out)) hk (.inl rfl)); have n1_ := Aside0.mk (hb); have n2_ := Aside0.mk (hi); clear HK; clear HB; clear HI0; have HK := n0_; have HB := n1_; have HI0 := n2_; clear n0_ n1_ n2_; (try clear hb); (try clear hb2); (try clear hk); (try clear hi)) | (go_at_call 111; (with_reducible refine (octet_Cursor_has.calls g t292 t293 t294 a1 false t296 t297 t298 w0 _ ?side1 ?side2 A5.out).mono ?_); (case side1 => repeat (first | (with_reducible first | exact HI0.out | apply IsS121.alloc | apply IsS121.drewN | apply IsS121.drew | apply IsS121.set_0 | apply IsS121.set_1 | apply IsS121.set_2) | exact HI0.out)); (case side2 => repeat (first | (with_reducible first | exact HB.out | apply below_alloc | apply pw_below_drewN | apply below_drew1 | refine below_set ?_ (IsS121.ge HI0.out)) | exact HB.out)); rintro e w14 ⟨rfl, hi, hb, hk⟩; have n0_ := Aside0.mk (KeepBut.trans (by repeat (first | (with_reducible first | exact HK.out | apply KeepBut.set_ | apply keep_drewN | apply keep_drew | apply keep_alloc) | exact HK.out)) hk (.inl rfl)); have n1_ := Aside0.mk (hb); have n2_ := Aside0.mk (hi); clear HK; clear HB; clear HI0; have HK := n0_; have HB := n1_; have HI0 := n2_; clear n0_ n1_ n2_; (try clear hb); (try clear hb2); (try clear hk); (try clear hi); obtain ⟨HGz15, hgz15⟩ := HI0.out; have hcz15_0 := cellS121_0 HGz15; have hcz15_1 := cellS121_1 HGz15; have hcz15_2 := cellS121_2 HGz15; have hfz15_0 := blk_frozen HGz15 0; have hfz15_1 := blk_frozen HGz15 1; have hfz15_2 := blk_frozen HGz15 2; clear HGz15 hgz15)); try go_wp2_with (first | (go_at_call 110; (with_reducible refine (octet_Cursor_ready.calls g s0_0 s0_1 s0_2 true t292 t293 t294 w0 _ ?side1 ?side2 A3.out).mono ?_); (case side1 => repeat (first | (with_reducible first | exact HI0.out | apply IsS121.alloc | apply IsS121.drewN | apply IsS121.drew | apply IsS121.set_0 | apply IsS121.set_1 | apply IsS121.set_2) | exact HI0.out)); (case side2 => repeat (first | (with_reducible first | exact HB.out | apply below_alloc | apply pw_below_drewN | apply below_drew1 | refine below_set ?_ (IsS121.ge HI0.out)) | exact HB.out)); rintro e w13 ⟨rfl, hi, hb, hk⟩; have n0_ := Aside0.mk (KeepBut.trans (by repeat (first | (with_reducible first | exact HK.out | apply KeepBut.set_ | apply keep_drewN | apply keep_drew | apply keep_alloc) | exact HK.out)) hk (.inl rfl)); have n1_ := Aside0.mk (hb); have n2_ := Aside0.mk (hi); clear HK; clear HB; clear HI0; have HK := n0_; have HB := n1_; have HI0 := n2_; clear n0_ n1_ n2_; (try clear hb); (try clear hb2); (try clear hk); (try clear hi)) | (go_at_call 111; (with_reducible refine (octet_Cursor_has.calls g t292 t293 t294 a1 false t296 t297 t298 w0 _ ?side1 ?side2 A5.out).mono ?_); (case side1 => repeat (first | (with_reducible first | exact HI0.out | apply IsS121.alloc | apply IsS121.drewN | apply IsS121.drew | apply IsS121.set_0 | apply IsS121.set_1 | apply IsS121.set_2) | exact HI0.out)); (case side2 => repeat (first | (with_reducible first | exact HB.out | apply below_alloc | apply pw_below_drewN | apply below_drew1 | refine below_set ?_ (IsS121.ge HI0.out)) | exact HB.out)); rintro e w14 ⟨rfl, hi, hb, hk⟩; have n0_ := Aside0.mk (KeepBut.trans (by repeat (first | (with_reducible first | exact HK.out | apply KeepBut.set_ | apply keep_drewN | apply keep_drew | apply keep_alloc) | exact HK.out)) hk (.inl rfl)); have n1_ := Aside0.mk (hb); have n2_ := Aside0.mk (hi); clear HK; clear HB; clear HI0; have HK := n0_; have HB := n1_; have HI0 := n2_; clear n0_ n1_ n2_; (try clear hb); (try clear hb2); (try clear hk); (try clear hi); obtain ⟨HGz15, hgz15⟩ := HI0.out; have hcz15_0 := cellS121_0 HGz15; have hcz15_1 := cellS121_1 HGz15; have hcz15_2 := cellS121_2 HGz15; have hfz15_0 := blk_frozen HGz15 0; have hfz15_1 := blk_frozen HGz15 1; have hfz15_2 := blk_frozen HGz15 2; clear HGz15 hgz15)))
      go_ret
      exact ⟨by first | rfl | (simp [errW_none, errW_some] <;> rfl) | (simp [*, errW_none, errW_some] <;> rfl), by repeat (first | (with_reducible first | exact HI0.out | apply IsS121.alloc | apply IsS121.drewN | apply IsS121.drew | apply IsS121.set_0 | apply IsS121.set_1 | apply IsS121.set_2) | exact HI0.out), by repeat (first | (with_reducible first | exact HB.out | apply below_alloc | apply pw_below_drewN | apply below_drew1 | refine below_set ?_ (IsS121.ge HI0.out)) | exact HB.out), by repeat (first | (with_reducible first | exact HK.out | apply KeepBut.set_ | apply keep_drewN | apply keep_drew | apply keep_alloc) | exact HK.out)⟩
  · replace c4 := Bool.eq_false_iff.mpr c4
    subst c4
    have H1 : (some ((⟨#[]⟩ : ByteArray), t292, t293, t294)) = some (r1, r2, r3, r4) := by rw [if_neg (show ¬ (false = true) by decide)] at H; exact H
    clear H
    have H := H1
    clear H1
    simp only [Option.some.injEq, Prod.mk.injEq] at H
    obtain ⟨rfl, rfl, rfl, rfl⟩ := H
    go_enter Try.func97, Try.ntmps97
    go_wp2_with (first | (go_at_call 110; (with_reducible refine (octet_Cursor_ready.calls g s0_0 s0_1 s0_2 false t292 t293 t294 w0 _ ?side1 ?side2 A3.out).mono ?_); (case side1 => repeat (first | (with_reducible first | exact HI0.out | apply IsS121.alloc | apply IsS121.drewN | apply IsS121.drew | apply IsS121.set_0 | apply IsS121.set_1 | apply IsS121.set_2) | exact HI0.out)); (case side2 => repeat (first | (with_reducible first | exact HB.out | apply below_alloc | apply pw_below_drewN | apply below_drew1 | refine below_set ?_ (IsS121.ge HI0.out)) | exact HB.out)); rintro e w16 ⟨rfl, hi, hb, hk⟩; have n0_ := Aside0.mk (KeepBut.trans (by repeat (first | (with_reducible first | exact HK.out | apply KeepBut.set_ | apply keep_drewN | apply keep_drew | apply keep_alloc) | exact HK.out)) hk (.inl rfl)); have n1_ := Aside0.mk (hb); have n2_ := Aside0.mk (hi); clear HK; clear HB; clear HI0; have HK := n0_; have HB := n1_; have HI0 := n2_; clear n0_ n1_ n2_; (try clear hb); (try clear hb2); (try clear hk); (try clear hi)))
    repeat (go_quiet (first | (go_at_call 110; (with_reducible refine (octet_Cursor_ready.calls g s0_0 s0_1 s0_2 false t292 t293 t294 w0 _ ?side1 ?side2 A3.out).mono ?_); (case side1 => repeat (first | (with_reducible first | exact HI0.out | apply IsS121.alloc | apply IsS121.drewN | apply IsS121.drew | apply IsS121.set_0 | apply IsS121.set_1 | apply IsS121.set_2) | exact HI0.out)); (case side2 => repeat (first | (with_reducible first | exact HB.out | apply below_alloc | apply pw_below_drewN | apply below_drew1 | refine below_set ?_ (IsS121.ge HI0.out)) | exact HB.out)); rintro e w16 ⟨rfl, hi, hb, hk⟩; have n0_ := Aside0.mk (KeepBut.trans (by repeat (first | (with_reducible first | exact HK.out | apply KeepBut.set_ | apply keep_drewN | apply keep_drew | apply keep_alloc) | exact HK.out)) hk (.inl rfl)); have n1_ := Aside0.mk (hb); have n2_ := Aside0.mk (hi); clear HK; clear HB; clear HI0; have HK := n0_; have HB := n1_; have HI0 := n2_; clear n0_ n1_ n2_; (try clear hb); (try clear hb2); (try clear hk); (try clear hi))); try go_wp2_with (first | (go_at_call 110; (with_reducible refine (octet_Cursor_ready.calls g s0_0 s0_1 s0_2 false t292 t293 t294 w0 _ ?side1 ?side2 A3.out).mono ?_); (case side1 => repeat (first | (with_reducible first | exact HI0.out | apply IsS121.alloc | apply IsS121.drewN | apply IsS121.drew | apply IsS121.set_0 | apply IsS121.set_1 | apply IsS121.set_2) | exact HI0.out)); (case side2 => repeat (first | (with_reducible first | exact HB.out | apply below_alloc | apply pw_below_drewN | apply below_drew1 | refine below_set ?_ (IsS121.ge HI0.out)) | exact HB.out)); rintro e w16 ⟨rfl, hi, hb, hk⟩; have n0_ := Aside0.mk (KeepBut.trans (by repeat (first | (with_reducible first | exact HK.out | apply KeepBut.set_ | apply keep_drewN | apply keep_drew | apply keep_alloc) | exact HK.out)) hk (.inl rfl)); have n1_ := Aside0.mk (hb); have n2_ := Aside0.mk (hi); clear HK; clear HB; clear HI0; have HK := n0_; have HB := n1_; have HI0 := n2_; clear n0_ n1_ n2_; (try clear hb); (try clear hb2); (try clear hk); (try clear hi))))
    go_ret
    exact ⟨by first | rfl | (simp [errW_none, errW_some] <;> rfl) | (simp [*, errW_none, errW_some] <;> rfl), by repeat (first | (with_reducible first | exact HI0.out | apply IsS121.alloc | apply IsS121.drewN | apply IsS121.drew | apply IsS121.set_0 | apply IsS121.set_1 | apply IsS121.set_2) | exact HI0.out), by repeat (first | (with_reducible first | exact HB.out | apply below_alloc | apply pw_below_drewN | apply below_drew1 | refine below_set ?_ (IsS121.ge HI0.out)) | exact HB.out), by repeat (first | (with_reducible first | exact HK.out | apply KeepBut.set_ | apply keep_drewN | apply keep_drew | apply keep_alloc) | exact HK.out)⟩

end Go.Proofs.Ytngmipfobcaojaa.HA
end

-- YtngmipfobcaojaaHA75
section
-- Written by hp.py (a driver over the kit's print). Not trusted: Lean checks it.
namespace Go.Proofs.Ytngmipfobcaojaa.HA
open Go.RowKit Go.Proofs.YtngmipfobcaojaaW.PrintWords Go.Proofs.YtngmipfobcaojaaW.PrintLast Go.Proofs.YtngmipfobcaojaaW.PrintMore
attribute [local go_sem] max2_int min2_int max_two min_two max_three min_three max_four min_four   -- for this text's walks alone
set_option linter.unusedVariables false
set_option linter.unusedSimpArgs false

/-! ### octet_Cursor_Number: function 77 -/
def octet_Cursor_Number.f (k : Nat) (s0_0 : ByteArray) (s0_1 : Int) (s0_2 : Int) (a1 : Int) : Option (Int × ByteArray × Int × Int) := (octet_Cursor_Take.f s0_0 s0_1 s0_2 a1).bind fun bt299 => ((octet_Get.f k bt299.1).bind fun t303 => (some (t303, bt299.2.1, bt299.2.2.1, bt299.2.2.2)))
theorem octet_Cursor_Number.mono : ∀ a0 a1 a2 a3 k, LeO (octet_Cursor_Number.f k a0 a1 a2 a3) (octet_Cursor_Number.f (k + 1) a0 a1 a2 a3) := by
  intro a0 a1 a2 a3 k
  unfold octet_Cursor_Number.f
  repeat' first
      | (with_reducible exact octet_Get.mono _ _)
      | (with_reducible exact LeO.refl _)
      | (with_reducible exact LeO.none _)
      | (with_reducible refine LeO.ite ?_ ?_)
      | (with_reducible refine LeO.bind ?_ (fun _ => ?_))
      | exact octet_Get.mono _ _
      | exact LeO.none _
      | refine LeO.ite ?_ ?_
      | refine LeO.bind ?_ (fun _ => ?_)
set_option maxHeartbeats 8000000 in
set_option maxRecDepth 100000 in
theorem octet_Cursor_Number.calls (k : Nat) (g : Nat) (s0_0 : ByteArray) (s0_1 : Int) (s0_2 : Int) (a1 : Int) (r1 : Int) (r2 : ByteArray) (r3 : Int) (r4 : Int) (w0 w : World) (hI : IsS121 w0 w g s0_0 s0_1 s0_2) (hB : Below w0.heap.size w0 w) (h : octet_Cursor_Number.f k s0_0 s0_1 s0_2 a1 = some (r1, r2, r3, r4)) :
    Calls Try.prog 77 #[.pointer (some ⟨g, 0, none⟩), .int .i64 a1] w fun e w' => e = .returned (.int .u64 r1) ∧ IsS121 w0 w' g r2 r3 r4 ∧ Below w0.heap.size w0 w' ∧ KeepBut w w' g none := by
  have HI0 := Aside0.mk hI
  have HK := Aside0.mk (KeepBut.refl w g none)
  have HL := Aside0.mk hB.size
  clear hI
  have HW0 := Aside0.mk hB.size
  have HB := Aside0.mk hB
  clear hB
  have H : ((octet_Cursor_Take.f s0_0 s0_1 s0_2 a1).bind fun bt299 => ((octet_Get.f k bt299.1).bind fun t303 => (some (t303, bt299.2.1, bt299.2.2.1, bt299.2.2.2)))) = some (r1, r2, r3, r4) := h
  clear h
  replace H := Option.bind_eq_some_iff.mp H
  obtain ⟨⟨t299, t300, t301, t302⟩, A30, H⟩ := H
  replace H : ((octet_Get.f k t299).bind fun t303 => (some (t303, t300, t301, t302))) = some (r1, r2, r3, r4) := H
  have A3 := Aside0.mk A30
  clear A30
  replace H := Option.bind_eq_some_iff.mp H
  obtain ⟨t303, A40, H⟩ := H
  replace H : (some (t303, t300, t301, t302)) = some (r1, r2, r3, r4) := H
  have A4 := Aside0.mk A40
  clear A40
  simp only [Option.some.injEq, Prod.mk.injEq] at H
  obtain ⟨rfl, rfl, rfl, rfl⟩ := H
  go_enter Try.func77, Try.ntmps77
  go_wp2_with (first | ((with_reducible refine gate_callee (f := 97) rfl ?_); refine goesL_ (some 7) rfl rfl Try.func97 (by kernel_rfl) rfl #[.pointer (some ⟨g, 0, none⟩), .int .i64 a1] rfl (by (try simp only [List.map_toArray, List.map_cons, List.map_nil]); first | done | rfl | (simp only [List.length_drop, List.length_take]; rfl)) ?_; (with_reducible refine (octet_Cursor_Take.calls g s0_0 s0_1 s0_2 a1 t299 t300 t301 t302 w0 _ ?side1 ?side2 A3.out).mono ?_); (case side1 => repeat (first | (with_reducible first | exact HI0.out | apply IsS121.alloc | apply IsS121.drewN | apply IsS121.drew | apply IsS121.set_0 | apply IsS121.set_1 | apply IsS121.set_2) | exact HI0.out)); (case side2 => repeat (first | (with_reducible first | exact HB.out | apply below_alloc | apply pw_below_drewN | apply below_drew1 | refine below_set ?_ (IsS121.ge HI0.out)) | exact HB.out)); rintro e w5 ⟨rfl, hi, hb, hk⟩; refine ⟨_, rfl, ?_⟩; have n0_ := Aside0.mk (KeepBut.trans (by repeat (first | (with_reducible first | exact HK.out | apply KeepBut.set_ | apply keep_drewN | apply keep_drew | apply keep_alloc) | exact HK.out)) hk (.inl rfl)); have n1_ := Aside0.mk (hb); have n2_ := Aside0.mk (hi); clear HK; clear HB; clear HI0; have HK := n0_; have HB := n1_; have HI0 := n2_; clear n0_ n1_ n2_; (try clear hb); (try clear hb2); (try clear hk); (try clear hi)) | ((with_reducible refine gate_callee (f := 96) rfl ?_); refine goesL_ (some 8) rfl rfl Try.func96 (by kernel_rfl) rfl #[.string t299] rfl (by (try simp only [List.map_toArray, List.map_cons, List.map_nil]); first | done | rfl | (simp only [List.length_drop, List.length_take]; rfl)) ?_; (with_reducible refine (octet_Get.calls k t299 t303 _ A4.out).mono ?_); rintro e w' ⟨rfl, ⟨nd, rfl⟩⟩; refine ⟨_, rfl, ?_⟩))
  go_ret
  exact ⟨by first | rfl | (simp [errW_none, errW_some] <;> rfl) | (simp [*, errW_none, errW_some] <;> rfl), by repeat (first | (with_reducible first | exact HI0.out | apply IsS121.alloc | apply IsS121.drewN | apply IsS121.drew | apply IsS121.set_0 | apply IsS121.set_1 | apply IsS121.set_2) | exact HI0.out), by repeat (first | (with_reducible first | exact HB.out | apply below_alloc | apply pw_below_drewN | apply below_drew1 | refine below_set ?_ (IsS121.ge HI0.out)) | exact HB.out), by repeat (first | (with_reducible first | exact HK.out | apply KeepBut.set_ | apply keep_drewN | apply keep_drew | apply keep_alloc) | exact HK.out)⟩

end Go.Proofs.Ytngmipfobcaojaa.HA
end

-- YtngmipfobcaojaaHA69
section
-- Written by hp.py (a driver over the kit's print). Not trusted: Lean checks it.
namespace Go.Proofs.Ytngmipfobcaojaa.HA
open Go.RowKit Go.Proofs.YtngmipfobcaojaaW.PrintWords Go.Proofs.YtngmipfobcaojaaW.PrintLast Go.Proofs.YtngmipfobcaojaaW.PrintMore
attribute [local go_sem] max2_int min2_int max_two min_two max_three min_three max_four min_four   -- for this text's walks alone
set_option linter.unusedVariables false
set_option linter.unusedSimpArgs false

/-! ### octet_Cursor_Rest: function 95 -/
def octet_Cursor_Rest.f (s0_0 : ByteArray) (s0_1 : Int) (s0_2 : Int) : Option (ByteArray × ByteArray × Int × Int) := if 0 ≤ s0_1 then (if s0_1 ≤ (s0_0.size : Int) then (some (s0_0.extract (s0_1 : Int).toNat s0_0.size, s0_0, s0_1, s0_2)) else (none)) else (none)
set_option maxHeartbeats 8000000 in
set_option maxRecDepth 100000 in
theorem octet_Cursor_Rest.calls (g : Nat) (s0_0 : ByteArray) (s0_1 : Int) (s0_2 : Int) (r1 : ByteArray) (r2 : ByteArray) (r3 : Int) (r4 : Int) (w0 w : World) (hI : IsS121 w0 w g s0_0 s0_1 s0_2) (hB : Below w0.heap.size w0 w) (h : octet_Cursor_Rest.f s0_0 s0_1 s0_2 = some (r1, r2, r3, r4)) :
    Calls Try.prog 95 #[.pointer (some ⟨g, 0, none⟩)] w fun e w' => e = .returned (.string r1) ∧ IsS121 w0 w' g r2 r3 r4 ∧ Below w0.heap.size w0 w' ∧ KeepBut w w' g none := by
  have HI0 := Aside0.mk hI
  have HK := Aside0.mk (KeepBut.refl w g none)
  have HL := Aside0.mk hB.size
  clear hI
  have HW0 := Aside0.mk hB.size
  have HB := Aside0.mk hB
  clear hB
  have H : (if 0 ≤ s0_1 then (if s0_1 ≤ (s0_0.size : Int) then (some (s0_0.extract (s0_1 : Int).toNat s0_0.size, s0_0, s0_1, s0_2)) else (none)) else (none)) = some (r1, r2, r3, r4) := h
  clear h
  by_cases c2 : 0 ≤ s0_1
  · rw [if_pos c2] at H
    have c2b0 := eq_true c2
    have c2b1 : decide (0 ≤ s0_1) = true := decide_eq_true c2
    clear c2
    by_cases c3 : s0_1 ≤ (s0_0.size : Int)
    · rw [if_pos c3] at H
      have c3b0 := eq_true c3
      have c3b1 : decide (s0_1 ≤ (s0_0.size : Int)) = true := decide_eq_true c3
      clear c3
      simp only [Option.some.injEq, Prod.mk.injEq] at H
      obtain ⟨rfl, rfl, rfl, rfl⟩ := H
      obtain ⟨HGz4, hgz4⟩ := HI0.out
      have hcz4_0 := cellS121_0 HGz4
      have hcz4_1 := cellS121_1 HGz4
      have hcz4_2 := cellS121_2 HGz4
      have hfz4_0 := blk_frozen HGz4 0
      have hfz4_1 := blk_frozen HGz4 1
      have hfz4_2 := blk_frozen HGz4 2
      clear HGz4 hgz4
      go_enter Try.func95, Try.ntmps95
      go_wp2
      repeat (go_quiet (fail); try go_wp2)
      go_ret
      exact ⟨by first | rfl | (simp [errW_none, errW_some] <;> rfl) | (simp [*, errW_none, errW_some] <;> rfl), by repeat (first | (with_reducible first | exact HI0.out | apply IsS121.alloc | apply IsS121.drewN | apply IsS121.drew | apply IsS121.set_0 | apply IsS121.set_1 | apply IsS121.set_2) | exact HI0.out), by repeat (first | (with_reducible first | exact HB.out | apply below_alloc | apply pw_below_drewN | apply below_drew1 | refine below_set ?_ (IsS121.ge HI0.out)) | exact HB.out), by repeat (first | (with_reducible first | exact HK.out | apply KeepBut.set_ | apply keep_drewN | apply keep_drew | apply keep_alloc) | exact HK.out)⟩
    · rw [if_neg c3] at H
      exact absurd H (by simp)
  · rw [if_neg c2] at H
    exact absurd H (by simp)

end Go.Proofs.Ytngmipfobcaojaa.HA
end

-- YtngmipfobcaojaaHA70
section
-- Written by hp.py (a driver over the kit's print). Not trusted: Lean checks it.
namespace Go.Proofs.Ytngmipfobcaojaa.HA
open Go.RowKit Go.Proofs.YtngmipfobcaojaaW.PrintWords Go.Proofs.YtngmipfobcaojaaW.PrintLast Go.Proofs.YtngmipfobcaojaaW.PrintMore
attribute [local go_sem] max2_int min2_int max_two min_two max_three min_three max_four min_four   -- for this text's walks alone
set_option linter.unusedVariables false
set_option linter.unusedSimpArgs false

/-! ### octet_Cursor_Left: function 76 -/
def octet_Cursor_Left.f (s0_0 : ByteArray) (s0_1 : Int) (s0_2 : Int) : Option (Int × ByteArray × Int × Int) := (octet_Cursor_Rest.f s0_0 s0_1 s0_2).bind fun bt287 => (some ((bt287.1.size : Int), bt287.2.1, bt287.2.2.1, bt287.2.2.2))
set_option maxHeartbeats 8000000 in
set_option maxRecDepth 100000 in
theorem octet_Cursor_Left.calls (g : Nat) (s0_0 : ByteArray) (s0_1 : Int) (s0_2 : Int) (r1 : Int) (r2 : ByteArray) (r3 : Int) (r4 : Int) (w0 w : World) (hI : IsS121 w0 w g s0_0 s0_1 s0_2) (hB : Below w0.heap.size w0 w) (h : octet_Cursor_Left.f s0_0 s0_1 s0_2 = some (r1, r2, r3, r4)) :
    Calls Try.prog 76 #[.pointer (some ⟨g, 0, none⟩)] w fun e w' => e = .returned (.int .i64 r1) ∧ IsS121 w0 w' g r2 r3 r4 ∧ Below w0.heap.size w0 w' ∧ KeepBut w w' g none := by
  have HI0 := Aside0.mk hI
  have HK := Aside0.mk (KeepBut.refl w g none)
  have HL := Aside0.mk hB.size
  clear hI
  have HW0 := Aside0.mk hB.size
  have HB := Aside0.mk hB
  clear hB
  have H : ((octet_Cursor_Rest.f s0_0 s0_1 s0_2).bind fun bt287 => (some ((bt287.1.size : Int), bt287.2.1, bt287.2.2.1, bt287.2.2.2))) = some (r1, r2, r3, r4) := h
  clear h
  replace H := Option.bind_eq_some_iff.mp H
  obtain ⟨⟨t287, t288, t289, t290⟩, A20, H⟩ := H
  replace H : (some ((t287.size : Int), t288, t289, t290)) = some (r1, r2, r3, r4) := H
  have A2 := Aside0.mk A20
  clear A20
  simp only [Option.some.injEq, Prod.mk.injEq] at H
  obtain ⟨rfl, rfl, rfl, rfl⟩ := H
  go_enter Try.func76, Try.ntmps76
  go_wp2_with (first | ((with_reducible refine gate_callee (f := 95) rfl ?_); refine goesL_ (some 4) rfl rfl Try.func95 (by kernel_rfl) rfl #[.pointer (some ⟨g, 0, none⟩)] rfl (by (try simp only [List.map_toArray, List.map_cons, List.map_nil]); first | done | rfl | (simp only [List.length_drop, List.length_take]; rfl)) ?_; (with_reducible refine (octet_Cursor_Rest.calls g s0_0 s0_1 s0_2 t287 t288 t289 t290 w0 _ ?side1 ?side2 A2.out).mono ?_); (case side1 => repeat (first | (with_reducible first | exact HI0.out | apply IsS121.alloc | apply IsS121.drewN | apply IsS121.drew | apply IsS121.set_0 | apply IsS121.set_1 | apply IsS121.set_2) | exact HI0.out)); (case side2 => repeat (first | (with_reducible first | exact HB.out | apply below_alloc | apply pw_below_drewN | apply below_drew1 | refine below_set ?_ (IsS121.ge HI0.out)) | exact HB.out)); rintro e w3 ⟨rfl, hi, hb, hk⟩; refine ⟨_, rfl, ?_⟩; have n0_ := Aside0.mk (KeepBut.trans (by repeat (first | (with_reducible first | exact HK.out | apply KeepBut.set_ | apply keep_drewN | apply keep_drew | apply keep_alloc) | exact HK.out)) hk (.inl rfl)); have n1_ := Aside0.mk (hb); have n2_ := Aside0.mk (hi); clear HK; clear HB; clear HI0; have HK := n0_; have HB := n1_; have HI0 := n2_; clear n0_ n1_ n2_; (try clear hb); (try clear hb2); (try clear hk); (try clear hi)))
  go_ret
  exact ⟨by first | rfl | (simp [errW_none, errW_some] <;> rfl) | (simp [*, errW_none, errW_some] <;> rfl), by repeat (first | (with_reducible first | exact HI0.out | apply IsS121.alloc | apply IsS121.drewN | apply IsS121.drew | apply IsS121.set_0 | apply IsS121.set_1 | apply IsS121.set_2) | exact HI0.out), by repeat (first | (with_reducible first | exact HB.out | apply below_alloc | apply pw_below_drewN | apply below_drew1 | refine below_set ?_ (IsS121.ge HI0.out)) | exact HB.out), by repeat (first | (with_reducible first | exact HK.out | apply KeepBut.set_ | apply keep_drewN | apply keep_drew | apply keep_alloc) | exact HK.out)⟩

end Go.Proofs.Ytngmipfobcaojaa.HA
end

-- YtngmipfobcaojaaHA76
section
-- Written by hp.py (a driver over the kit's print). Not trusted: Lean checks it.
namespace Go.Proofs.Ytngmipfobcaojaa.HA
open Go.RowKit Go.Proofs.YtngmipfobcaojaaW.PrintWords Go.Proofs.YtngmipfobcaojaaW.PrintLast Go.Proofs.YtngmipfobcaojaaW.PrintMore
attribute [local go_sem] max2_int min2_int max_two min_two max_three min_three max_four min_four   -- for this text's walks alone
set_option linter.unusedVariables false
set_option linter.unusedSimpArgs false

/-! ### octet_Cursor_Err: function 78 -/
def octet_Cursor_Err.f (s0_0 : ByteArray) (s0_1 : Int) (s0_2 : Int) : Option (Int × ByteArray × Int × Int) := some (s0_2, s0_0, s0_1, s0_2)
set_option maxHeartbeats 8000000 in
set_option maxRecDepth 100000 in
theorem octet_Cursor_Err.calls (g : Nat) (s0_0 : ByteArray) (s0_1 : Int) (s0_2 : Int) (r1 : Int) (r2 : ByteArray) (r3 : Int) (r4 : Int) (w0 w : World) (hI : IsS121 w0 w g s0_0 s0_1 s0_2) (hB : Below w0.heap.size w0 w) (h : octet_Cursor_Err.f s0_0 s0_1 s0_2 = some (r1, r2, r3, r4)) :
    Calls Try.prog 78 #[.pointer (some ⟨g, 0, none⟩)] w fun e w' => e = .returned (.int .i64 r1) ∧ IsS121 w0 w' g r2 r3 r4 ∧ Below w0.heap.size w0 w' ∧ KeepBut w w' g none := by
  have HI0 := Aside0.mk hI
  have HK := Aside0.mk (KeepBut.refl w g none)
  have HL := Aside0.mk hB.size
  clear hI
  have HW0 := Aside0.mk hB.size
  have HB := Aside0.mk hB
  clear hB
  have H : (some (s0_2, s0_0, s0_1, s0_2)) = some (r1, r2, r3, r4) := h
  clear h
  simp only [Option.some.injEq, Prod.mk.injEq] at H
  obtain ⟨rfl, rfl, rfl, rfl⟩ := H
  obtain ⟨HGz2, hgz2⟩ := HI0.out
  have hcz2_0 := cellS121_0 HGz2
  have hcz2_1 := cellS121_1 HGz2
  have hcz2_2 := cellS121_2 HGz2
  have hfz2_0 := blk_frozen HGz2 0
  have hfz2_1 := blk_frozen HGz2 1
  have hfz2_2 := blk_frozen HGz2 2
  clear HGz2 hgz2
  go_enter Try.func78, Try.ntmps78
  go_wp2
  go_ret
  exact ⟨by first | rfl | (simp [errW_none, errW_some] <;> rfl) | (simp [*, errW_none, errW_some] <;> rfl), by repeat (first | (with_reducible first | exact HI0.out | apply IsS121.alloc | apply IsS121.drewN | apply IsS121.drew | apply IsS121.set_0 | apply IsS121.set_1 | apply IsS121.set_2) | exact HI0.out), by repeat (first | (with_reducible first | exact HB.out | apply below_alloc | apply pw_below_drewN | apply below_drew1 | refine below_set ?_ (IsS121.ge HI0.out)) | exact HB.out), by repeat (first | (with_reducible first | exact HK.out | apply KeepBut.set_ | apply keep_drewN | apply keep_drew | apply keep_alloc) | exact HK.out)⟩

end Go.Proofs.Ytngmipfobcaojaa.HA
end

-- YtngmipfobcaojaaHAhGetLaw
section
/- octet.Get and the cursor's methods, told without rounds. -/
-- FOR (*polyglot/octet.Cursor).Number
namespace Go.Proofs.Ytngmipfobcaojaa.HA
open Go.RowKit Go.Proofs.YtngmipfobcaojaaW.PrintWords Go.Proofs.YtngmipfobcaojaaW.PrintLast Go.Proofs.YtngmipfobcaojaaW.PrintMore
set_option linter.unusedVariables false
set_option linter.unusedSimpArgs false
theorem w64g (n : Int) : -9223372036854775808 ≤ n → n ≤ 9223372036854775807 → wrap64 n = n := fun h1 h2 => by unfold wrap64; omega
def getF (x b : Int) : Int := Go.bits .or .u64 (IntKind.u64.wrap (x * 256)) (IntKind.u64.wrap b)
def lastS (s : ByteArray) : ByteArray := if s.size > 8 then s.extract (s.size - 8) s.size else s
def getS (s : ByteArray) : Int := (bytesOf (lastS s)).foldl getF 0
theorem get_l0 (s : ByteArray) (hs : s.size ≤ 8) : ∀ (d k i : Nat) (x : Int), i + d = s.size → octet_Get.l0 (k + d + 1) s x s.size i = some (((bytesOf s).drop i).foldl getF x) := by
  intro d
  induction d with
  | zero =>
    intro k i x hi
    rw [octet_Get.l0.eq_def]
    simp only []
    rw [if_neg (by omega), List.drop_of_length_le (by rw [bytesOf_length]; omega)]
    rfl
  | succ d ih =>
    intro k i x hi
    rw [show k + (d + 1) + 1 = (k + d + 1) + 1 by omega, octet_Get.l0.eq_def]
    simp only []
    rw [if_pos (by omega), if_pos (by omega), if_pos (by omega), w64g _ (by omega) (by omega), show (i : Int) + 1 = ((i + 1 : Nat) : Int) by omega, ih k (i + 1) _ (by omega)]
    have hl : i < (bytesOf s).length := by rw [bytesOf_length]; omega
    rw [List.drop_eq_getElem_cons hl, List.foldl_cons]
    have e : bt s (i : Int) = (bytesOf s)[i]'hl := by
      rw [← rd_bytesOf]
      unfold rd
      rw [List.getD_eq_getElem?_getD, Int.toNat_natCast, List.getElem?_eq_getElem hl]
      rfl
    rw [← e]
    rfl
theorem get_f (k : Nat) (s : ByteArray) (hk : 10 ≤ k) (hs : s.size ≤ 9000000000000000000) : octet_Get.f k s = some (getS s) := by
  have hj : ∀ s : ByteArray, s.size ≤ 8 → octet_Get.j0 k s = some ((bytesOf s).foldl getF 0) := by
    intro s hs
    obtain ⟨k, rfl⟩ : ∃ m, k = m + 1 := ⟨k - 1, by omega⟩
    rw [octet_Get.j0.eq_def]
    simp only []
    have := get_l0 s hs s.size (k - s.size - 1) 0 0 (by omega)
    rw [show k - s.size - 1 + s.size + 1 = k by omega, List.drop_zero] at this
    exact this
  unfold octet_Get.f getS lastS
  by_cases h : s.size > 8
  · have hw : wrap64 ((s.size : Int) - 8) = ((s.size - 8 : Nat) : Int) := by rw [w64g _ (by omega) (by omega)]; omega
    rw [if_pos (by omega), if_pos h, hw, if_pos (by omega), if_pos (by omega), Int.toNat_natCast]
    exact hj _ (by simp; omega)
  · rw [if_neg (by omega), if_neg h]
    exact hj s (by omega)
def takeS (text : ByteArray) (at_ err m : Int) : ByteArray × Int × Int :=
  if err = 0 then (if 0 ≤ m ∧ m ≤ text.size - at_ then (text.extract at_.toNat (at_ + m).toNat, at_ + m, 0) else (⟨#[]⟩, at_, 3)) else (⟨#[]⟩, at_, err)
theorem left_f (text : ByteArray) (at_ err : Int) (h0 : 0 ≤ at_) (h1 : at_ ≤ text.size) : octet_Cursor_Left.f text at_ err = some ((text.size : Int) - at_, text, at_, err) := by
  unfold octet_Cursor_Left.f octet_Cursor_Rest.f
  rw [if_pos h0, if_pos h1]
  simp
  omega
theorem rest_f (text : ByteArray) (at_ err : Int) (h0 : 0 ≤ at_) (h1 : at_ ≤ text.size) : octet_Cursor_Rest.f text at_ err = some (text.extract at_.toNat text.size, text, at_, err) := by
  unfold octet_Cursor_Rest.f
  rw [if_pos h0, if_pos h1]
theorem take_f (text : ByteArray) (at_ err m : Int) (h0 : 0 ≤ at_) (h1 : at_ ≤ text.size) (hs : text.size ≤ 4000000000000000000) :
    octet_Cursor_Take.f text at_ err m = some ((takeS text at_ err m).1, text, (takeS text at_ err m).2.1, (takeS text at_ err m).2.2) := by
  unfold octet_Cursor_Take.f octet_Cursor_ready.f octet_Cursor_has.f takeS
  simp only [Option.bind_some]
  by_cases he : err = 0
  · subst he
    simp only [beq_self_eq_true, if_true]
    have e : wrap64 ((text.size : Int) - at_) = (text.size : Int) - at_ := w64g _ (by omega) (by omega)
    rw [e]
    by_cases hm : m ≥ 0
    · rw [if_pos hm]
      simp only [Option.bind_some]
      by_cases hm2 : m ≤ (text.size : Int) - at_
      · have e2 : wrap64 (at_ + m) = at_ + m := w64g _ (by omega) (by omega)
        rw [decide_eq_true hm2, if_pos rfl, if_pos h0, e2, if_pos (by omega), if_pos (by omega), if_pos ⟨hm, hm2⟩]
      · rw [decide_eq_false hm2, if_neg (by decide), if_neg (fun q => hm2 q.2)]
    · rw [if_neg hm]
      simp only [Option.bind_some]
      rw [if_neg (by decide), if_neg (fun q => hm q.1)]
  · rw [beq_eq_false_iff_ne.2 he, if_neg (by decide), if_neg he]
theorem take_at (text : ByteArray) (at_ err m : Int) (h0 : 0 ≤ at_) (h1 : at_ ≤ text.size) : 0 ≤ (takeS text at_ err m).2.1 ∧ (takeS text at_ err m).2.1 ≤ text.size := by
  unfold takeS
  split
  · split
    · dsimp only; omega
    · exact ⟨h0, h1⟩
  · exact ⟨h0, h1⟩
theorem take_size (text : ByteArray) (at_ err m : Int) (h0 : 0 ≤ at_) (h1 : at_ ≤ text.size) : (takeS text at_ err m).1.size ≤ text.size := by
  unfold takeS
  split
  · split
    · simp; omega
    · exact Nat.zero_le _
  · exact Nat.zero_le _
theorem err_f (text : ByteArray) (at_ err : Int) : octet_Cursor_Err.f text at_ err = some (err, text, at_, err) := rfl
theorem number_f (k : Nat) (text : ByteArray) (at_ err m : Int) (hk : 10 ≤ k) (h0 : 0 ≤ at_) (h1 : at_ ≤ text.size) (hs : text.size ≤ 4000000000000000000) :
    octet_Cursor_Number.f k text at_ err m = some (getS (takeS text at_ err m).1, text, (takeS text at_ err m).2.1, (takeS text at_ err m).2.2) := by
  unfold octet_Cursor_Number.f
  rw [take_f text at_ err m h0 h1 hs]
  simp only [Option.bind_some]
  rw [get_f k _ hk (by have := take_size text at_ err m h0 h1; omega)]
  rfl
end Go.Proofs.Ytngmipfobcaojaa.HA
end

-- YtngmipfobcaojaaHAhVarRead
section
/- varint.Read, told without rounds. -/
-- FOR polyglot/varint.Read
namespace Go.Proofs.Ytngmipfobcaojaa.HA
open Go.RowKit Go.Proofs.YtngmipfobcaojaaW.PrintWords Go.Proofs.YtngmipfobcaojaaW.PrintLast Go.Proofs.YtngmipfobcaojaaW.PrintMore
set_option linter.unusedVariables false
set_option linter.unusedSimpArgs false
theorem w64v (n : Int) : -9223372036854775808 ≤ n → n ≤ 9223372036854775807 → wrap64 n = n := fun h1 h2 => by unfold wrap64; omega
def byN (s : ByteArray) (i : Nat) : Nat := (bt s (i : Int)).toNat
theorem byN_eq (s : ByteArray) (i : Nat) : bt s (i : Int) = (byN s i : Int) ∧ byN s i < 256 := by
  have := bt_range s (i : Int)
  unfold byN
  omega
/-- The number that begins at byte i, so far acc, the next byte's weight M; d bytes at most. -/
def rdV (s : ByteArray) : Nat → Nat → Nat → Nat → Int × Int × Int
  | 0, _, _, _ => (0, 0, 5)
  | d + 1, i, acc, M =>
    if s.size ≤ i then (0, 0, 3)
    else if byN s i < 128 then (if 0 < i ∧ byN s i = 0 then (0, 0, 5) else (((acc + byN s i * M : Nat) : Int), ((i + 1 : Nat) : Int), 0))
    else rdV s d (i + 1) (acc + (byN s i % 128) * M) (M * 128)
theorem and127 : ∀ b : Fin 256, Go.bits .and .u8 ((b.val : Nat) : Int) 127 = ((b.val % 128 : Nat) : Int) := by decide +kernel
theorem and128 : ∀ b : Fin 256, (Go.bits .and .u8 ((b.val : Nat) : Int) 128 = 0 ↔ b.val < 128) := by decide +kernel
theorem push_n (acc i M b : Nat) (hb : b < 256) (hi : (i = 0 ∧ M = 1) ∨ (i = 1 ∧ M = 128) ∨ (i = 2 ∧ M = 16384) ∨ (i = 3 ∧ M = 2097152)) (ha : acc < 268435456) :
    pushN acc i b = ((acc + b % 128 * M : Nat) : Int) := by
  unfold pushN
  rw [and127 ⟨b, hb⟩]
  have hm : b % 128 < 128 := Nat.mod_lt _ (by omega)
  have hp : ∀ j : Nat, j ≤ 3 → (IntKind.u64.wrap (wrap64 (7 * (j : Int)))).toNat = 7 * j := by
    intro j hj
    rw [w64v _ (by omega) (by omega), IntKind.wrap_u64]
    omega
  rcases hi with ⟨rfl, rfl⟩ | ⟨rfl, rfl⟩ | ⟨rfl, rfl⟩ | ⟨rfl, rfl⟩
  · rw [hp 0 (by omega), show min (7 * 0) 64 = 0 from rfl, w64v ((b % 128 : Nat) : Int) (by omega) (by omega), w64v (((b % 128 : Nat) : Int) * 2 ^ 0) (by omega) (by omega), w64v _ (by omega) (by omega)]
    omega
  · rw [hp 1 (by omega), show min (7 * 1) 64 = 7 from rfl, w64v ((b % 128 : Nat) : Int) (by omega) (by omega), w64v (((b % 128 : Nat) : Int) * 2 ^ 7) (by omega) (by omega), w64v _ (by omega) (by omega)]
    omega
  · rw [hp 2 (by omega), show min (7 * 2) 64 = 14 from rfl, w64v ((b % 128 : Nat) : Int) (by omega) (by omega), w64v (((b % 128 : Nat) : Int) * 2 ^ 14) (by omega) (by omega), w64v _ (by omega) (by omega)]
    omega
  · rw [hp 3 (by omega), show min (7 * 3) 64 = 21 from rfl, w64v ((b % 128 : Nat) : Int) (by omega) (by omega), w64v (((b % 128 : Nat) : Int) * 2 ^ 21) (by omega) (by omega), w64v _ (by omega) (by omega)]
    omega
theorem varread_l0 (s : ByteArray) : ∀ (d k i acc M : Nat), i + d = 4 → d < k → 0 < d → ((i = 0 ∧ M = 1) ∨ (i = 1 ∧ M = 128) ∨ (i = 2 ∧ M = 16384) ∨ (i = 3 ∧ M = 2097152)) → acc < M →
    varint_Read.l0 k s s.size i acc i false false = some (rdV s d i acc M) := by
  intro d
  induction d with
  | zero => intro k i acc M _ _ h; omega
  | succ d ih =>
    intro k i acc M hd hk _ hi ha
    obtain ⟨k, rfl⟩ : ∃ m, k = m + 1 := ⟨k - 1, by omega⟩
    rw [varint_Read.l0.eq_def, rdV]
    simp only []
    by_cases hs : s.size ≤ i
    · rw [if_neg (by omega), if_pos hs]
    rw [if_pos (by omega), if_pos (by omega), if_pos (by omega), if_neg hs]
    obtain ⟨e, hb⟩ := byN_eq s i
    rw [e]
    generalize byN s i = b at *
    unfold varint_Reader_Push.f
    rw [push_n acc i M b hb hi (by omega), w64v ((i : Int) + 1) (by omega) (by omega)]
    have hm : b % 128 < 128 := Nat.mod_lt _ (by omega)
    simp only [Bool.or_self, Bool.false_eq_true, if_false]
    by_cases h8 : b < 128
    · have q := (and128 ⟨b, hb⟩).2 h8
      simp only [] at q
      rw [if_neg (fun x => x q), if_pos h8]
      by_cases hz : b = 0
      · subst hz
        rw [if_pos (show ((0 : Nat) : Int) = 0 from rfl)]
        by_cases h0 : 0 < i
        · rw [if_pos (show (i : Int) + 1 > 1 by omega), if_pos ⟨h0, rfl⟩]
          simp
        · rw [if_neg (show ¬ (i : Int) + 1 > 1 by omega), if_neg (fun x => h0 x.1)]
          simp
      · rw [if_neg (show ¬ (b : Int) = 0 by omega), if_neg (fun x => hz x.2)]
        have : b % 128 = b := Nat.mod_eq_of_lt h8
        rw [this]
        simp
    · have q : ¬ Go.bits .and .u8 ((b : Nat) : Int) 128 = 0 := fun x => h8 ((and128 ⟨b, hb⟩).1 x)
      rw [if_pos q, if_neg h8]
      by_cases h3 : i = 3
      · subst h3
        obtain rfl : d = 0 := by omega
        rw [if_pos (by decide)]
        simp [rdV]
      · rw [if_neg (show ¬ (i : Int) + 1 = 4 by omega)]
        simp only [Option.bind_some, if_true, Bool.false_eq_true, if_false]
        rw [show (i : Int) + 1 = ((i + 1 : Nat) : Int) by omega]
        exact ih k (i + 1) _ (M * 128) (by omega) (by omega) (by omega) (by omega) (by
          rcases hi with ⟨rfl, rfl⟩ | ⟨rfl, rfl⟩ | ⟨rfl, rfl⟩ | ⟨rfl, rfl⟩ <;> omega)
def readVarS (s : ByteArray) : Int × Int × Int := rdV s 4 0 0 1
theorem varread_f (k : Nat) (s : ByteArray) (hk : 4 < k) : varint_Read.f k s = some (readVarS s) := by
  unfold varint_Read.f varint_New.f
  exact varread_l0 s 4 k 0 0 1 rfl hk (by omega) (Or.inl ⟨rfl, rfl⟩) (by omega)
theorem rdV_size (s : ByteArray) : ∀ (d i acc M : Nat), 0 ≤ (rdV s d i acc M).2.1 ∧ (rdV s d i acc M).2.1 ≤ s.size := by
  intro d
  induction d with
  | zero => intro i acc M; simp [rdV]
  | succ d ih =>
    intro i acc M
    rw [rdV]
    split
    · simp
    · split
      · split
        · simp
        · dsimp only; omega
      · exact ih _ _ _
theorem readVar_size (s : ByteArray) : 0 ≤ (readVarS s).2.1 ∧ (readVarS s).2.1 ≤ s.size := rdV_size s 4 0 0 1
end Go.Proofs.Ytngmipfobcaojaa.HA
end

-- YtngmipfobcaojaaHAhSource
section
/- The methods of prop.source: what they read, where the cursor is then. -/
-- FOR (*polyglot/prop.source).need
namespace Go.Proofs.Ytngmipfobcaojaa.HA
open Go.RowKit Go.Proofs.YtngmipfobcaojaaW.PrintWords Go.Proofs.YtngmipfobcaojaaW.PrintLast Go.Proofs.YtngmipfobcaojaaW.PrintMore
set_option linter.unusedVariables false
set_option linter.unusedSimpArgs false
def srcObj (gc : Nat) (id n : Int) (t v : ByteArray) : Obj := .cells #[.pointer (some ⟨gc, 0, none⟩), .int .i64 id, .int .u32 n, .string t, .string v] 105 (0, 0)
structure SrcAt (w0 W : World) (gs gc : Nat) (text : ByteArray) (at_ err : Int) (id n : Int) (t v : ByteArray) : Prop where
  cur : IsS121 w0 W gc text at_ err
  src : W.heap[gs]? = some (srcObj gc id n t v)
  lo : w0.heap.size ≤ gs
  bel : Below w0.heap.size w0 W
def Keep2 (w w' : World) (gs gc : Nat) : Prop := w.heap.size ≤ w'.heap.size ∧ ∀ i, i < w.heap.size → i ≠ gs → i ≠ gc → w'.heap[i]? = w.heap[i]?
theorem Keep2.refl (w : World) (gs gc : Nat) : Keep2 w w gs gc := ⟨Nat.le_refl _, fun _ _ _ _ => rfl⟩
theorem Keep2.trans {a b c : World} {gs gc : Nat} (h : Keep2 a b gs gc) (k : Keep2 b c gs gc) : Keep2 a c gs gc :=
  ⟨Nat.le_trans h.1 k.1, fun i hi h1 h2 => (k.2 i (Nat.lt_of_lt_of_le hi h.1) h1 h2).trans (h.2 i hi h1 h2)⟩
theorem Keep2.transD {a b c : World} {gs gc m : Nat} (h : Keep2 a b gs gc) (k : Keep2 (b.drewN m) c gs gc) : Keep2 a c gs gc :=
  ⟨Nat.le_trans h.1 k.1, fun i hi h1 h2 => (k.2 i (Nat.lt_of_lt_of_le hi h.1) h1 h2).trans (h.2 i hi h1 h2)⟩
theorem Keep2.but {a b c : World} {gs gc : Nat} (h : Keep2 a b gs gc) (k : KeepBut b c gc none) : Keep2 a c gs gc :=
  h.trans ⟨k.1, fun i hi _ h2 => k.2 i hi h2 (by simp)⟩
theorem Keep2.below {a b c : World} {gs gc : Nat} (h : Keep2 a b gs gc) (k : Below b.heap.size b c) : Keep2 a c gs gc :=
  h.trans ⟨k.size, fun i hi _ _ => k.block i hi⟩
theorem Keep2.set {a b : World} {gs gc : Nat} (h : Keep2 a b gs gc) (j : Nat) (u : Value) : Keep2 a (b.setCell ⟨gs, j, none⟩ u) gs gc :=
  h.trans ⟨by simp [World.setCell], fun i _ h1 _ => Below.heap_setCell b ⟨gs, j, none⟩ u i h1⟩
theorem Keep2.setC {a b : World} {gs gc : Nat} (h : Keep2 a b gs gc) (j : Nat) (u : Value) : Keep2 a (b.setCell ⟨gc, j, none⟩ u) gs gc :=
  h.trans ⟨by simp [World.setCell], fun i _ _ h2 => Below.heap_setCell b ⟨gc, j, none⟩ u i h2⟩
section
variable {w0 W : World} {gs gc : Nat} {text : ByteArray} {at_ err id n : Int} {t v : ByteArray}
theorem SrcAt.ne (h : SrcAt w0 W gs gc text at_ err id n t v) : gs ≠ gc := by
  rintro rfl
  have := h.src.symm.trans h.cur.1
  simp [srcObj] at this
theorem SrcAt.ptr (h : SrcAt w0 W gs gc text at_ err id n t v) : W.cell? ⟨gs, 0, none⟩ = some (.pointer (some ⟨gc, 0, none⟩)) := (blk_cell h.src 0).trans rfl
theorem SrcAt.f1 (h : SrcAt w0 W gs gc text at_ err id n t v) : W.cell? ⟨gs, 1, none⟩ = some (.int .i64 id) := (blk_cell h.src 1).trans rfl
theorem SrcAt.f2 (h : SrcAt w0 W gs gc text at_ err id n t v) : W.cell? ⟨gs, 2, none⟩ = some (.int .u32 n) := (blk_cell h.src 2).trans rfl
theorem SrcAt.f3 (h : SrcAt w0 W gs gc text at_ err id n t v) : W.cell? ⟨gs, 3, none⟩ = some (.string t) := (blk_cell h.src 3).trans rfl
theorem SrcAt.f4 (h : SrcAt w0 W gs gc text at_ err id n t v) : W.cell? ⟨gs, 4, none⟩ = some (.string v) := (blk_cell h.src 4).trans rfl
theorem SrcAt.fz (h : SrcAt w0 W gs gc text at_ err id n t v) (i : Nat) : W.frozen? ⟨gs, i, none⟩ = false := blk_frozen h.src i
theorem SrcAt.fzc (h : SrcAt w0 W gs gc text at_ err id n t v) (i : Nat) : W.frozen? ⟨gc, i, none⟩ = false := blk_frozen h.cur.1 i
/-- After a method of the cursor. -/
theorem SrcAt.moved (h : SrcAt w0 W gs gc text at_ err id n t v) {W' : World} {at2 err2 : Int} (hc : IsS121 w0 W' gc text at2 err2) (hb : Below w0.heap.size w0 W') (hk : KeepBut W W' gc none) : SrcAt w0 W' gs gc text at2 err2 id n t v :=
  ⟨hc, (hk.2 gs (blk_lt h.src) h.ne (by simp)).trans h.src, h.lo, hb⟩
theorem SrcAt.grown (h : SrcAt w0 W gs gc text at_ err id n t v) {W' : World} (hb : Below W.heap.size W W') : SrcAt w0 W' gs gc text at_ err id n t v :=
  ⟨h.cur.below hb, blk_below h.src hb, h.lo, below_step h.bel hb⟩
theorem SrcAt.drewN (h : SrcAt w0 W gs gc text at_ err id n t v) (m : Nat) : SrcAt w0 (W.drewN m) gs gc text at_ err id n t v :=
  ⟨h.cur, h.src, h.lo, pw_below_drewN h.bel m⟩
theorem SrcAt.drawn (h : SrcAt w0 W gs gc text at_ err id n t v) {W' : World} (hd : Drawn0 W W') : SrcAt w0 W' gs gc text at_ err id n t v := by
  obtain ⟨⟨m, rfl⟩⟩ := hd
  exact h.drewN m
theorem SrcAt.set2 (h : SrcAt w0 W gs gc text at_ err id n t v) (x : Int) : SrcAt w0 (W.setCell ⟨gs, 2, none⟩ (.int .u32 x)) gs gc text at_ err id x t v :=
  ⟨h.cur.far (p := ⟨gs, 2, none⟩) (fun e => h.ne e.symm) _, blk_put h.src 2 _ rfl, h.lo, below_set h.bel h.lo⟩
theorem SrcAt.set3 (h : SrcAt w0 W gs gc text at_ err id n t v) (x : ByteArray) : SrcAt w0 (W.setCell ⟨gs, 3, none⟩ (.string x)) gs gc text at_ err id n x v :=
  ⟨h.cur.far (p := ⟨gs, 3, none⟩) (fun e => h.ne e.symm) _, blk_put h.src 3 _ rfl, h.lo, below_set h.bel h.lo⟩
theorem SrcAt.set4 (h : SrcAt w0 W gs gc text at_ err id n t v) (x : ByteArray) : SrcAt w0 (W.setCell ⟨gs, 4, none⟩ (.string x)) gs gc text at_ err id n t x :=
  ⟨h.cur.far (p := ⟨gs, 4, none⟩) (fun e => h.ne e.symm) _, blk_put h.src 4 _ rfl, h.lo, below_set h.bel h.lo⟩
end
def failS (err e : Int) : Int := if err = 0 then e else err
def needS (text : ByteArray) (at_ err m : Int) : ByteArray × Int × Int := takeS text at_ (if err = 0 ∧ (m < 0 ∨ m > text.size - at_) then 5 else err) m
theorem need_at (text : ByteArray) (at_ err m : Int) (h0 : 0 ≤ at_) (h1 : at_ ≤ text.size) : 0 ≤ (needS text at_ err m).2.1 ∧ (needS text at_ err m).2.1 ≤ text.size := take_at text at_ _ m h0 h1
theorem need_size (text : ByteArray) (at_ err m : Int) (h0 : 0 ≤ at_) (h1 : at_ ≤ text.size) : (needS text at_ err m).1.size ≤ text.size := take_size text at_ _ m h0 h1
theorem fail_calls (g : Nat) (text : ByteArray) (at_ err e1 : Int) (w0 w : World) (hI : IsS121 w0 w g text at_ err) (hB : Below w0.heap.size w0 w) :
    Calls Try.prog 107 #[.pointer (some ⟨g, 0, none⟩), .int .i64 e1] w fun e w' => e = .returned (.tuple #[]) ∧ IsS121 w0 w' g text at_ (failS err e1) ∧ Below w0.heap.size w0 w' ∧ KeepBut w w' g none := by
  have hr := fun W hI hB => octet_Cursor_ready.calls g text at_ err (err == 0) text at_ err w0 W hI hB rfl
  have HR := Aside0.mk hr
  have HI0 := Aside0.mk hI
  have HB := Aside0.mk hB
  clear hr hI hB
  by_cases he : err = 0
  · have t1 : (err == 0) = true := beq_iff_eq.2 he
    rw [t1] at HR
    rw [show failS err e1 = e1 from if_pos he]
    clear he
    go_enter Try.func107, Try.ntmps107
    go_wp2_with (go_at_call 110; refine (HR.out _ HI0.out HB.out).mono ?_; rintro e w' ⟨rfl, hi, hb, hk⟩; have HI1 := Aside0.mk hi; have HB1 := Aside0.mk hb; have HK1 := Aside0.mk hk; have hf2 := blk_frozen hi.1 2; have hc2 : w'.cell? ⟨g, 2, none⟩ = some (.int .i64 err) := (blk_cell hi.1 2).trans rfl; clear hi hb hk)
    go_end0
    exact ⟨rfl, by repeat (with_reducible first | exact HI1.out | apply IsS121.drewN | apply IsS121.set_2), by repeat (with_reducible first | exact HB1.out | apply pw_below_drewN | refine below_set ?_ (IsS121.ge HI1.out)), by repeat (with_reducible first | exact HK1.out | apply KeepBut.set_ | apply keep_drewN)⟩
  · have t1 : (err == 0) = false := beq_eq_false_iff_ne.2 he
    rw [t1] at HR
    rw [show failS err e1 = err from if_neg he]
    clear he
    go_enter Try.func107, Try.ntmps107
    go_wp2_with (go_at_call 110; refine (HR.out _ HI0.out HB.out).mono ?_; rintro e w' ⟨rfl, hi, hb, hk⟩)
    go_end0
    exact ⟨rfl, by exact hi, by exact hb, by exact hk⟩
set_option maxHeartbeats 2000000 in
set_option maxRecDepth 100000 in
theorem need_calls (w0 w : World) (gs gc : Nat) (text : ByteArray) (at_ err id n : Int) (t v : ByteArray) (m : Int) (hS : SrcAt w0 w gs gc text at_ err id n t v) (h0 : 0 ≤ at_) (h1 : at_ ≤ text.size) (hs : text.size ≤ 4000000000000000000) :
    Calls Try.prog 106 #[.pointer (some ⟨gs, 0, none⟩), .int .i64 m] w fun e w' => e = .returned (.string (needS text at_ err m).1) ∧ SrcAt w0 w' gs gc text (needS text at_ err m).2.1 (needS text at_ err m).2.2 id n t v ∧ Keep2 w w' gs gc := by
  have HS := Aside0.mk hS
  have HK := Aside0.mk (Keep2.refl w gs gc)
  have hp := hS.ptr
  clear hS
  unfold needS
  by_cases he : err = 0
  · have t1 : (err == 0) = true := beq_iff_eq.2 he
    by_cases hm : m < 0
    · have t2 : decide (m < 0) = true := decide_eq_true hm
      rw [if_pos ⟨he, Or.inl hm⟩]
      have ef : failS err 5 = 5 := if_pos he
      clear he hm
      go_enter Try.func106, Try.ntmps106
      go_wp2_with (first | (go_at_call 78; refine (octet_Cursor_Err.calls gc text at_ err err text at_ err w0 _ ?s1 ?s2 rfl).mono ?_; (case s1 => exact HS.out.cur); (case s2 => exact HS.out.bel); rintro e w1 ⟨rfl, hi, hb, hk⟩; have n_ := Aside0.mk (HS.out.moved hi hb hk); have k_ := Aside0.mk (HK.out.but hk); clear HS HK hi hb hk; have HS := n_; have HK := k_; clear n_ k_; have hp := HS.out.ptr) | (go_at_call 107; refine (fail_calls gc text at_ err 5 w0 _ ?s1 ?s2).mono ?_; (case s1 => exact HS.out.cur); (case s2 => exact HS.out.bel); rintro e w1 ⟨rfl, hi, hb, hk⟩; have n_ := Aside0.mk (HS.out.moved hi hb hk); have k_ := Aside0.mk (HK.out.but hk); clear HS HK hi hb hk; have HS := n_; have HK := k_; clear n_ k_; have hp := HS.out.ptr; rw [ef] at HS) | (go_at_call 97; refine (octet_Cursor_Take.calls gc text at_ 5 m (takeS text at_ 5 m).1 text (takeS text at_ 5 m).2.1 (takeS text at_ 5 m).2.2 w0 _ ?s1 ?s2 (take_f text at_ 5 m h0 h1 hs)).mono ?_; (case s1 => exact HS.out.cur); (case s2 => exact HS.out.bel); rintro e w1 ⟨rfl, hi, hb, hk⟩; have n_ := Aside0.mk (HS.out.moved hi hb hk); have k_ := Aside0.mk (HK.out.but hk); clear HS HK hi hb hk; have HS := n_; have HK := k_; clear n_ k_; have hp := HS.out.ptr))
      go_ret
      exact ⟨rfl, HS.out, HK.out⟩
    · have t2 : decide (m < 0) = false := decide_eq_false hm
      by_cases hl : m > (text.size : Int) - at_
      · have t3 : decide ((text.size : Int) - at_ < m) = true := decide_eq_true hl
        rw [if_pos ⟨he, Or.inr hl⟩]
        have ef : failS err 5 = 5 := if_pos he
        clear he hm hl
        go_enter Try.func106, Try.ntmps106
        go_wp2_with (first | (go_at_call 78; refine (octet_Cursor_Err.calls gc text at_ err err text at_ err w0 _ ?s1 ?s2 rfl).mono ?_; (case s1 => exact HS.out.cur); (case s2 => exact HS.out.bel); rintro e w1 ⟨rfl, hi, hb, hk⟩; have n_ := Aside0.mk (HS.out.moved hi hb hk); have k_ := Aside0.mk (HK.out.but hk); clear HS HK hi hb hk; have HS := n_; have HK := k_; clear n_ k_; have hp := HS.out.ptr) | (go_at_call 76; refine (octet_Cursor_Left.calls gc text at_ err ((text.size : Int) - at_) text at_ err w0 _ ?s1 ?s2 (left_f text at_ err h0 h1)).mono ?_; (case s1 => exact HS.out.cur); (case s2 => exact HS.out.bel); rintro e w1 ⟨rfl, hi, hb, hk⟩; have n_ := Aside0.mk (HS.out.moved hi hb hk); have k_ := Aside0.mk (HK.out.but hk); clear HS HK hi hb hk; have HS := n_; have HK := k_; clear n_ k_; have hp := HS.out.ptr) | (go_at_call 107; refine (fail_calls gc text at_ err 5 w0 _ ?s1 ?s2).mono ?_; (case s1 => exact HS.out.cur); (case s2 => exact HS.out.bel); rintro e w1 ⟨rfl, hi, hb, hk⟩; have n_ := Aside0.mk (HS.out.moved hi hb hk); have k_ := Aside0.mk (HK.out.but hk); clear HS HK hi hb hk; have HS := n_; have HK := k_; clear n_ k_; have hp := HS.out.ptr; rw [ef] at HS) | (go_at_call 97; refine (octet_Cursor_Take.calls gc text at_ 5 m (takeS text at_ 5 m).1 text (takeS text at_ 5 m).2.1 (takeS text at_ 5 m).2.2 w0 _ ?s1 ?s2 (take_f text at_ 5 m h0 h1 hs)).mono ?_; (case s1 => exact HS.out.cur); (case s2 => exact HS.out.bel); rintro e w1 ⟨rfl, hi, hb, hk⟩; have n_ := Aside0.mk (HS.out.moved hi hb hk); have k_ := Aside0.mk (HK.out.but hk); clear HS HK hi hb hk; have HS := n_; have HK := k_; clear n_ k_; have hp := HS.out.ptr))
        go_ret
        exact ⟨rfl, HS.out, HK.out⟩
      · have t3 : decide ((text.size : Int) - at_ < m) = false := decide_eq_false hl
        rw [if_neg (fun q => q.2.elim hm hl)]
        clear he hm hl
        go_enter Try.func106, Try.ntmps106
        go_wp2_with (first | (go_at_call 78; refine (octet_Cursor_Err.calls gc text at_ err err text at_ err w0 _ ?s1 ?s2 rfl).mono ?_; (case s1 => exact HS.out.cur); (case s2 => exact HS.out.bel); rintro e w1 ⟨rfl, hi, hb, hk⟩; have n_ := Aside0.mk (HS.out.moved hi hb hk); have k_ := Aside0.mk (HK.out.but hk); clear HS HK hi hb hk; have HS := n_; have HK := k_; clear n_ k_; have hp := HS.out.ptr) | (go_at_call 76; refine (octet_Cursor_Left.calls gc text at_ err ((text.size : Int) - at_) text at_ err w0 _ ?s1 ?s2 (left_f text at_ err h0 h1)).mono ?_; (case s1 => exact HS.out.cur); (case s2 => exact HS.out.bel); rintro e w1 ⟨rfl, hi, hb, hk⟩; have n_ := Aside0.mk (HS.out.moved hi hb hk); have k_ := Aside0.mk (HK.out.but hk); clear HS HK hi hb hk; have HS := n_; have HK := k_; clear n_ k_; have hp := HS.out.ptr) | (go_at_call 97; refine (octet_Cursor_Take.calls gc text at_ err m (takeS text at_ err m).1 text (takeS text at_ err m).2.1 (takeS text at_ err m).2.2 w0 _ ?s1 ?s2 (take_f text at_ err m h0 h1 hs)).mono ?_; (case s1 => exact HS.out.cur); (case s2 => exact HS.out.bel); rintro e w1 ⟨rfl, hi, hb, hk⟩; have n_ := Aside0.mk (HS.out.moved hi hb hk); have k_ := Aside0.mk (HK.out.but hk); clear HS HK hi hb hk; have HS := n_; have HK := k_; clear n_ k_; have hp := HS.out.ptr))
        go_ret
        exact ⟨rfl, HS.out, HK.out⟩
  · have t1 : (err == 0) = false := beq_eq_false_iff_ne.2 he
    rw [if_neg (fun q => he q.1)]
    clear he
    go_enter Try.func106, Try.ntmps106
    go_wp2_with (first | (go_at_call 78; refine (octet_Cursor_Err.calls gc text at_ err err text at_ err w0 _ ?s1 ?s2 rfl).mono ?_; (case s1 => exact HS.out.cur); (case s2 => exact HS.out.bel); rintro e w1 ⟨rfl, hi, hb, hk⟩; have n_ := Aside0.mk (HS.out.moved hi hb hk); have k_ := Aside0.mk (HK.out.but hk); clear HS HK hi hb hk; have HS := n_; have HK := k_; clear n_ k_; have hp := HS.out.ptr) | (go_at_call 97; refine (octet_Cursor_Take.calls gc text at_ err m (takeS text at_ err m).1 text (takeS text at_ err m).2.1 (takeS text at_ err m).2.2 w0 _ ?s1 ?s2 (take_f text at_ err m h0 h1 hs)).mono ?_; (case s1 => exact HS.out.cur); (case s2 => exact HS.out.bel); rintro e w1 ⟨rfl, hi, hb, hk⟩; have n_ := Aside0.mk (HS.out.moved hi hb hk); have k_ := Aside0.mk (HK.out.but hk); clear HS HK hi hb hk; have HS := n_; have HK := k_; clear n_ k_; have hp := HS.out.ptr))
    go_ret
    exact ⟨rfl, HS.out, HK.out⟩
attribute [local irreducible] needS takeS getS
def dataS (text : ByteArray) (at_ err : Int) : ByteArray × Int × Int := needS text (needS text at_ err 2).2.1 (needS text at_ err 2).2.2 (wrap64 (getS (needS text at_ err 2).1))
theorem data_at (text : ByteArray) (at_ err : Int) (h0 : 0 ≤ at_) (h1 : at_ ≤ text.size) : 0 ≤ (dataS text at_ err).2.1 ∧ (dataS text at_ err).2.1 ≤ text.size :=
  need_at text (needS text at_ err 2).2.1 (needS text at_ err 2).2.2 (wrap64 (getS (needS text at_ err 2).1)) (need_at text at_ err 2 h0 h1).1 (need_at text at_ err 2 h0 h1).2
theorem data_size (text : ByteArray) (at_ err : Int) (h0 : 0 ≤ at_) (h1 : at_ ≤ text.size) : (dataS text at_ err).1.size ≤ text.size :=
  need_size text (needS text at_ err 2).2.1 (needS text at_ err 2).2.2 (wrap64 (getS (needS text at_ err 2).1)) (need_at text at_ err 2 h0 h1).1 (need_at text at_ err 2 h0 h1).2
def writtenS (text : ByteArray) (at_ err : Int) : ByteArray × Int × Int := ((dataS text at_ err).1, (dataS text at_ err).2.1, if validS (dataS text at_ err).1 = true then (dataS text at_ err).2.2 else failS (dataS text at_ err).2.2 6)
theorem written_at (text : ByteArray) (at_ err : Int) (h0 : 0 ≤ at_) (h1 : at_ ≤ text.size) : 0 ≤ (writtenS text at_ err).2.1 ∧ (writtenS text at_ err).2.1 ≤ text.size := data_at text at_ err h0 h1
set_option maxHeartbeats 2000000 in
set_option maxRecDepth 100000 in
theorem data_calls (w0 w : World) (gs gc : Nat) (text : ByteArray) (at_ err id n : Int) (t v : ByteArray) (hS : SrcAt w0 w gs gc text at_ err id n t v) (h0 : 0 ≤ at_) (h1 : at_ ≤ text.size) (hs : text.size ≤ 4000000000000000000) :
    Calls Try.prog 109 #[.pointer (some ⟨gs, 0, none⟩)] w fun e w' => e = .returned (.string (dataS text at_ err).1) ∧ SrcAt w0 w' gs gc text (dataS text at_ err).2.1 (dataS text at_ err).2.2 id n t v ∧ Keep2 w w' gs gc := by
  have HS := Aside0.mk hS
  have HK := Aside0.mk (Keep2.refl w gs gc)
  have hp := hS.ptr
  clear hS
  have ha := need_at text at_ err 2 h0 h1
  have hb := need_size text at_ err 2 h0 h1
  unfold dataS
  generalize hq : needS text at_ err 2 = q at *
  have HQ := Aside0.mk hq
  clear hq
  go_enter Try.func109, Try.ntmps109
  go_wp2_with (first | (go_at_call 106; with_reducible refine (need_calls w0 _ gs gc text at_ err id n t v 2 ?s1 h0 h1 hs).mono ?_; (case s1 => repeat (with_reducible first | exact HS.out | refine SrcAt.drewN ?_ _)); rintro e w1 ⟨rfl, hS1, hk⟩; rw [HQ.out] at hS1; rw [HQ.out]; have n_ := Aside0.mk hS1; have k_ := Aside0.mk (show Keep2 w w1 gs gc by first | exact HK.out.trans hk | exact HK.out.transD hk); clear HS HK hS1 hk; have HS := n_; have HK := k_; clear n_ k_; have hp := HS.out.ptr; have hf2 := HS.out.f2; have hf3 := HS.out.f3; have hf4 := HS.out.f4; have hz2 := HS.out.fz 2; have hz3 := HS.out.fz 3; have hz4 := HS.out.fz 4) | (go_at_call 96; refine (octet_Get.calls 20 q.1 (getS q.1) _ (get_f 20 q.1 (by omega) (by omega))).mono ?_; rintro e w1 ⟨rfl, ⟨⟨nd, rfl⟩⟩⟩) | (go_at_call 106; with_reducible refine (need_calls w0 _ gs gc text q.2.1 q.2.2 id n t v (wrap64 (getS q.1)) ?s1 ha.1 ha.2 hs).mono ?_; (case s1 => repeat (with_reducible first | exact HS.out | refine SrcAt.drewN ?_ _)); rintro e w1 ⟨rfl, hS1, hk⟩; have n_ := Aside0.mk hS1; have k_ := Aside0.mk (show Keep2 w w1 gs gc by first | exact HK.out.trans hk | exact HK.out.transD hk); clear HS HK hS1 hk; have HS := n_; have HK := k_; clear n_ k_; have hp := HS.out.ptr; have hf2 := HS.out.f2; have hf3 := HS.out.f3; have hf4 := HS.out.f4; have hz2 := HS.out.fz 2; have hz3 := HS.out.fz 3; have hz4 := HS.out.fz 4))
  go_ret
  exact ⟨rfl, HS.out, HK.out⟩
set_option maxHeartbeats 2000000 in
set_option maxRecDepth 100000 in
theorem written_calls (w0 w : World) (gs gc : Nat) (text : ByteArray) (at_ err id n : Int) (t v : ByteArray) (hS : SrcAt w0 w gs gc text at_ err id n t v) (h0 : 0 ≤ at_) (h1 : at_ ≤ text.size) (hs : text.size ≤ 4000000000000000000) :
    Calls Try.prog 108 #[.pointer (some ⟨gs, 0, none⟩)] w fun e w' => e = .returned (.string (writtenS text at_ err).1) ∧ SrcAt w0 w' gs gc text (writtenS text at_ err).2.1 (writtenS text at_ err).2.2 id n t v ∧ Keep2 w w' gs gc := by
  have HS := Aside0.mk hS
  have HK := Aside0.mk (Keep2.refl w gs gc)
  have hp := hS.ptr
  clear hS
  unfold writtenS
  cases hv : validS (dataS text at_ err).1 with
  | true =>
    have tv : validS (dataS text at_ err).1 = true := hv
    simp only [if_true]
    go_enter Try.func108, Try.ntmps108
    go_wp2_with (first | (go_at_call 109; with_reducible refine (data_calls w0 _ gs gc text at_ err id n t v  ?s1 h0 h1 hs).mono ?_; (case s1 => repeat (with_reducible first | exact HS.out | refine SrcAt.drewN ?_ _)); rintro e w1 ⟨rfl, hS1, hk⟩; have n_ := Aside0.mk hS1; have k_ := Aside0.mk (show Keep2 w w1 gs gc by first | exact HK.out.trans hk | exact HK.out.transD hk); clear HS HK hS1 hk; have HS := n_; have HK := k_; clear n_ k_; have hp := HS.out.ptr; have hf2 := HS.out.f2; have hf3 := HS.out.f3; have hf4 := HS.out.f4; have hz2 := HS.out.fz 2; have hz3 := HS.out.fz 3; have hz4 := HS.out.fz 4) | (go_at_call 62; refine (ustring_Valid.calls (dataS text at_ err).1 true _ (by rw [valid_f, tv])).mono ?_; rintro e w1 ⟨rfl, hk⟩; have n_ := Aside0.mk (HS.out.grown hk); have k_ := Aside0.mk (HK.out.below hk); clear HS HK hk; have HS := n_; have HK := k_; clear n_ k_; have hp := HS.out.ptr) | (go_at_call 107; refine (fail_calls gc text (dataS text at_ err).2.1 (dataS text at_ err).2.2 6 w0 _ ?s1 ?s2).mono ?_; (case s1 => exact HS.out.cur); (case s2 => exact HS.out.bel); rintro e w1 ⟨rfl, hi, hb, hk⟩; have n_ := Aside0.mk (HS.out.moved hi hb hk); have k_ := Aside0.mk (HK.out.but hk); clear HS HK hi hb hk; have HS := n_; have HK := k_; clear n_ k_; have hp := HS.out.ptr))
    go_ret
    exact ⟨rfl, HS.out, HK.out⟩
  | false =>
    have tv : validS (dataS text at_ err).1 = false := hv
    simp only [Bool.false_eq_true, if_false]
    go_enter Try.func108, Try.ntmps108
    go_wp2_with (first | (go_at_call 109; with_reducible refine (data_calls w0 _ gs gc text at_ err id n t v  ?s1 h0 h1 hs).mono ?_; (case s1 => repeat (with_reducible first | exact HS.out | refine SrcAt.drewN ?_ _)); rintro e w1 ⟨rfl, hS1, hk⟩; have n_ := Aside0.mk hS1; have k_ := Aside0.mk (show Keep2 w w1 gs gc by first | exact HK.out.trans hk | exact HK.out.transD hk); clear HS HK hS1 hk; have HS := n_; have HK := k_; clear n_ k_; have hp := HS.out.ptr; have hf2 := HS.out.f2; have hf3 := HS.out.f3; have hf4 := HS.out.f4; have hz2 := HS.out.fz 2; have hz3 := HS.out.fz 3; have hz4 := HS.out.fz 4) | (go_at_call 62; refine (ustring_Valid.calls (dataS text at_ err).1 false _ (by rw [valid_f, tv])).mono ?_; rintro e w1 ⟨rfl, hk⟩; have n_ := Aside0.mk (HS.out.grown hk); have k_ := Aside0.mk (HK.out.below hk); clear HS HK hk; have HS := n_; have HK := k_; clear n_ k_; have hp := HS.out.ptr) | (go_at_call 107; refine (fail_calls gc text (dataS text at_ err).2.1 (dataS text at_ err).2.2 6 w0 _ ?s1 ?s2).mono ?_; (case s1 => exact HS.out.cur); (case s2 => exact HS.out.bel); rintro e w1 ⟨rfl, hi, hb, hk⟩; have n_ := Aside0.mk (HS.out.moved hi hb hk); have k_ := Aside0.mk (HK.out.but hk); clear HS HK hi hb hk; have HS := n_; have HK := k_; clear n_ k_; have hp := HS.out.ptr))
    go_ret
    exact ⟨rfl, HS.out, HK.out⟩
def oneS (text : ByteArray) (at_ err : Int) : Int × Int × Int := ((getS (needS text at_ err 1).1) % 4294967296, (needS text at_ err 1).2.1, (needS text at_ err 1).2.2)
set_option maxHeartbeats 2000000 in
set_option maxRecDepth 100000 in
theorem one_calls (w0 w : World) (gs gc : Nat) (text : ByteArray) (at_ err id n : Int) (t v : ByteArray) (hS : SrcAt w0 w gs gc text at_ err id n t v) (h0 : 0 ≤ at_) (h1 : at_ ≤ text.size) (hs : text.size ≤ 4000000000000000000) :
    Calls Try.prog 88 #[.pointer (some ⟨gs, 0, none⟩)] w fun e w' => e = .returned (.tuple #[]) ∧ SrcAt w0 w' gs gc text (oneS text at_ err).2.1 (oneS text at_ err).2.2 id (oneS text at_ err).1 t v ∧ Keep2 w w' gs gc := by
  have HS := Aside0.mk hS
  have HK := Aside0.mk (Keep2.refl w gs gc)
  have hp := hS.ptr
  clear hS
  have hb := need_size text at_ err 1 h0 h1
  unfold oneS
  generalize hq : needS text at_ err 1 = q at *
  have HQ := Aside0.mk hq
  clear hq
  go_enter Try.func88, Try.ntmps88
  go_wp2_with (first | (go_at_call 106; with_reducible refine (need_calls w0 _ gs gc text at_ err id n t v 1 ?s1 h0 h1 hs).mono ?_; (case s1 => repeat (with_reducible first | exact HS.out | refine SrcAt.drewN ?_ _)); rintro e w1 ⟨rfl, hS1, hk⟩; rw [HQ.out] at hS1; rw [HQ.out]; have n_ := Aside0.mk hS1; have k_ := Aside0.mk (show Keep2 w w1 gs gc by first | exact HK.out.trans hk | exact HK.out.transD hk); clear HS HK hS1 hk; have HS := n_; have HK := k_; clear n_ k_; have hp := HS.out.ptr; have hf2 := HS.out.f2; have hf3 := HS.out.f3; have hf4 := HS.out.f4; have hz2 := HS.out.fz 2; have hz3 := HS.out.fz 3; have hz4 := HS.out.fz 4) | (go_at_call 96; refine (octet_Get.calls 20 q.1 (getS q.1) _ (get_f 20 q.1 (by omega) (by omega))).mono ?_; rintro e w1 ⟨rfl, ⟨⟨nd, rfl⟩⟩⟩))
  go_end0
  exact ⟨rfl, by repeat (with_reducible first | exact HS.out | apply SrcAt.drewN | apply SrcAt.set2 | apply SrcAt.set3 | apply SrcAt.set4), by repeat (first | exact HK.out | apply Keep2.set)⟩
def twoS (text : ByteArray) (at_ err : Int) : Int × Int × Int := ((getS (needS text at_ err 2).1) % 4294967296, (needS text at_ err 2).2.1, (needS text at_ err 2).2.2)
set_option maxHeartbeats 2000000 in
set_option maxRecDepth 100000 in
theorem two_calls (w0 w : World) (gs gc : Nat) (text : ByteArray) (at_ err id n : Int) (t v : ByteArray) (hS : SrcAt w0 w gs gc text at_ err id n t v) (h0 : 0 ≤ at_) (h1 : at_ ≤ text.size) (hs : text.size ≤ 4000000000000000000) :
    Calls Try.prog 89 #[.pointer (some ⟨gs, 0, none⟩)] w fun e w' => e = .returned (.tuple #[]) ∧ SrcAt w0 w' gs gc text (twoS text at_ err).2.1 (twoS text at_ err).2.2 id (twoS text at_ err).1 t v ∧ Keep2 w w' gs gc := by
  have HS := Aside0.mk hS
  have HK := Aside0.mk (Keep2.refl w gs gc)
  have hp := hS.ptr
  clear hS
  have hb := need_size text at_ err 2 h0 h1
  unfold twoS
  generalize hq : needS text at_ err 2 = q at *
  have HQ := Aside0.mk hq
  clear hq
  go_enter Try.func89, Try.ntmps89
  go_wp2_with (first | (go_at_call 106; with_reducible refine (need_calls w0 _ gs gc text at_ err id n t v 2 ?s1 h0 h1 hs).mono ?_; (case s1 => repeat (with_reducible first | exact HS.out | refine SrcAt.drewN ?_ _)); rintro e w1 ⟨rfl, hS1, hk⟩; rw [HQ.out] at hS1; rw [HQ.out]; have n_ := Aside0.mk hS1; have k_ := Aside0.mk (show Keep2 w w1 gs gc by first | exact HK.out.trans hk | exact HK.out.transD hk); clear HS HK hS1 hk; have HS := n_; have HK := k_; clear n_ k_; have hp := HS.out.ptr; have hf2 := HS.out.f2; have hf3 := HS.out.f3; have hf4 := HS.out.f4; have hz2 := HS.out.fz 2; have hz3 := HS.out.fz 3; have hz4 := HS.out.fz 4) | (go_at_call 96; refine (octet_Get.calls 20 q.1 (getS q.1) _ (get_f 20 q.1 (by omega) (by omega))).mono ?_; rintro e w1 ⟨rfl, ⟨⟨nd, rfl⟩⟩⟩))
  go_end0
  exact ⟨rfl, by repeat (with_reducible first | exact HS.out | apply SrcAt.drewN | apply SrcAt.set2 | apply SrcAt.set3 | apply SrcAt.set4), by repeat (first | exact HK.out | apply Keep2.set)⟩
def fourS (text : ByteArray) (at_ err : Int) : Int × Int × Int := ((getS (needS text at_ err 4).1) % 4294967296, (needS text at_ err 4).2.1, (needS text at_ err 4).2.2)
set_option maxHeartbeats 2000000 in
set_option maxRecDepth 100000 in
theorem four_calls (w0 w : World) (gs gc : Nat) (text : ByteArray) (at_ err id n : Int) (t v : ByteArray) (hS : SrcAt w0 w gs gc text at_ err id n t v) (h0 : 0 ≤ at_) (h1 : at_ ≤ text.size) (hs : text.size ≤ 4000000000000000000) :
    Calls Try.prog 90 #[.pointer (some ⟨gs, 0, none⟩)] w fun e w' => e = .returned (.tuple #[]) ∧ SrcAt w0 w' gs gc text (fourS text at_ err).2.1 (fourS text at_ err).2.2 id (fourS text at_ err).1 t v ∧ Keep2 w w' gs gc := by
  have HS := Aside0.mk hS
  have HK := Aside0.mk (Keep2.refl w gs gc)
  have hp := hS.ptr
  clear hS
  have hb := need_size text at_ err 4 h0 h1
  unfold fourS
  generalize hq : needS text at_ err 4 = q at *
  have HQ := Aside0.mk hq
  clear hq
  go_enter Try.func90, Try.ntmps90
  go_wp2_with (first | (go_at_call 106; with_reducible refine (need_calls w0 _ gs gc text at_ err id n t v 4 ?s1 h0 h1 hs).mono ?_; (case s1 => repeat (with_reducible first | exact HS.out | refine SrcAt.drewN ?_ _)); rintro e w1 ⟨rfl, hS1, hk⟩; rw [HQ.out] at hS1; rw [HQ.out]; have n_ := Aside0.mk hS1; have k_ := Aside0.mk (show Keep2 w w1 gs gc by first | exact HK.out.trans hk | exact HK.out.transD hk); clear HS HK hS1 hk; have HS := n_; have HK := k_; clear n_ k_; have hp := HS.out.ptr; have hf2 := HS.out.f2; have hf3 := HS.out.f3; have hf4 := HS.out.f4; have hz2 := HS.out.fz 2; have hz3 := HS.out.fz 3; have hz4 := HS.out.fz 4) | (go_at_call 96; refine (octet_Get.calls 20 q.1 (getS q.1) _ (get_f 20 q.1 (by omega) (by omega))).mono ?_; rintro e w1 ⟨rfl, ⟨⟨nd, rfl⟩⟩⟩))
  go_end0
  exact ⟨rfl, by repeat (with_reducible first | exact HS.out | apply SrcAt.drewN | apply SrcAt.set2 | apply SrcAt.set3 | apply SrcAt.set4), by repeat (first | exact HK.out | apply Keep2.set)⟩
attribute [local irreducible] dataS writtenS
set_option maxHeartbeats 2000000 in
set_option maxRecDepth 100000 in
theorem text_calls (w0 w : World) (gs gc : Nat) (text : ByteArray) (at_ err id n : Int) (t v : ByteArray) (hS : SrcAt w0 w gs gc text at_ err id n t v) (h0 : 0 ≤ at_) (h1 : at_ ≤ text.size) (hs : text.size ≤ 4000000000000000000) :
    Calls Try.prog 92 #[.pointer (some ⟨gs, 0, none⟩)] w fun e w' => e = .returned (.tuple #[]) ∧ SrcAt w0 w' gs gc text (writtenS text at_ err).2.1 (writtenS text at_ err).2.2 id n (writtenS text at_ err).1 v ∧ Keep2 w w' gs gc := by
  have HS := Aside0.mk hS
  have HK := Aside0.mk (Keep2.refl w gs gc)
  have hp := hS.ptr
  clear hS
  generalize hq : writtenS text at_ err = q at *
  have HQ := Aside0.mk hq
  clear hq
  go_enter Try.func92, Try.ntmps92
  go_wp2_with (go_at_call 108; with_reducible refine (written_calls w0 _ gs gc text at_ err id n t v  ?s1 h0 h1 hs).mono ?_; (case s1 => repeat (with_reducible first | exact HS.out | refine SrcAt.drewN ?_ _)); rintro e w1 ⟨rfl, hS1, hk⟩; rw [HQ.out] at hS1; rw [HQ.out]; have n_ := Aside0.mk hS1; have k_ := Aside0.mk (show Keep2 w w1 gs gc by first | exact HK.out.trans hk | exact HK.out.transD hk); clear HS HK hS1 hk; have HS := n_; have HK := k_; clear n_ k_; have hp := HS.out.ptr; have hf2 := HS.out.f2; have hf3 := HS.out.f3; have hf4 := HS.out.f4; have hz2 := HS.out.fz 2; have hz3 := HS.out.fz 3; have hz4 := HS.out.fz 4)
  go_end0
  exact ⟨rfl, by repeat (with_reducible first | exact HS.out | apply SrcAt.drewN | apply SrcAt.set2 | apply SrcAt.set3 | apply SrcAt.set4), by repeat (first | exact HK.out | apply Keep2.set)⟩
set_option maxHeartbeats 2000000 in
set_option maxRecDepth 100000 in
theorem binary_calls (w0 w : World) (gs gc : Nat) (text : ByteArray) (at_ err id n : Int) (t v : ByteArray) (hS : SrcAt w0 w gs gc text at_ err id n t v) (h0 : 0 ≤ at_) (h1 : at_ ≤ text.size) (hs : text.size ≤ 4000000000000000000) :
    Calls Try.prog 93 #[.pointer (some ⟨gs, 0, none⟩)] w fun e w' => e = .returned (.tuple #[]) ∧ SrcAt w0 w' gs gc text (dataS text at_ err).2.1 (dataS text at_ err).2.2 id n (dataS text at_ err).1 v ∧ Keep2 w w' gs gc := by
  have HS := Aside0.mk hS
  have HK := Aside0.mk (Keep2.refl w gs gc)
  have hp := hS.ptr
  clear hS
  generalize hq : dataS text at_ err = q at *
  have HQ := Aside0.mk hq
  clear hq
  go_enter Try.func93, Try.ntmps93
  go_wp2_with (go_at_call 109; with_reducible refine (data_calls w0 _ gs gc text at_ err id n t v  ?s1 h0 h1 hs).mono ?_; (case s1 => repeat (with_reducible first | exact HS.out | refine SrcAt.drewN ?_ _)); rintro e w1 ⟨rfl, hS1, hk⟩; rw [HQ.out] at hS1; rw [HQ.out]; have n_ := Aside0.mk hS1; have k_ := Aside0.mk (show Keep2 w w1 gs gc by first | exact HK.out.trans hk | exact HK.out.transD hk); clear HS HK hS1 hk; have HS := n_; have HK := k_; clear n_ k_; have hp := HS.out.ptr; have hf2 := HS.out.f2; have hf3 := HS.out.f3; have hf4 := HS.out.f4; have hz2 := HS.out.fz 2; have hz3 := HS.out.fz 3; have hz4 := HS.out.fz 4)
  go_end0
  exact ⟨rfl, by repeat (with_reducible first | exact HS.out | apply SrcAt.drewN | apply SrcAt.set2 | apply SrcAt.set3 | apply SrcAt.set4), by repeat (first | exact HK.out | apply Keep2.set)⟩
def pairS (text : ByteArray) (at_ err : Int) : ByteArray × ByteArray × Int × Int := ((writtenS text at_ err).1, (writtenS text (writtenS text at_ err).2.1 (writtenS text at_ err).2.2).1, (writtenS text (writtenS text at_ err).2.1 (writtenS text at_ err).2.2).2.1, (writtenS text (writtenS text at_ err).2.1 (writtenS text at_ err).2.2).2.2)
set_option maxHeartbeats 2000000 in
set_option maxRecDepth 100000 in
theorem pair_calls (w0 w : World) (gs gc : Nat) (text : ByteArray) (at_ err id n : Int) (t v : ByteArray) (hS : SrcAt w0 w gs gc text at_ err id n t v) (h0 : 0 ≤ at_) (h1 : at_ ≤ text.size) (hs : text.size ≤ 4000000000000000000) :
    Calls Try.prog 94 #[.pointer (some ⟨gs, 0, none⟩)] w fun e w' => e = .returned (.tuple #[]) ∧ SrcAt w0 w' gs gc text (pairS text at_ err).2.2.1 (pairS text at_ err).2.2.2 id n (pairS text at_ err).1 (pairS text at_ err).2.1 ∧ Keep2 w w' gs gc := by
  have HS := Aside0.mk hS
  have HK := Aside0.mk (Keep2.refl w gs gc)
  have hp := hS.ptr
  clear hS
  have hb := written_at text at_ err h0 h1
  unfold pairS
  generalize hq : writtenS text at_ err = q at *
  have HQ := Aside0.mk hq
  clear hq
  generalize hr : writtenS text q.2.1 q.2.2 = r at *
  have HR := Aside0.mk hr
  clear hr
  go_enter Try.func94, Try.ntmps94
  go_wp2_with (first | (go_at_call 108; with_reducible refine (written_calls w0 _ gs gc text at_ err id n t v  ?s1 h0 h1 hs).mono ?_; (case s1 => repeat (with_reducible first | exact HS.out | refine SrcAt.drewN ?_ _)); rintro e w1 ⟨rfl, hS1, hk⟩; rw [HQ.out] at hS1; rw [HQ.out]; have n_ := Aside0.mk hS1; have k_ := Aside0.mk (show Keep2 w w1 gs gc by first | exact HK.out.trans hk | exact HK.out.transD hk); clear HS HK hS1 hk; have HS := n_; have HK := k_; clear n_ k_; have hp := HS.out.ptr; have hf2 := HS.out.f2; have hf3 := HS.out.f3; have hf4 := HS.out.f4; have hz2 := HS.out.fz 2; have hz3 := HS.out.fz 3; have hz4 := HS.out.fz 4) | (go_at_call 108; with_reducible refine (written_calls w0 _ gs gc text q.2.1 q.2.2 id n q.1 v  ?s1 hb.1 hb.2 hs).mono ?_; (case s1 => repeat (with_reducible first | exact HS.out | refine SrcAt.drewN ?_ _ | apply SrcAt.set3)); rintro e w1 ⟨rfl, hS1, hk⟩; rw [HR.out] at hS1; rw [HR.out]; have n_ := Aside0.mk hS1; have k_ := Aside0.mk (show Keep2 w w1 gs gc by first | exact (HK.out.set 3 _).trans hk | exact HK.out.transD hk); clear HS HK hS1 hk; have HS := n_; have HK := k_; clear n_ k_; have hp := HS.out.ptr; have hf2 := HS.out.f2; have hf3 := HS.out.f3; have hf4 := HS.out.f4; have hz2 := HS.out.fz 2; have hz3 := HS.out.fz 3; have hz4 := HS.out.fz 4))
  go_end0
  exact ⟨rfl, by repeat (with_reducible first | exact HS.out | apply SrcAt.drewN | apply SrcAt.set2 | apply SrcAt.set3 | apply SrcAt.set4), by repeat (first | exact HK.out | apply Keep2.set)⟩
def restS (text : ByteArray) (at_ : Int) : ByteArray := text.extract at_.toNat text.size
def varErr (text : ByteArray) (at_ err : Int) : Int := if (readVarS (restS text at_)).2.2 = 0 then err else failS err 5
def varyS (text : ByteArray) (at_ err : Int) : Int × Int × Int := ((readVarS (restS text at_)).1 % 4294967296, (takeS text at_ (varErr text at_ err) (readVarS (restS text at_)).2.1).2.1, (takeS text at_ (varErr text at_ err) (readVarS (restS text at_)).2.1).2.2)
set_option maxHeartbeats 2000000 in
set_option maxRecDepth 100000 in
theorem vary_calls (w0 w : World) (gs gc : Nat) (text : ByteArray) (at_ err id n : Int) (t v : ByteArray) (hS : SrcAt w0 w gs gc text at_ err id n t v) (h0 : 0 ≤ at_) (h1 : at_ ≤ text.size) (hs : text.size ≤ 4000000000000000000) :
    Calls Try.prog 91 #[.pointer (some ⟨gs, 0, none⟩)] w fun e w' => e = .returned (.tuple #[]) ∧ SrcAt w0 w' gs gc text (varyS text at_ err).2.1 (varyS text at_ err).2.2 id (varyS text at_ err).1 t v ∧ Keep2 w w' gs gc := by
  have HS := Aside0.mk hS
  have HK := Aside0.mk (Keep2.refl w gs gc)
  have hp := hS.ptr
  clear hS
  unfold varyS varErr
  have hq := varread_f 20 (text.extract at_.toNat text.size) (by omega)
  unfold restS
  generalize readVarS (text.extract at_.toNat text.size) = q at *
  have HQ := Aside0.mk hq
  clear hq
  by_cases hz : q.2.2 = 0
  · have t1 : (q.2.2 != 0) = false := by rw [hz]; rfl
    rw [if_pos hz]
    clear hz
    go_enter Try.func91, Try.ntmps91
    go_wp2_with (first | (go_at_call 95; refine (octet_Cursor_Rest.calls gc text at_ err (text.extract at_.toNat text.size) text at_ err w0 _ ?s1 ?s2 (rest_f text at_ err h0 h1)).mono ?_; (case s1 => exact HS.out.cur); (case s2 => exact HS.out.bel); rintro e w1 ⟨rfl, hi, hb, hk⟩; have n_ := Aside0.mk (HS.out.moved hi hb hk); have k_ := Aside0.mk (HK.out.but hk); clear HS HK hi hb hk; have HS := n_; have HK := k_; clear n_ k_; have hp := HS.out.ptr) | (go_at_call 57; refine (varint_Read.calls 20 (text.extract at_.toNat text.size) q.1 q.2.1 q.2.2 _ HQ.out).mono ?_; rintro e w1 ⟨rfl, hk⟩; have n_ := Aside0.mk (HS.out.grown hk); have k_ := Aside0.mk (HK.out.below hk); clear HS HK hk; have HS := n_; have HK := k_; clear n_ k_; have hp := HS.out.ptr; have hf2 := HS.out.f2; have hz2 := HS.out.fz 2) | (go_at_call 107; refine (fail_calls gc text at_ err 5 w0 _ ?s1 ?s2).mono ?_; (case s1 => exact HS.out.cur); (case s2 => exact HS.out.bel); rintro e w1 ⟨rfl, hi, hb, hk⟩; have n_ := Aside0.mk (HS.out.moved hi hb hk); have k_ := Aside0.mk (HK.out.but hk); clear HS HK hi hb hk; have HS := n_; have HK := k_; clear n_ k_; have hp := HS.out.ptr; have hf2 := HS.out.f2; have hz2 := HS.out.fz 2) | (go_at_call 97; refine (octet_Cursor_Take.calls gc text at_ err q.2.1 (takeS text at_ err q.2.1).1 text (takeS text at_ err q.2.1).2.1 (takeS text at_ err q.2.1).2.2 w0 _ ?s1 ?s2 (take_f text at_ err q.2.1 h0 h1 hs)).mono ?_; (case s1 => exact (HS.out.set2 (q.1 % 4294967296)).cur); (case s2 => exact (HS.out.set2 (q.1 % 4294967296)).bel); rintro e w1 ⟨rfl, hi, hb, hk⟩; have n_ := Aside0.mk ((HS.out.set2 (q.1 % 4294967296)).moved hi hb hk); have k_ := Aside0.mk ((HK.out.set 2 (.int .u32 (q.1 % 4294967296))).but hk); clear HS HK hi hb hk; have HS := n_; have HK := k_; clear n_ k_; have hp := HS.out.ptr))
    go_end0
    exact ⟨rfl, by repeat (with_reducible first | exact HS.out | apply SrcAt.drewN | apply SrcAt.set2), by repeat (first | exact HK.out | apply Keep2.set)⟩
  · have t1 : (q.2.2 != 0) = true := bne_iff_ne.2 hz
    rw [if_neg hz]
    clear hz
    go_enter Try.func91, Try.ntmps91
    go_wp2_with (first | (go_at_call 95; refine (octet_Cursor_Rest.calls gc text at_ err (text.extract at_.toNat text.size) text at_ err w0 _ ?s1 ?s2 (rest_f text at_ err h0 h1)).mono ?_; (case s1 => exact HS.out.cur); (case s2 => exact HS.out.bel); rintro e w1 ⟨rfl, hi, hb, hk⟩; have n_ := Aside0.mk (HS.out.moved hi hb hk); have k_ := Aside0.mk (HK.out.but hk); clear HS HK hi hb hk; have HS := n_; have HK := k_; clear n_ k_; have hp := HS.out.ptr) | (go_at_call 57; refine (varint_Read.calls 20 (text.extract at_.toNat text.size) q.1 q.2.1 q.2.2 _ HQ.out).mono ?_; rintro e w1 ⟨rfl, hk⟩; have n_ := Aside0.mk (HS.out.grown hk); have k_ := Aside0.mk (HK.out.below hk); clear HS HK hk; have HS := n_; have HK := k_; clear n_ k_; have hp := HS.out.ptr; have hf2 := HS.out.f2; have hz2 := HS.out.fz 2) | (go_at_call 107; refine (fail_calls gc text at_ err 5 w0 _ ?s1 ?s2).mono ?_; (case s1 => exact HS.out.cur); (case s2 => exact HS.out.bel); rintro e w1 ⟨rfl, hi, hb, hk⟩; have n_ := Aside0.mk (HS.out.moved hi hb hk); have k_ := Aside0.mk (HK.out.but hk); clear HS HK hi hb hk; have HS := n_; have HK := k_; clear n_ k_; have hp := HS.out.ptr; have hf2 := HS.out.f2; have hz2 := HS.out.fz 2) | (go_at_call 97; refine (octet_Cursor_Take.calls gc text at_ (failS err 5) q.2.1 (takeS text at_ (failS err 5) q.2.1).1 text (takeS text at_ (failS err 5) q.2.1).2.1 (takeS text at_ (failS err 5) q.2.1).2.2 w0 _ ?s1 ?s2 (take_f text at_ (failS err 5) q.2.1 h0 h1 hs)).mono ?_; (case s1 => exact (HS.out.set2 (q.1 % 4294967296)).cur); (case s2 => exact (HS.out.set2 (q.1 % 4294967296)).bel); rintro e w1 ⟨rfl, hi, hb, hk⟩; have n_ := Aside0.mk ((HS.out.set2 (q.1 % 4294967296)).moved hi hb hk); have k_ := Aside0.mk ((HK.out.set 2 (.int .u32 (q.1 % 4294967296))).but hk); clear HS HK hi hb hk; have HS := n_; have HK := k_; clear n_ k_; have hp := HS.out.ptr))
    go_end0
    exact ⟨rfl, by repeat (with_reducible first | exact HS.out | apply SrcAt.drewN | apply SrcAt.set2), by repeat (first | exact HK.out | apply Keep2.set)⟩
end Go.Proofs.Ytngmipfobcaojaa.HA
end

-- YtngmipfobcaojaaHAhReaders
section
/- prop.readers: the map of the methods that read values. -/
-- FOR polyglot/prop.readers
namespace Go.Proofs.Ytngmipfobcaojaa.HA
open Go.RowKit Go.Proofs.YtngmipfobcaojaaW.PrintWords Go.Proofs.YtngmipfobcaojaaW.PrintLast Go.Proofs.YtngmipfobcaojaaW.PrintMore
set_option linter.unusedVariables false
set_option linter.unusedSimpArgs false
def readTab : List (Int × Nat) := [(1, 88), (2, 89), (3, 90), (4, 91), (5, 92), (6, 93), (7, 94)]
def readEnt (x : (Int × Nat) × Nat) : MapEntry := { key := .int .i64 x.1.1, val := .func (.func x.1.2) #[] #[], born := x.2 }
def readObj : Obj := .map (readTab.zipIdx.map readEnt).toArray 7
theorem run_insR (w : World) (es : Array MapEntry) (c : Nat) (k : Int) (v : Value) (h : freeK es.toList k = true) :
    (Instr.mapUpdate 100 (.map (some w.heap.size)) (.int .i64 k) v).run Try.prog (w.alloc (.map es c)) = .ok () (w.alloc (.map (es.push { key := .int .i64 k, val := v, born := c }) (c + 1))) := by
  have hh : (w.alloc (.map es c)).heap[w.heap.size]? = some (.map es c) := heap_alloc_new w _
  have hf := freeK_now k es.toList 0 h
  have hs : ∀ o, { w.alloc (.map es c) with heap := (w.alloc (.map es c)).heap.setIfInBounds w.heap.size o } = w.alloc o := fun o => by
    simp only [World.alloc]
    congr 1
    apply Array.ext'
    simp [Array.setIfInBounds, Array.toList_push]
  have hck : ∀ W : World, (Instr.checkKey false 10000 3 (.int .i64 k)).run Try.prog W = .ok () W := fun W => checkKey_int _ 9999 _ _ W
  have hp : ∀ W : World, (pure none : Sem (Option (Nat × Value))).run Try.prog W = .ok none W := fun _ => rfl
  simp only [Instr.mapUpdate, Sem.run_bind, run_underlying Try.underlying100, Result.andThen, getObj, Sem.run, hh, hck, Instr.findKey, run_underlying Try.underlying3, hf, setObj, hp]
  exact congrArg (Result.ok ()) (hs _)
set_option maxHeartbeats 4000000 in
set_option maxRecDepth 100000 in
theorem prop_readers.calls0 (w : World) :
    Calls Try.prog 74 #[] w fun e w' => e = .returned (.map (some w.heap.size)) ∧ w.alloc readObj = w' := by
  have hmm := @run_makeMap Try.prog
  have hup := fun es c k v h => run_insR w es c k v h
  have hfk : ∀ (k a : Int) (v : Value) (b : Nat) (l : List MapEntry), freeK ({ key := .int .i64 a, val := v, born := b } :: l) k = (!(k == a) && freeK l k) := fun _ _ _ _ _ => rfl
  have hfn : ∀ k : Int, freeK [] k = true := fun _ => rfl
  go_enter Try.func74, Try.ntmps74
  go_wp2
  go_ret
  exact ⟨rfl, rfl⟩
theorem findNow_read (id : Int) : ∀ (l : List (Int × Nat)) (i j : Nat) (f : Nat), (id, f) ∈ l → l.Nodup → (∀ x ∈ l, x.1 = id → x.2 = f) →
    ∃ m, Instr.findNow (.int .i64) (.int .i64 id) ((l.zipIdx j).map readEnt) i = some (some (m, .func (.func f) #[] #[]))
  | [], _, _, _, h, _, _ => by simp at h
  | x :: l, i, j, f, h, hn, hu => by
    simp only [List.zipIdx_cons, List.map_cons, Instr.findNow, readEnt, Instr.sameNow, if_true]
    cases e : (id == x.1) with
    | true =>
      have := hu x List.mem_cons_self (by simpa using (beq_iff_eq.1 e).symm)
      exact ⟨i, by rw [this]⟩
    | false =>
      rcases List.mem_cons.1 h with rfl | h
      · simp at e
      · exact findNow_read id l (i + 1) (j + 1) f h (List.nodup_cons.1 hn).2 (fun y hy => hu y (List.mem_cons_of_mem _ hy))
theorem run_read_lookup (W : World) (b : Nat) (id : Int) (f : Nat) (hb : W.heap[b]? = some readObj) (hm : (id, f) ∈ readTab) :
    (Instr.lookup 100 (.map (some b)) (.int .i64 id) false).run Try.prog W = .ok (.func (.func f) #[] #[]) W := by
  unfold readObj at hb
  have hg := MapKept.run_getObj_map (P := Try.prog) hb
  obtain ⟨m, h1⟩ := findNow_read id readTab 0 0 f hm (by decide) (by
    intro x hx e
    subst e
    simp only [readTab, List.mem_cons, List.not_mem_nil, or_false, Prod.ext_iff] at hm hx
    omega)
  simp only [Instr.lookup, Sem.run_bind, run_underlying Try.underlying100, Result.andThen, hg, checkKey_int', Instr.findKey, run_underlying Try.underlying3, run_pure', h1]
  rfl
end Go.Proofs.Ytngmipfobcaojaa.HA
end
