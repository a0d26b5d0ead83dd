/- A part of the proof: texts that were built one by one, laid together. -/
import Derived.Test.YtngmipfobcaojaaCPropNames4
import Derived.Test.YtngmipfobcaojaaCPropNames3
import Derived.Deep.RegionWith

-- YtngmipfobcaojaaHAhList
section
/- prop.list: the properties that bytes are. -/
-- FOR polyglot/prop.list
namespace Go.Proofs.Ytngmipfobcaojaa.HA
open Go.RowKit Go.Proofs.YtngmipfobcaojaaW.PrintWords Go.Proofs.YtngmipfobcaojaaW.PrintLast Go.Proofs.YtngmipfobcaojaaW.PrintMore
set_option linter.unusedVariables false
set_option linter.unusedSimpArgs false
theorem rule_shape (id kind : Int) (h : hasS (ruleOf id) kind = true) : (∃ f, ((ruleOf id).1, f) ∈ readTab) ∧ 1 ≤ id ∧ id ≤ 42 := by
  have hf : ∀ l : List (Int × Int × Int × Int × Int), (∀ x ∈ l, (∃ f, (x.2.1, f) ∈ readTab) ∧ 1 ≤ x.1 ∧ x.1 ≤ 42) → ∀ r, ruleFind l id = some r → (∃ f, (r.1, f) ∈ readTab) ∧ 1 ≤ id ∧ id ≤ 42 := by
    intro l
    induction l with
    | nil => intro _ r h; simp [ruleFind] at h
    | cons x l ih =>
      intro hx r h
      simp only [ruleFind] at h
      by_cases e : (id == x.1) = true
      · have := hx x List.mem_cons_self
        rw [if_pos e] at h
        rw [← Option.some.inj h, beq_iff_eq.1 e]; exact this
      · rw [if_neg e] at h
        exact ih (fun y hy => hx y (List.mem_cons_of_mem _ hy)) r h
  cases hr : ruleFind ruleTab id with
  | some r =>
    have := hf ruleTab (by
      have hall : ∀ x ∈ ruleTab, (1 ≤ x.2.1 ∧ x.2.1 ≤ 7) ∧ 1 ≤ x.1 ∧ x.1 ≤ 42 := by decide
      intro x hx
      obtain ⟨⟨h1, h2⟩, h3⟩ := hall x hx
      refine ⟨?_, h3⟩
      have : x.2.1 = 1 ∨ x.2.1 = 2 ∨ x.2.1 = 3 ∨ x.2.1 = 4 ∨ x.2.1 = 5 ∨ x.2.1 = 6 ∨ x.2.1 = 7 := by omega
      rcases this with e | e | e | e | e | e | e <;> rw [e] <;> exact ⟨_, by simp [readTab]; rfl⟩) r hr
    have e : ruleOf id = r := by unfold ruleOf; rw [hr]; rfl
    rw [e]; exact this
  | none =>
    exfalso
    have e : ruleOf id = (0, 0, 0, 0) := by unfold ruleOf; rw [hr]; rfl
    have hs : hasS (0, 0, 0, 0) kind = false := by
      unfold hasS
      have : shr .i64 0 (IntKind.u64.wrap kind) = 0 := by unfold shr; simp
      rw [this]
      have : (Go.bits .and .i64 0 1 == 1) = false := by decide
      rw [this]; simp
    rw [e, hs] at h
    exact absurd h (by decide)
/-- What the method of a shape reads at a place: the number, the texts, the place behind, the error. -/
def valueS (shape : Int) (text : ByteArray) (at_ : Int) : Int × ByteArray × ByteArray × Int × Int :=
  if shape = 1 then ((oneS text at_ 0).1, ⟨#[]⟩, ⟨#[]⟩, (oneS text at_ 0).2.1, (oneS text at_ 0).2.2)
  else if shape = 2 then ((twoS text at_ 0).1, ⟨#[]⟩, ⟨#[]⟩, (twoS text at_ 0).2.1, (twoS text at_ 0).2.2)
  else if shape = 3 then ((fourS text at_ 0).1, ⟨#[]⟩, ⟨#[]⟩, (fourS text at_ 0).2.1, (fourS text at_ 0).2.2)
  else if shape = 4 then ((varyS text at_ 0).1, ⟨#[]⟩, ⟨#[]⟩, (varyS text at_ 0).2.1, (varyS text at_ 0).2.2)
  else if shape = 5 then (0, (writtenS text at_ 0).1, ⟨#[]⟩, (writtenS text at_ 0).2.1, (writtenS text at_ 0).2.2)
  else if shape = 6 then (0, (dataS text at_ 0).1, ⟨#[]⟩, (dataS text at_ 0).2.1, (dataS text at_ 0).2.2)
  else (0, (pairS text at_ 0).1, (pairS text at_ 0).2.1, (pairS text at_ 0).2.2.1, (pairS text at_ 0).2.2.2)
def idAt (text : ByteArray) (at_ : Int) : Int := wrap64 (getS (takeS text at_ 0 1).1)
def listTo (kind : Int) (text : ByteArray) : Nat → Int → (Nat → Int) → List S27 → List S27 × Int
  | 0, _, c, out => if decide (0 < c 22) && c 21 == 0 then ([], 9) else (out, 0)
  | d + 1, at_, c, out =>
    if ¬ 0 < (text.size : Int) - at_ then (if decide (0 < c 22) && c 21 == 0 then ([], 9) else (out, 0))
    else if hasS (ruleOf (idAt text at_)) kind = false then ([], 9)
    else if (valueS (ruleOf (idAt text at_)).1 text (at_ + 1)).2.2.2.2 ≠ 0 then ([], (valueS (ruleOf (idAt text at_)).1 text (at_ + 1)).2.2.2.2)
    else if checkS (ruleOf (idAt text at_)) kind ⟨idAt text at_, (valueS (ruleOf (idAt text at_)).1 text (at_ + 1)).1, (valueS (ruleOf (idAt text at_)).1 text (at_ + 1)).2.1, (valueS (ruleOf (idAt text at_)).1 text (at_ + 1)).2.2.1⟩ ≠ 0 then
      ([], checkS (ruleOf (idAt text at_)) kind ⟨idAt text at_, (valueS (ruleOf (idAt text at_)).1 text (at_ + 1)).1, (valueS (ruleOf (idAt text at_)).1 text (at_ + 1)).2.1, (valueS (ruleOf (idAt text at_)).1 text (at_ + 1)).2.2.1⟩)
    else if decide (1 < c (idAt text at_).toNat + 1) && !oftenB kind (idAt text at_) then ([], 9)
    else if out.length = 1000 then ([], 4)
    else listTo kind text d (valueS (ruleOf (idAt text at_)).1 text (at_ + 1)).2.2.2.1 (upd c (idAt text at_).toNat (c (idAt text at_).toNat + 1))
      (out ++ [⟨idAt text at_, (valueS (ruleOf (idAt text at_)).1 text (at_ + 1)).1, (valueS (ruleOf (idAt text at_)).1 text (at_ + 1)).2.1, (valueS (ruleOf (idAt text at_)).1 text (at_ + 1)).2.2.1⟩])
def listS (kind : Int) (text : ByteArray) : List S27 × Int := listTo kind text text.size 0 (fun _ => 0) []
def prop_list.f (a0 : Int) (a1 : ByteArray) : Option (List S27 × Int) := if a1.size ≤ 4000000000000000000 then some (listS a0 a1) else none
theorem value_calls (w0 W : World) (gs gc : Nat) (text : ByteArray) (at_ id shape : Int) (f : Nat) (hm : (shape, f) ∈ readTab) (hS : SrcAt w0 W gs gc text at_ 0 id 0 ⟨#[]⟩ ⟨#[]⟩) (h0 : 0 ≤ at_) (h1 : at_ ≤ text.size) (hs : text.size ≤ 4000000000000000000) :
    Calls Try.prog f #[.pointer (some ⟨gs, 0, none⟩)] W fun e w' => e = .returned (.tuple #[]) ∧ SrcAt w0 w' gs gc text (valueS shape text at_).2.2.2.1 (valueS shape text at_).2.2.2.2 id (valueS shape text at_).1 (valueS shape text at_).2.1 (valueS shape text at_).2.2.1 ∧ Keep2 W w' gs gc := by
  simp only [readTab, List.mem_cons, List.not_mem_nil, or_false, Prod.mk.injEq] at hm
  rcases hm with ⟨rfl, rfl⟩ | ⟨rfl, rfl⟩ | ⟨rfl, rfl⟩ | ⟨rfl, rfl⟩ | ⟨rfl, rfl⟩ | ⟨rfl, rfl⟩ | ⟨rfl, rfl⟩
  · exact one_calls w0 W gs gc text at_ 0 id 0 _ _ hS h0 h1 hs
  · exact two_calls w0 W gs gc text at_ 0 id 0 _ _ hS h0 h1 hs
  · exact four_calls w0 W gs gc text at_ 0 id 0 _ _ hS h0 h1 hs
  · exact vary_calls w0 W gs gc text at_ 0 id 0 _ _ hS h0 h1 hs
  · exact text_calls w0 W gs gc text at_ 0 id 0 _ _ hS h0 h1 hs
  · exact binary_calls w0 W gs gc text at_ 0 id 0 _ _ hS h0 h1 hs
  · exact pair_calls w0 W gs gc text at_ 0 id 0 _ _ hS h0 h1 hs
theorem reader_enters (shape : Int) (f : Nat) (hm : (shape, f) ∈ readTab) (args : Array Value) (W : World) : (callFunc f args).run Try.prog W = .ok (.enter f args) W := by
  simp only [readTab, List.mem_cons, List.not_mem_nil, or_false, Prod.mk.injEq] at hm
  rcases hm with ⟨_, rfl⟩ | ⟨_, rfl⟩ | ⟨_, rfl⟩ | ⟨_, rfl⟩ | ⟨_, rfl⟩ | ⟨_, rfl⟩ | ⟨_, rfl⟩
  · exact enters_ Try.func88 (by kernel_rfl) rfl args W
  · exact enters_ Try.func89 (by kernel_rfl) rfl args W
  · exact enters_ Try.func90 (by kernel_rfl) rfl args W
  · exact enters_ Try.func91 (by kernel_rfl) rfl args W
  · exact enters_ Try.func92 (by kernel_rfl) rfl args W
  · exact enters_ Try.func93 (by kernel_rfl) rfl args W
  · exact enters_ Try.func94 (by kernel_rfl) rfl args W
theorem take_ge (text : ByteArray) (at_ err m : Int) : at_ ≤ (takeS text at_ err m).2.1 := by
  unfold takeS
  split
  · split
    · dsimp only; omega
    · exact Int.le_refl _
  · exact Int.le_refl _
theorem need_ge (text : ByteArray) (at_ err m : Int) : at_ ≤ (needS text at_ err m).2.1 := take_ge text at_ _ m
theorem data_ge (text : ByteArray) (at_ err : Int) : at_ ≤ (dataS text at_ err).2.1 := Int.le_trans (need_ge text at_ err 2) (need_ge text _ _ _)
theorem value_at (shape : Int) (text : ByteArray) (at_ : Int) (h0 : 0 ≤ at_) (h1 : at_ ≤ text.size) : at_ ≤ (valueS shape text at_).2.2.2.1 ∧ (valueS shape text at_).2.2.2.1 ≤ text.size := by
  have hd : ∀ a e, 0 ≤ a → a ≤ (text.size : Int) → a ≤ (writtenS text a e).2.1 ∧ (writtenS text a e).2.1 ≤ text.size := fun a e x y => ⟨data_ge text a e, (data_at text a e x y).2⟩
  unfold valueS
  repeat' split
  · exact ⟨need_ge text at_ 0 1, (need_at text at_ 0 1 h0 h1).2⟩
  · exact ⟨need_ge text at_ 0 2, (need_at text at_ 0 2 h0 h1).2⟩
  · exact ⟨need_ge text at_ 0 4, (need_at text at_ 0 4 h0 h1).2⟩
  · exact ⟨take_ge text at_ _ _, (take_at text at_ _ _ h0 h1).2⟩
  · exact hd at_ 0 h0 h1
  · exact ⟨data_ge text at_ 0, (data_at text at_ 0 h0 h1).2⟩
  · have q := hd at_ 0 h0 h1
    have q2 := hd (writtenS text at_ 0).2.1 (writtenS text at_ 0).2.2 (Int.le_trans h0 q.1) q.2
    exact ⟨Int.le_trans q.1 q2.1, q2.2⟩
structure LParts (w wx : World) (c : Nat → Int) (out : List S27) (v8 : Value) : Prop where
  map : wx.heap[w.heap.size]? = some ruleObj
  rd : wx.heap[w.heap.size + 1]? = some readObj
  seen : wx.heap[w.heap.size + 1 + 1]? = some (seenObj c)
  own : Kd.R k27 27 wx w.heap.size (fun _ => True) v8 out
theorem own_kept {w wx w1 : World} {out : List S27} {v8 : Value} {S : Nat → Prop} (h : Kd.R k27 27 wx w.heap.size (fun _ => True) v8 out) (hk : Kept wx w1 S)
    (hS : ∀ k, S k → ∃ (cs : Array Value) (t : TypeId), t ≠ 27 ∧ wx.heap[k]? = some (.cells cs t (0, 0))) : Kd.R k27 27 w1 w.heap.size (fun _ => True) v8 out := by
  refine Kd.R_mono (Kd.R_kept (Kd.R_bound h) hk (fun k hk2 hs => ?_)) (fun _ _ => trivial)
  obtain ⟨cs, t, ht, hc⟩ := hS k hs
  obtain ⟨_, _, _, q, hq, cells, hc'⟩ := hk2
  rw [hc] at hc'
  have e : k27.E = [] := rfl
  rw [e] at hq
  simp at hq hc'
  exact ht (hc'.2.trans hq)
theorem LParts.keep2 {w wx w1 : World} {c : Nat → Int} {out : List S27} {v8 : Value} (P : LParts w wx c out v8) {gs gc : Nat} {text : ByteArray} {at_ err id n : Int} {t v : ByteArray}
    (hS : SrcAt w wx gs gc text at_ err id n t v) (hk : Keep2 wx w1 gs gc) : LParts w w1 c out v8 := by
  have hs := hS.src
  have hc := hS.cur.1
  have ne : ∀ (i : Nat) (o : Obj), wx.heap[i]? = some o → (∀ cs, o ≠ .cells cs 105 (0, 0)) → (∀ cs, o ≠ .cells cs 121 (0, 0)) → w1.heap[i]? = some o := by
    intro i o h h1 h2
    refine (hk.2 i (blk_lt h) ?_ ?_).trans h
    · rintro rfl
      rw [hs] at h
      exact h1 _ (Option.some.inj h).symm
    · rintro rfl
      rw [hc] at h
      exact h2 _ (Option.some.inj h).symm
  refine ⟨ne _ _ P.map ?_ ?_, ne _ _ P.rd ?_ ?_, ne _ _ P.seen ?_ ?_, own_kept P.own (S := fun k => k = gs ∨ k = gc) ⟨hk.1, fun i hi hn => hk.2 i hi (fun e => hn (Or.inl e)) (fun e => hn (Or.inr e))⟩ ?_⟩
  · intro cs e; simp [ruleObj] at e
  · intro cs e; simp [ruleObj] at e
  · intro cs e; simp [readObj] at e
  · intro cs e; simp [readObj] at e
  · intro cs e; simp [seenObj] at e
  · intro cs e; simp [seenObj] at e
  · rintro k (rfl | rfl)
    · exact ⟨_, _, by decide, hs⟩
    · exact ⟨_, _, by decide, hc⟩
theorem LParts.below {w wx w1 : World} {c : Nat → Int} {out : List S27} {v8 : Value} (P : LParts w wx c out v8) (hb : Below wx.heap.size wx w1) : LParts w w1 c out v8 :=
  ⟨blk_below P.map hb, blk_below P.rd hb, blk_below P.seen hb, Kd.R_below P.own hb⟩
theorem LParts.drewN {w wx : World} {c : Nat → Int} {out : List S27} {v8 : Value} (P : LParts w wx c out v8) (m : Nat) : LParts w (wx.drewN m) c out v8 :=
  ⟨P.map, P.rd, P.seen, Kd.R_drewN P.own m⟩
theorem LParts.counted {w wx w1 : World} {c c' : Nat → Int} {out : List S27} {v8 : Value} (P : LParts w wx c out v8) (hg : wx.grownBy w1 (some (w.heap.size + 1 + 1))) (hs : w1.heap[w.heap.size + 1 + 1]? = some (seenObj c')) : LParts w w1 c' out v8 :=
  ⟨blk_grown P.map hg (by simp; omega), blk_grown P.rd hg (by simp), hs, own_kept P.own (S := fun k => k = w.heap.size + 1 + 1) ⟨hg.size, fun i hi hn => hg.block i hi (fun e => hn (Option.some.inj e))⟩ (fun k e => ⟨seenArr c, 71, by decide, by rw [e]; exact P.seen⟩)⟩
theorem SrcAt.counted {w0 W W1 : World} {gs gc : Nat} {text : ByteArray} {at_ err id n : Int} {t v : ByteArray} (h : SrcAt w0 W gs gc text at_ err id n t v) {g : Nat} {c : Nat → Int} (hg : W.grownBy W1 (some g)) (hs : W.heap[g]? = some (seenObj c)) (hlo : w0.heap.size ≤ g) : SrcAt w0 W1 gs gc text at_ err id n t v := by
  have n1 : gs ≠ g := blk_ne h.src hs (by decide)
  have n2 : gc ≠ g := blk_ne h.cur.1 hs (by decide)
  exact ⟨h.cur.grown hg (by simpa using n2), blk_grown h.src hg (by simpa using n1), h.lo, pw_below_grown h.bel (some g) h.bel.size hg (fun k hk => by cases hk; exact hlo)⟩
/-- A new property is laid into the source. -/
theorem SrcAt.fresh4 {w0 W : World} {gs gc : Nat} {text : ByteArray} {at_ err id n : Int} {t v : ByteArray} (h : SrcAt w0 W gs gc text at_ err id n t v) (id' n' : Int) (t' v' : ByteArray) :
    SrcAt w0 ((((W.setCell ⟨gs, 1, none⟩ (.int .i64 id')).setCell ⟨gs, 2, none⟩ (.int .u32 n')).setCell ⟨gs, 3, none⟩ (.string t')).setCell ⟨gs, 4, none⟩ (.string v')) gs gc text at_ err id' n' t' v' := by
  have h1 : SrcAt w0 (W.setCell ⟨gs, 1, none⟩ (.int .i64 id')) gs gc text at_ err id' n t v :=
    ⟨h.cur.far (p := ⟨gs, 1, none⟩) (fun e => h.ne e.symm) _, blk_put h.src 1 _ rfl, h.lo, below_set h.bel h.lo⟩
  exact ((h1.set2 n').set3 t').set4 v'
structure LHead (kind : Int) (text : ByteArray) (res : List S27 × Int) (w wx : World) (gs gc : Nat) (d : Nat) (at_ : Int) (c : Nat → Int) (out : List S27) (v8 : Value) : Prop where
  parts : LParts w wx c out v8
  src : ∃ id n t v, SrcAt w wx gs gc text at_ 0 id n t v
  left : listTo kind text d at_ c out = res
  at0 : 0 ≤ at_
  at1 : at_ ≤ text.size
  fuel : (text.size : Int) - at_ ≤ d
  cnt : ∀ j, 0 ≤ c j ∧ c j ≤ out.length
  len : out.length ≤ 1000
theorem take_one (text : ByteArray) (at_ : Int) (h : 0 < (text.size : Int) - at_) : (takeS text at_ 0 1).2 = (at_ + 1, 0) := by
  unfold takeS
  rw [if_pos rfl, if_pos ⟨by omega, by omega⟩]
set_option maxHeartbeats 4000000 in
set_option maxRecDepth 100000 in
theorem prop_list.calls (a0 : Int) (a1 : ByteArray) (r1 : List S27) (r2 : Int) (w : World) (h : prop_list.f a0 a1 = some (r1, r2)) :
    Calls Try.prog 58 #[.int .i64 a0, .string a1] w fun e w' => ∃ v0_ : Value, e = .returned (.tuple #[v0_, .int .i64 r2]) ∧ Kd.R k27 27 w' w.heap.size (fun _ => True) v0_ r1 ∧ Below w.heap.size w w' := by
  have hs : a1.size ≤ 4000000000000000000 := by
    unfold prop_list.f at h
    by_cases q : a1.size ≤ 4000000000000000000
    · exact q
    · rw [if_neg q] at h; exact absurd h (by simp)
  have hres : listS a0 a1 = (r1, r2) := by
    unfold prop_list.f at h
    rw [if_pos hs] at h
    exact Option.some.inj h
  clear h
  have HRES := Aside0.mk hres
  clear hres
  have hu := Try.underlying105
  go_enter Try.func58, Try.ntmps58
  go_wp2_with (first
    | (go_at_call 34; refine (prop_rules.calls0 _).mono ?_; rintro e w' ⟨rfl, rfl⟩)
    | (go_at_call 74; refine (prop_readers.calls0 _).mono ?_; rintro e w' ⟨rfl, rfl⟩)
    | ((with_reducible refine gate_dst (N := 9) rfl ?_); refine box_event ?hg (N := 9) ?hd (cs := seenArr (fun _ => 0)) (t := 71) ?hr ?_; (case hd => rfl); (case hg => rfl); (case hr => kernel_rfl); intro gs hg w1 hbox hb)
    | (go_at_call 75; refine (octet_New.calls a1 a1 0 0 w _ ?s1 rfl).mono ?_; (case s1 => exact below_step (below_alloc (below_alloc (Below.refl _ _) _) _) hb); rintro e w2 ⟨gc, rfl, hi, hb1, hb2⟩))
  have hm2 : w2.heap[w.heap.size]? = some ruleObj := (hb2.block _ (by have := hb.size; simp at this; omega)).trans ((hb.block _ (by simp; omega)).trans (blk_alloc (heap_alloc_new w _) _))
  have hr2 : w2.heap[w.heap.size + 1]? = some readObj := (hb2.block _ (by have := hb.size; simp at this; omega)).trans ((hb.block _ (by simp)).trans (by have := heap_alloc_new (w.alloc ruleObj) readObj; simpa using this))
  have hs2 : w2.heap[w.heap.size + 1 + 1]? = some (seenObj (fun _ => 0)) := by
    have e : gs = w.heap.size + 1 + 1 := by rw [hg]; simp
    rw [e] at hbox
    exact blk_below hbox hb2
  have hS : SrcAt w (w2.alloc (.cells #[.pointer (some ⟨gc, 0, none⟩), .int .i64 0, .int .u32 0, .string ⟨#[]⟩, .string ⟨#[]⟩] 105)) w2.heap.size gc a1 0 0 0 0 ⟨#[]⟩ ⟨#[]⟩ :=
    ⟨hi.alloc _, heap_alloc_new w2 _, hb1.size, below_alloc hb1 _⟩
  have H0 : LHead a0 a1 (r1, r2) w _ w2.heap.size gc a1.size 0 (fun _ => 0) [] (.slice none 0 0) :=
    ⟨⟨blk_alloc hm2 _, blk_alloc hr2 _, blk_alloc hs2 _, Kd.R_nil _ _ _ _ _⟩, ⟨0, 0, _, _, hS⟩, HRES.out, by omega, by omega, by omega, fun _ => ⟨by omega, by simp⟩, by simp⟩
  generalize hgq : w2.heap.size = gq at *
  generalize hw3 : w2.alloc (.cells #[.pointer (some ⟨gc, 0, none⟩), .int .i64 0, .int .u32 0, .string ⟨#[]⟩, .string ⟨#[]⟩] 105) = w3 at *
  clear hm2 hr2 hs2 hS hbox hb hi hb1 hb2 hgq hw3 hg HRES
  go_loopg [8] a1.size (fun gk v8 wx => ∃ (at_ : Int) (c : Nat → Int) (out : List S27) (d : Nat), (a1.size : Int) - at_ = gk ∧ Aside0 (LHead a0 a1 (r1, r2) w wx gq gc d at_ c out v8))
  case atStart => exact ⟨0, fun _ => 0, [], a1.size, by omega, ⟨H0⟩⟩
  case round =>
    clear H0
    obtain ⟨at_, c, out, d, hk, HH⟩ := hrel
    obtain ⟨id0, n0, t0, v0, hS0⟩ := HH.out.src
    have hp := hS0.ptr
    have HS0 := Aside0.mk hS0
    clear hS0
    have hat0 := HH.out.at0
    have hat1 := HH.out.at1
    have HP := Aside0.mk HH.out.parts
    go_wp2_with fail
    refine (octet_Cursor_Left.calls gc a1 at_ 0 ((a1.size : Int) - at_) a1 at_ 0 w _ ?s1 ?s2 (left_f a1 at_ 0 hat0 hat1)).mono ?_
    case s1 => exact HS0.out.cur
    case s2 => exact HS0.out.bel
    rintro e w1 ⟨rfl, hi, hb, hk⟩
    have HS1 := Aside0.mk (HS0.out.moved hi hb hk)
    have HP1 := Aside0.mk (HP.out.keep2 HS0.out ((Keep2.refl _ _ _).but hk))
    clear hi hb hk hp HS0 HP
    have hp := HS1.out.ptr
    by_cases hgo : 0 < (a1.size : Int) - at_
    · have tgo : decide (0 < (a1.size : Int) - at_) = true := decide_eq_true hgo
      have htk := take_one a1 at_ hgo
      have hnum := number_f 20 a1 at_ 0 1 (by omega) hat0 hat1 hs
      rw [htk] at hnum
      go_wp2_with fail
      refine (octet_Cursor_Number.calls 20 gc a1 at_ 0 1 _ a1 (at_ + 1) 0 w _ ?s1 ?s2 hnum).mono ?_
      case s1 => exact HS1.out.cur
      case s2 => exact HS1.out.bel
      rintro e w2 ⟨rfl, hi, hb, hk⟩
      have HS2 := Aside0.mk (HS1.out.moved hi hb hk)
      have HP2 := Aside0.mk (HP1.out.keep2 HS1.out ((Keep2.refl _ _ _).but hk))
      clear hi hb hk hp HS1 HP1 hnum htk
      have hl := run_rule_lookup w2 w.heap.size (wrap64 (getS (takeS a1 at_ 0 1).1)) HP2.out.map
      unfold ruleVal at hl
      obtain ⟨d, rfl⟩ : ∃ m, d = m + 1 := ⟨d - 1, by have := HH.out.fuel; omega⟩
      have hleft := HH.out.left
      rw [listTo, if_neg (fun q => q hgo)] at hleft
      have HL := Aside0.mk hleft
      clear hleft
      go_wp2_with fail
      clear hl
      have hidA : wrap64 (getS (takeS a1 at_ 0 1).1) = idAt a1 at_ := rfl
      rw [hidA]
      generalize idAt a1 at_ = id at *
      clear hidA
      have hrs := rule_shape id a0
      generalize ruleOf id = ru at *
      refine (prop_rule_has.calls ru.1 ru.2.1 ru.2.2.1 ru.2.2.2 a0 (hasS ru a0) _ (has_f _ _ _ _ _)).mono ?_
      rintro e w3 ⟨rfl, hb⟩
      have HS3 := Aside0.mk ((HS2.out.grown (below_alloc (Below.refl _ _) _)).grown hb)
      have HP3 := Aside0.mk ((HP2.out.below (below_alloc (Below.refl _ _) _)).below hb)
      have HR3 := Aside0.mk (blk_below (heap_alloc_new w2 (.cells #[.int .i64 ru.1, .int .i64 ru.2.1, .int .u32 ru.2.2.1, .int .u32 ru.2.2.2] 65)) hb)
      have hgr : w2.heap.size < w3.heap.size := by have := hb.size; simp at this; omega
      clear hb HS2 HP2
      cases hh : hasS ru a0 with
      | false =>
        have hr := HL.out
        rw [hh, if_pos rfl] at hr
        obtain ⟨rfl, rfl⟩ := Prod.mk.inj hr
        clear hr HL
        go_wp2
        go_ret2
        exact ⟨_, rfl, Kd.R_nil _ _ _ _ _, HS3.out.bel⟩
      | true =>
        have hr := HL.out
        rw [hh, if_neg (by decide)] at hr
        have HL3 := Aside0.mk hr
        obtain ⟨⟨f, hf⟩, hid0, hid1⟩ := hrs hh
        clear hr HL hh hrs
        have hx1 := HS3.out.f1
        have hx2 := HS3.out.f2
        have hx3 := HS3.out.f3
        have hx4 := HS3.out.f4
        have hz1 := HS3.out.fz 1
        have hz2 := HS3.out.fz 2
        have hz3 := HS3.out.fz 3
        have hz4 := HS3.out.fz 4
        have hcu : w3.cell? ⟨w2.heap.size, 0, none⟩ = some (.int .i64 ru.1) := (blk_cell HR3.out 0).trans rfl
        have HS4 := Aside0.mk (HS3.out.fresh4 id 0 ⟨#[]⟩ ⟨#[]⟩)
        have HP4 := Aside0.mk (HP3.out.keep2 HS3.out (((((Keep2.refl _ _ _).set 1 (.int .i64 id)).set 2 (.int .u32 0)).set 3 (.string ⟨#[]⟩)).set 4 (.string ⟨#[]⟩)))
        have hne : w2.heap.size ≠ gq := blk_ne HR3.out HS3.out.src (by decide)
        have HR4 := Aside0.mk (blk_far (blk_far (blk_far (blk_far HR3.out (p := ⟨gq, 1, none⟩) hne (.int .i64 id)) (p := ⟨gq, 2, none⟩) hne (.int .u32 0)) (p := ⟨gq, 3, none⟩) hne (.string ⟨#[]⟩)) (p := ⟨gq, 4, none⟩) hne (.string ⟨#[]⟩))
        have hlr := run_read_lookup _ (w.heap.size + 1) ru.1 f HP4.out.rd hf
        have hent := fun args W => reader_enters ru.1 f hf args W
        go_wp2_with fail
        clear hlr hent hx1 hx2 hx3 hx4 hz1 hz2 hz3 hz4 hcu
        refine (value_calls w _ gq gc a1 (at_ + 1) id ru.1 f hf HS4.out (by omega) (by omega) hs).mono ?_
        rintro e w5 ⟨rfl, hS5, hk5⟩
        have HP5 := Aside0.mk (HP4.out.keep2 HS4.out hk5)
        have hne2 : w2.heap.size ≠ gc := blk_ne HR4.out HS4.out.cur.1 (by decide)
        have HR5 := Aside0.mk ((hk5.2 w2.heap.size (blk_lt HR4.out) hne hne2).trans HR4.out)
        have HS5 := Aside0.mk hS5
        have HVA := Aside0.mk (value_at ru.1 a1 (at_ + 1) (by omega) (by omega))
        generalize valueS ru.1 a1 (at_ + 1) = va at *
        clear hS5 hk5 HP4 HS4 HR4 HS3 HP3 HR3
        have hp := HS5.out.ptr
        go_wp2_with fail
        refine (octet_Cursor_Err.calls gc a1 va.2.2.2.1 va.2.2.2.2 va.2.2.2.2 a1 va.2.2.2.1 va.2.2.2.2 w _ ?s1 ?s2 rfl).mono ?_
        case s1 => exact HS5.out.cur
        case s2 => exact HS5.out.bel
        rintro e w6 ⟨rfl, hi, hb, hk⟩
        have HS6 := Aside0.mk (HS5.out.moved hi hb hk)
        have HP6 := Aside0.mk (HP5.out.keep2 HS5.out ((Keep2.refl _ _ _).but hk))
        have HR6 := Aside0.mk ((hk.2 w2.heap.size (blk_lt HR5.out) hne2 (by simp)).trans HR5.out)
        clear hi hb hk hp HS5 HP5 HR5
        by_cases hve : va.2.2.2.2 = 0
        · have t1 : (va.2.2.2.2 != 0) = false := by rw [hve]; rfl
          have hr := HL3.out
          rw [if_neg (fun q => q hve)] at hr
          have HL4 := Aside0.mk hr
          have hx1 := HS6.out.f1
          have hx2 := HS6.out.f2
          have hx3 := HS6.out.f3
          have hx4 := HS6.out.f4
          have hc0 : w6.cell? ⟨w2.heap.size, 0, none⟩ = some (.int .i64 ru.1) := (blk_cell HR6.out 0).trans rfl
          have hc1 : w6.cell? ⟨w2.heap.size, 1, none⟩ = some (.int .i64 ru.2.1) := (blk_cell HR6.out 1).trans rfl
          have hc2 : w6.cell? ⟨w2.heap.size, 2, none⟩ = some (.int .u32 ru.2.2.1) := (blk_cell HR6.out 2).trans rfl
          have hc3 : w6.cell? ⟨w2.heap.size, 3, none⟩ = some (.int .u32 ru.2.2.2) := (blk_cell HR6.out 3).trans rfl
          rw [hve] at HS6
          clear hr HL3
          have HVE := Aside0.mk hve
          clear hve
          go_wp2_with fail
          clear hx1 hx2 hx3 hx4 hc0 hc1 hc2 hc3
          refine (prop_check.calls 2 ru.1 ru.2.1 ru.2.2.1 ru.2.2.2 a0 id va.1 va.2.1 va.2.2.1 (checkS ru a0 ⟨id, va.1, va.2.1, va.2.2.1⟩) _ (check_f 0 ru a0 ⟨id, va.1, va.2.1, va.2.2.1⟩)).mono ?_
          rintro e w7 ⟨rfl, hb⟩
          have HS7 := Aside0.mk (HS6.out.grown hb)
          have HP7 := Aside0.mk (HP6.out.below hb)
          clear hb HS6 HP6 HR6
          obtain ⟨P, hP⟩ : ∃ P : S27, P = ⟨id, va.1, va.2.1, va.2.2.1⟩ := ⟨_, rfl⟩
          rw [← hP] at HL4 ⊢
          by_cases hck : checkS ru a0 P = 0
          · have t2 : (checkS ru a0 P != 0) = false := by rw [hck]; rfl
            have hr := HL4.out
            rw [if_neg (fun q => q hck)] at hr
            have HL5 := Aside0.mk hr
            clear hr HL4 hck
            generalize checkS ru a0 P = ck at *
            have hcn := HH.out.cnt id.toNat
            have hln := HH.out.len
            have hag := again_yes (w.heap.size + 1 + 1) c a0 id w7 HP7.out.seen (by omega) (by omega) hcn.1 (by omega)
            have HCN := Aside0.mk hcn
            clear hcn
            go_wp2_with fail
            refine hag.mono ?_
            clear hag
            rintro e w8 ⟨rfl, hs8, hg8⟩
            have HS8 := Aside0.mk (HS7.out.counted hg8 HP7.out.seen (by omega))
            have HP8 := Aside0.mk (HP7.out.counted hg8 hs8)
            clear hs8 hg8 HS7 HP7
            generalize hbb : (decide (1 < c id.toNat + 1) && !oftenB a0 id) = bb at *
            cases bb with
            | true =>
              have hr := HL5.out
              rw [if_pos rfl] at hr
              obtain ⟨rfl, rfl⟩ := Prod.mk.inj hr
              clear hr HL5
              go_wp2
              go_ret2
              exact ⟨_, rfl, Kd.R_nil _ _ _ _ _, HS8.out.bel⟩
            | false =>
              have hr := HL5.out
              rw [if_neg (by simp)] at hr
              have HL6 := Aside0.mk hr
              clear hr HL5
              obtain ⟨A8, c8, rfl⟩ := Kd.R_slice HP8.out.own
              by_cases hl1 : out.length = 1000
              · have t3 : ((out.length : Int) == 1000) = true := beq_iff_eq.2 (by omega)
                have hr := HL6.out
                rw [if_pos hl1] at hr
                obtain ⟨rfl, rfl⟩ := Prod.mk.inj hr
                clear hr HL6 hl1
                go_wp2
                go_ret2
                exact ⟨_, rfl, Kd.R_nil _ _ _ _ _, HS8.out.bel⟩
              · have t3 : ((out.length : Int) == 1000) = false := beq_eq_false_iff_ne.2 (by omega)
                have hr := HL6.out
                rw [if_neg hl1] at hr
                have HL7 := Aside0.mk hr
                have hx1 := HS8.out.f1
                have hx2 := HS8.out.f2
                have hx3 := HS8.out.f3
                have hx4 := HS8.out.f4
                have HLN := Aside0.mk hl1
                clear hr HL6 hl1
                go_wp2_with (((with_reducible refine gate_dst (N := 67) rfl ?_); refine Kd.R_append k27 (w0 := w) w.heap.size (by rfl) (.tmp 63) (.tmp 66) 32 27 (.agg #[(.int .i64 0), (.int .u32 0), (.string ⟨#[]⟩), (.string ⟨#[]⟩)]) 48 rfl Try.underlying32 info27 rfl (by decide) (by omega) (.slice A8 out.length c8) out ⟨id, va.1, va.2.1, va.2.2.1⟩ [.int .i64 id, .int .u32 va.1, .string va.2.1, .string va.2.2.1] (fun _ => True) (fun _ => False) rfl rfl (k27_mkM _ _ _ ⟨id, va.1, va.2.1, va.2.2.1⟩) (fun _ h => h.elim) (fun _ _ => trivial) HP8.out.own HS8.out.bel HS8.out.bel.size (by omega) ?_; intro v9 w9 ho9 hb9 hg9 hat9))
                have hown : ∀ k, (.slice A8 out.length c8 : Value).ownBlock = some k → ∃ cells, w8.heap[k]? = some (.cells cells 27 (0, 0)) := by
                  obtain ⟨inner, ho⟩ := Kd.R_own HP8.out.own
                  exact fun k hk => own_typed ho k hk
                have hnot : ∀ (g : Nat) (o : Obj), w8.heap[g]? = some o → (∀ cells, o ≠ .cells cells 27 (0, 0)) → some g ≠ (.slice A8 out.length c8 : Value).ownBlock := by
                  intro g o ho hn e
                  obtain ⟨cells, hc⟩ := hown g e.symm
                  rw [hc] at ho
                  exact hn cells (Option.some.inj ho).symm
                have hS9 : SrcAt w w9 gq gc a1 va.2.2.2.1 0 id va.1 va.2.1 va.2.2.1 :=
                  ⟨HS8.out.cur.grown hg9 (hnot _ _ HS8.out.cur.1 (fun cells e => by simp at e)), blk_grown HS8.out.src hg9 (hnot _ _ HS8.out.src (fun cells e => by simp [srcObj] at e)), HS8.out.lo, hb9⟩
                have hP9 : LParts w w9 (upd c id.toNat (c id.toNat + 1)) (out ++ [⟨id, va.1, va.2.1, va.2.2.1⟩]) v9 :=
                  ⟨blk_grown HP8.out.map hg9 (hnot _ _ HP8.out.map (fun cells e => by simp [ruleObj] at e)), blk_grown HP8.out.rd hg9 (hnot _ _ HP8.out.rd (fun cells e => by simp [readObj] at e)), blk_grown HP8.out.seen hg9 (hnot _ _ HP8.out.seen (fun cells e => by simp [seenObj] at e)), ho9⟩
                have hva := HVA.out
                have hlen8 := HLN.out
                have hfu := HH.out.fuel
                have hH9 : LHead a0 a1 (r1, r2) w w9 gq gc d va.2.2.2.1 (upd c id.toNat (c id.toNat + 1)) (out ++ [⟨id, va.1, va.2.1, va.2.2.1⟩]) v9 := by
                  refine ⟨hP9, ⟨_, _, _, _, hS9⟩, ?_, by omega, hva.2, by omega, ?_, by simp; omega⟩
                  · rw [← hP]; exact HL7.out
                  · intro j
                    have q1 := HH.out.cnt j
                    have q2 := HH.out.cnt id.toNat
                    unfold upd
                    simp only [List.length_append, List.length_cons, List.length_nil]
                    split <;> omega
                have HF := Aside0.mk hH9
                clear hH9 hP9 hS9 hnot hown ho9 hb9 hg9 hat9 HL7 HP8 HS8 hP HCN HVE
                go_wp2
                go_roundg (((a1.size : Int) - va.2.2.2.1).toNat)
                case measure => omega
                case rel => exact ⟨va.2.2.2.1, _, _, d, by omega, HF⟩
          · have t2 : (checkS ru a0 P != 0) = true := bne_iff_ne.2 hck
            have hr := HL4.out
            rw [if_pos hck] at hr
            obtain ⟨rfl, rfl⟩ := Prod.mk.inj hr
            clear hr HL4 hck
            subst hP
            go_wp2
            go_ret2
            exact ⟨_, rfl, Kd.R_nil _ _ _ _ _, HS7.out.bel⟩
        · have t1 : (va.2.2.2.2 != 0) = true := bne_iff_ne.2 hve
          have hr := HL3.out
          rw [if_pos hve] at hr
          obtain ⟨rfl, rfl⟩ := Prod.mk.inj hr
          clear hr HL3 hve
          go_wp2
          go_ret2
          exact ⟨_, rfl, Kd.R_nil _ _ _ _ _, HS6.out.bel⟩
    · have tgo : decide (0 < (a1.size : Int) - at_) = false := decide_eq_false hgo
      have hleft : (if decide (0 < c 22) && c 21 == 0 then ([], 9) else (out, 0)) = (r1, r2) := by
        have := HH.out.left
        cases d with
        | zero => exact this
        | succ d => rw [listTo, if_pos hgo] at this; exact this
      have hlo := lone_any (w.heap.size + 1 + 1) c w1 HP1.out.seen
      generalize (decide (0 < c 22) && c 21 == 0) = b at *
      obtain ⟨A8, c8, rfl⟩ := Kd.R_slice HP1.out.own
      have HLO := Aside0.mk hlo
      clear hlo
      cases b with
      | true =>
        obtain ⟨rfl, rfl⟩ := Prod.mk.inj (show (([], 9) : List S27 × Int) = (r1, r2) from hleft)
        clear hleft
        go_wp2_with (go_at_call 39; refine HLO.out.mono ?_; rintro e w' ⟨rfl, rfl⟩)
        go_ret2
        exact ⟨_, rfl, Kd.R_nil _ _ _ _ _, HS1.out.bel⟩
      | false =>
        obtain ⟨rfl, rfl⟩ := Prod.mk.inj (show ((out, 0) : List S27 × Int) = (r1, r2) from hleft)
        clear hleft
        go_wp2_with (go_at_call 39; refine HLO.out.mono ?_; rintro e w' ⟨rfl, rfl⟩)
        go_ret2
        exact ⟨_, rfl, HP1.out.own, HS1.out.bel⟩
end Go.Proofs.Ytngmipfobcaojaa.HA
end

-- YtngmipfobcaojaaHA78
section
-- Written by hp.py (a driver over the kit's print). Not trusted: Lean checks it.
namespace Go.Proofs.Ytngmipfobcaojaa.HA
open Go.RowKit Go.Proofs.YtngmipfobcaojaaW.PrintWords Go.Proofs.YtngmipfobcaojaaW.PrintLast Go.Proofs.YtngmipfobcaojaaW.PrintMore
attribute [local go_sem] max2_int min2_int max_two min_two max_three min_three max_four min_four   -- for this text's walks alone
set_option linter.unusedVariables false
set_option linter.unusedSimpArgs false

/-! ### prop_Read: function 27 -/
def prop_Read.f (k : Nat) (a0 : Int) (a1 : ByteArray) : Option ((List (S27)) × Int × Int) := (varint_Read.f k a1).bind fun bt304 => (if bt304.2.2 = 0 then (if bt304.1 > (wrap64 ((a1.size : Int) - bt304.2.1)) then (some (([] : List (S27)), 0, 3)) else (if 0 ≤ bt304.2.1 then (if bt304.2.1 ≤ (wrap64 (bt304.2.1 + bt304.1)) then (if (wrap64 (bt304.2.1 + bt304.1)) ≤ (a1.size : Int) then ((prop_list.f a0 (a1.extract (bt304.2.1 : Int).toNat ((wrap64 (bt304.2.1 + bt304.1)) : Int).toNat)).bind fun bt307 => (if bt307.2 = 0 then (some (bt307.1, wrap64 (bt304.2.1 + bt304.1), 0)) else (some (([] : List (S27)), 0, bt307.2)))) else (none)) else (none)) else (none))) else (some (([] : List (S27)), 0, bt304.2.2)))
theorem prop_Read.mono : ∀ a0 a1 k, LeO (prop_Read.f k a0 a1) (prop_Read.f (k + 1) a0 a1) := by
  intro a0 a1 k
  unfold prop_Read.f
  repeat' first
      | (with_reducible exact varint_Read.mono _ _)
      | (with_reducible exact LeO.refl _)
      | (with_reducible exact LeO.none _)
      | (with_reducible refine LeO.ite ?_ ?_)
      | (with_reducible refine LeO.bind ?_ (fun _ => ?_))
      | exact varint_Read.mono _ _
      | exact LeO.none _
      | refine LeO.ite ?_ ?_
      | refine LeO.bind ?_ (fun _ => ?_)
set_option maxHeartbeats 8000000 in
set_option maxRecDepth 100000 in
theorem prop_Read.calls (k : Nat) (a0 : Int) (a1 : ByteArray) (r1 : List (S27)) (r2 : Int) (r3 : Int) (w : World) (h : prop_Read.f k a0 a1 = some (r1, r2, r3)) :
    Calls Try.prog 27 #[.int .i64 a0, .string a1] w fun e w' => ∃ v0_ : Value, e = .returned (.tuple #[v0_, .int .i64 r2, .int .i64 r3]) ∧ Kd.R k27 27 w' w.heap.size (fun _ => True) v0_ r1 ∧ Below w.heap.size w w' := by
  have HB := Aside0.mk (Below.refl w.heap.size w)
  have H : ((varint_Read.f k a1).bind fun bt304 => (if bt304.2.2 = 0 then (if bt304.1 > (wrap64 ((a1.size : Int) - bt304.2.1)) then (some (([] : List (S27)), 0, 3)) else (if 0 ≤ bt304.2.1 then (if bt304.2.1 ≤ (wrap64 (bt304.2.1 + bt304.1)) then (if (wrap64 (bt304.2.1 + bt304.1)) ≤ (a1.size : Int) then ((prop_list.f a0 (a1.extract (bt304.2.1 : Int).toNat ((wrap64 (bt304.2.1 + bt304.1)) : Int).toNat)).bind fun bt307 => (if bt307.2 = 0 then (some (bt307.1, wrap64 (bt304.2.1 + bt304.1), 0)) else (some (([] : List (S27)), 0, bt307.2)))) else (none)) else (none)) else (none))) else (some (([] : List (S27)), 0, bt304.2.2)))) = some (r1, r2, r3) := h
  clear h
  replace H := Option.bind_eq_some_iff.mp H
  obtain ⟨⟨t304, t305, t306⟩, A30, H⟩ := H
  replace H : (if t306 = 0 then (if t304 > (wrap64 ((a1.size : Int) - t305)) then (some (([] : List (S27)), 0, 3)) else (if 0 ≤ t305 then (if t305 ≤ (wrap64 (t305 + t304)) then (if (wrap64 (t305 + t304)) ≤ (a1.size : Int) then ((prop_list.f a0 (a1.extract (t305 : Int).toNat ((wrap64 (t305 + t304)) : Int).toNat)).bind fun bt307 => (if bt307.2 = 0 then (some (bt307.1, wrap64 (t305 + t304), 0)) else (some (([] : List (S27)), 0, bt307.2)))) else (none)) else (none)) else (none))) else (some (([] : List (S27)), 0, t306))) = some (r1, r2, r3) := H
  have A3 := Aside0.mk A30
  clear A30
  by_cases c4 : t306 = 0
  · rw [if_pos c4] at H
    have c4b0 : (t306 == 0) = true := beq_iff_eq.mpr c4
    have c4b1 : (t306 != 0) = false := bne_eq_false_iff_eq.mpr c4
    clear c4
    by_cases c5 : t304 > (wrap64 ((a1.size : Int) - t305))
    · rw [if_pos c5] at H
      have c5b0 : decide ((wrap64 ((a1.size : Int) - t305)) < t304) = true := decide_eq_true c5
      clear c5
      simp only [Option.some.injEq, Prod.mk.injEq] at H
      obtain ⟨rfl, rfl, rfl⟩ := H
      go_enter Try.func27, Try.ntmps27
      go_wp2_with (first | ((with_reducible refine gate_callee (f := 57) rfl ?_); refine goesL_ (some 10) rfl rfl Try.func57 (by kernel_rfl) rfl #[.string a1] rfl (by (try simp only [List.map_toArray, List.map_cons, List.map_nil]); first | done | rfl | (simp only [List.length_drop, List.length_take]; rfl)) ?_; (with_reducible refine (varint_Read.calls k a1 t304 t305 t306 _ A3.out).mono ?_); rintro e w6 ⟨rfl, hb⟩; refine ⟨_, rfl, ?_⟩; have n0_ := Aside0.mk (below_step (by repeat (first | (with_reducible first | exact HB.out | apply below_alloc | apply pw_below_drewN | apply below_drew1) | exact HB.out)) hb); clear HB; have HB := n0_; clear n0_; (try clear hb); (try clear hb2); (try clear hk); (try clear hi)))
      go_ret3
      exact ⟨_, by first | rfl | (simp [errW_none, errW_some] <;> rfl) | (simp [*, errW_none, errW_some] <;> rfl), by first | exact Kd.R_nil _ _ _ _ _ | exact Kd.N_nil _ _ _ _ _ | exact Kd.V_nil _ _ _ _ _ | exact Kd.Q_nil _ _ _ _ _ | exact Kd.S_nil _ _ _ _ _, by repeat (first | (with_reducible first | exact HB.out | apply below_alloc | apply pw_below_drewN | apply below_drew1) | exact HB.out)⟩
    · rw [if_neg c5] at H
      have c5b0 : decide ((wrap64 ((a1.size : Int) - t305)) < t304) = false := decide_eq_false c5
      clear c5
      by_cases c7 : 0 ≤ t305
      · rw [if_pos c7] at H
        have c7b0 := eq_true c7
        have c7b1 : decide (0 ≤ t305) = true := decide_eq_true c7
        clear c7
        by_cases c8 : t305 ≤ (wrap64 (t305 + t304))
        · rw [if_pos c8] at H
          have c8b0 := eq_true c8
          have c8b1 : decide (t305 ≤ (wrap64 (t305 + t304))) = true := decide_eq_true c8
          by_cases c9 : (wrap64 (t305 + t304)) ≤ (a1.size : Int)
          · rw [if_pos c9] at H
            have c9b0 := eq_true c9
            have c9b1 : decide ((wrap64 (t305 + t304)) ≤ (a1.size : Int)) = true := decide_eq_true c9
            replace H := Option.bind_eq_some_iff.mp H
            obtain ⟨⟨t307, t308⟩, A100, H⟩ := H
            replace H : (if t308 = 0 then (some (t307, wrap64 (t305 + t304), 0)) else (some (([] : List (S27)), 0, t308))) = some (r1, r2, r3) := H
            have A10 := Aside0.mk A100
            clear A100
            by_cases c11 : t308 = 0
            · rw [if_pos c11] at H
              have c11b0 : (t308 == 0) = true := beq_iff_eq.mpr c11
              have c11b1 : (t308 != 0) = false := bne_eq_false_iff_eq.mpr c11
              clear c11
              simp only [Option.some.injEq, Prod.mk.injEq] at H
              obtain ⟨rfl, rfl, rfl⟩ := H
              go_enter Try.func27, Try.ntmps27
              go_wp2_with (first | ((with_reducible refine gate_callee (f := 57) rfl ?_); refine goesL_ (some 10) rfl rfl Try.func57 (by kernel_rfl) rfl #[.string a1] rfl (by (try simp only [List.map_toArray, List.map_cons, List.map_nil]); first | done | rfl | (simp only [List.length_drop, List.length_take]; rfl)) ?_; (with_reducible refine (varint_Read.calls k a1 t304 t305 t306 _ A3.out).mono ?_); rintro e w12 ⟨rfl, hb⟩; refine ⟨_, rfl, ?_⟩; have n0_ := Aside0.mk (below_step (by repeat (first | (with_reducible first | exact HB.out | apply below_alloc | apply pw_below_drewN | apply below_drew1) | exact HB.out)) hb); clear HB; have HB := n0_; clear n0_; (try clear hb); (try clear hb2); (try clear hk); (try clear hi)) | ((with_reducible refine gate_callee (f := 58) rfl ?_); refine goesL_ (some 31) rfl rfl Try.func58 (by kernel_rfl) rfl #[.int .i64 a0, .string (a1.extract (t305 : Int).toNat ((wrap64 (t305 + t304)) : Int).toNat)] rfl (by (try simp only [List.map_toArray, List.map_cons, List.map_nil]); first | done | rfl | (simp only [List.length_drop, List.length_take]; rfl)) ?_; (with_reducible refine (prop_list.calls a0 (a1.extract (t305 : Int).toNat ((wrap64 (t305 + t304)) : Int).toNat) t307 t308 _ A10.out).mono ?_); rintro e w13 ⟨v309, rfl, ho0, hb⟩; refine ⟨_, rfl, ?_⟩; have n0_ := Aside0.mk (Kd.R_lower ho0 (below_size (by repeat (first | (with_reducible first | exact HB.out | apply below_alloc | apply pw_below_drewN | apply below_drew1) | exact HB.out)))); have n1_ := Aside0.mk (below_step (by repeat (first | (with_reducible first | exact HB.out | apply below_alloc | apply pw_below_drewN | apply below_drew1) | exact HB.out)) hb); clear HB; have HO310 := n0_; have HB := n1_; clear n0_ n1_; (try clear hb); (try clear hb2); (try clear hk); (try clear hi); (try clear ho0)))
              go_ret3
              exact ⟨_, by first | rfl | (simp [errW_none, errW_some] <;> rfl) | (simp [*, errW_none, errW_some] <;> rfl), by (with_reducible repeat (first | apply Kd.R_alloc | apply Kd.R_drewN | apply Kd.R_drew)); exact HO310.out, by repeat (first | (with_reducible first | exact HB.out | apply below_alloc | apply pw_below_drewN | apply below_drew1) | exact HB.out)⟩
            · rw [if_neg c11] at H
              have c11b0 : (t308 == 0) = false := beq_eq_false_iff_ne.mpr c11
              have c11b1 : (t308 != 0) = true := bne_iff_ne.mpr c11
              simp only [Option.some.injEq, Prod.mk.injEq] at H
              obtain ⟨rfl, rfl, rfl⟩ := H
              go_enter Try.func27, Try.ntmps27
              go_wp2_with (first | ((with_reducible refine gate_callee (f := 57) rfl ?_); refine goesL_ (some 10) rfl rfl Try.func57 (by kernel_rfl) rfl #[.string a1] rfl (by (try simp only [List.map_toArray, List.map_cons, List.map_nil]); first | done | rfl | (simp only [List.length_drop, List.length_take]; rfl)) ?_; (with_reducible refine (varint_Read.calls k a1 t304 t305 t306 _ A3.out).mono ?_); rintro e w14 ⟨rfl, hb⟩; refine ⟨_, rfl, ?_⟩; have n0_ := Aside0.mk (below_step (by repeat (first | (with_reducible first | exact HB.out | apply below_alloc | apply pw_below_drewN | apply below_drew1) | exact HB.out)) hb); clear HB; have HB := n0_; clear n0_; (try clear hb); (try clear hb2); (try clear hk); (try clear hi)) | ((with_reducible refine gate_callee (f := 58) rfl ?_); refine goesL_ (some 31) rfl rfl Try.func58 (by kernel_rfl) rfl #[.int .i64 a0, .string (a1.extract (t305 : Int).toNat ((wrap64 (t305 + t304)) : Int).toNat)] rfl (by (try simp only [List.map_toArray, List.map_cons, List.map_nil]); first | done | rfl | (simp only [List.length_drop, List.length_take]; rfl)) ?_; (with_reducible refine (prop_list.calls a0 (a1.extract (t305 : Int).toNat ((wrap64 (t305 + t304)) : Int).toNat) t307 t308 _ A10.out).mono ?_); rintro e w15 ⟨v309, rfl, ho0, hb⟩; refine ⟨_, rfl, ?_⟩; have n0_ := Aside0.mk (Kd.R_lower ho0 (below_size (by repeat (first | (with_reducible first | exact HB.out | apply below_alloc | apply pw_below_drewN | apply below_drew1) | exact HB.out)))); have n1_ := Aside0.mk (below_step (by repeat (first | (with_reducible first | exact HB.out | apply below_alloc | apply pw_below_drewN | apply below_drew1) | exact HB.out)) hb); clear HB; have HO310 := n0_; have HB := n1_; clear n0_ n1_; (try clear hb); (try clear hb2); (try clear hk); (try clear hi); (try clear ho0)))
              go_ret3
              exact ⟨_, by first | rfl | (simp [errW_none, errW_some] <;> rfl) | (simp [*, errW_none, errW_some] <;> rfl), by first | exact Kd.R_nil _ _ _ _ _ | exact Kd.N_nil _ _ _ _ _ | exact Kd.V_nil _ _ _ _ _ | exact Kd.Q_nil _ _ _ _ _ | exact Kd.S_nil _ _ _ _ _, by repeat (first | (with_reducible first | exact HB.out | apply below_alloc | apply pw_below_drewN | apply below_drew1) | exact HB.out)⟩
          · rw [if_neg c9] at H
            exact absurd H (by simp)
        · rw [if_neg c8] at H
          exact absurd H (by simp)
      · rw [if_neg c7] at H
        exact absurd H (by simp)
  · rw [if_neg c4] at H
    have c4b0 : (t306 == 0) = false := beq_eq_false_iff_ne.mpr c4
    have c4b1 : (t306 != 0) = true := bne_iff_ne.mpr c4
    simp only [Option.some.injEq, Prod.mk.injEq] at H
    obtain ⟨rfl, rfl, rfl⟩ := H
    go_enter Try.func27, Try.ntmps27
    go_wp2_with (first | ((with_reducible refine gate_callee (f := 57) rfl ?_); refine goesL_ (some 10) rfl rfl Try.func57 (by kernel_rfl) rfl #[.string a1] rfl (by (try simp only [List.map_toArray, List.map_cons, List.map_nil]); first | done | rfl | (simp only [List.length_drop, List.length_take]; rfl)) ?_; (with_reducible refine (varint_Read.calls k a1 t304 t305 t306 _ A3.out).mono ?_); rintro e w16 ⟨rfl, hb⟩; refine ⟨_, rfl, ?_⟩; have n0_ := Aside0.mk (below_step (by repeat (first | (with_reducible first | exact HB.out | apply below_alloc | apply pw_below_drewN | apply below_drew1) | exact HB.out)) hb); clear HB; have HB := n0_; clear n0_; (try clear hb); (try clear hb2); (try clear hk); (try clear hi)))
    go_ret3
    exact ⟨_, by first | rfl | (simp [errW_none, errW_some] <;> rfl) | (simp [*, errW_none, errW_some] <;> rfl), by first | exact Kd.R_nil _ _ _ _ _ | exact Kd.N_nil _ _ _ _ _ | exact Kd.V_nil _ _ _ _ _ | exact Kd.Q_nil _ _ _ _ _ | exact Kd.S_nil _ _ _ _ _, by repeat (first | (with_reducible first | exact HB.out | apply below_alloc | apply pw_below_drewN | apply below_drew1) | exact HB.out)⟩

end Go.Proofs.Ytngmipfobcaojaa.HA
end

-- YtngmipfobcaojaaHA82
section
-- Written by hp.py (a driver over the kit's print). Not trusted: Lean checks it.
namespace Go.Proofs.Ytngmipfobcaojaa.HA
open Go.RowKit Go.Proofs.YtngmipfobcaojaaW.PrintWords Go.Proofs.YtngmipfobcaojaaW.PrintLast Go.Proofs.YtngmipfobcaojaaW.PrintMore
attribute [local go_sem] max2_int min2_int max_two min_two max_three min_three max_four min_four   -- for this text's walks alone
set_option linter.unusedVariables false
set_option linter.unusedSimpArgs false

attribute [local go_sem high] eqA27
/-! ### api_Prop_29: function 29 -/
def api_Prop_29.l0 : Nat → List (S27) → List (S27) → Int → Option (Bool)
  | 0, _, _, _ => none
  | k + 1, x0, x1, x5 => if x5 < (x0.length : Int) then (if 0 ≤ x5 then (if x5 < (x1.length : Int) then (if (!(((rd_T27 x0 x5).f0) == ((rd_T27 x1 x5).f0)) || (!(((rd_T27 x0 x5).f1) == ((rd_T27 x1 x5).f1)) || (!((((rd_T27 x0 x5).f2).toList) == (((rd_T27 x1 x5).f2).toList)) || (!((((rd_T27 x0 x5).f3).toList) == (((rd_T27 x1 x5).f3).toList)))))) = true then (some false) else (api_Prop_29.l0 k x0 x1 (wrap64 (x5 + 1)))) else (none)) else (none)) else (some true)
def api_Prop_29.f (k : Nat) (l0 : List (S27)) (l1 : List (S27)) : Option (Bool) := if (l0.length : Int) = (l1.length : Int) then (api_Prop_29.l0 k l0 l1 0) else (some false)
theorem api_Prop_29.mono_l : ∀ k, (∀ y0 y1 y2, LeO (api_Prop_29.l0 k y0 y1 y2) (api_Prop_29.l0 (k + 1) y0 y1 y2))
  | 0 => fun _ _ _ r h => by simp [api_Prop_29.l0] at h
  | k + 1 => by
    have ih0 := api_Prop_29.mono_l k
    · intro y0 y1 y2
      unfold api_Prop_29.l0
      repeat' first
      | (with_reducible exact ih0 _ _ _)
      | (with_reducible exact LeO.refl _)
      | (with_reducible exact LeO.none _)
      | (with_reducible refine LeO.ite ?_ ?_)
      | (with_reducible refine LeO.bind ?_ (fun _ => ?_))
      | exact ih0 _ _ _
      | exact LeO.none _
      | refine LeO.ite ?_ ?_
      | refine LeO.bind ?_ (fun _ => ?_)
theorem api_Prop_29.mono : ∀ a0 a1 k, LeO (api_Prop_29.f k a0 a1) (api_Prop_29.f (k + 1) a0 a1) := by
  intro a0 a1 k
  have ih0 := api_Prop_29.mono_l k
  unfold api_Prop_29.f
  repeat' first
      | (with_reducible exact ih0 _ _ _)
      | (with_reducible exact LeO.refl _)
      | (with_reducible exact LeO.none _)
      | (with_reducible refine LeO.ite ?_ ?_)
      | (with_reducible refine LeO.bind ?_ (fun _ => ?_))
      | exact ih0 _ _ _
      | exact LeO.none _
      | refine LeO.ite ?_ ?_
      | refine LeO.bind ?_ (fun _ => ?_)
set_option maxHeartbeats 8000000 in
set_option maxRecDepth 100000 in
theorem api_Prop_29.calls (k : Nat) (A0 : Option Addr) (c0 : Nat) (l0 : List (S27)) (A1 : Option Addr) (c1 : Nat) (l1 : List (S27)) (r : Bool) (w : World) (hr0 : Kd.C k27 w A0 l0.length l0) (hc0 : l0.length ≤ c0) (hr1 : Kd.C k27 w A1 l1.length l1) (hc1 : l1.length ≤ c1) (h : api_Prop_29.f k l0 l1 = some r) :
    Calls Try.prog 29 #[.slice A0 l0.length c0, .slice A1 l1.length c1] w fun e w' => e = .returned (.bool r) ∧ Drawn0 w w' := by
  have hu27 := Try.underlying27
  have HR0 := Aside0.mk hr0
  have HC0 := Aside0.mk hc0
  clear hr0 hc0
  have HR1 := Aside0.mk hr1
  have HC1 := Aside0.mk hc1
  clear hr1 hc1
  have H : (if (l0.length : Int) = (l1.length : Int) then (api_Prop_29.l0 k l0 l1 0) else (some false)) = some r := h
  clear h
  by_cases c3 : (l0.length : Int) = (l1.length : Int)
  · rw [if_pos c3] at H
    have c3b0 : ((l0.length : Int) == (l1.length : Int)) = true := beq_iff_eq.mpr c3
    have c3b1 : ((l0.length : Int) != (l1.length : Int)) = false := bne_eq_false_iff_eq.mpr c3
    have c3b2 : (l0.length == l1.length) = true := by first | simpa using c3 | (simp at c3 ⊢; omega)
    clear c3
    have H' := Aside0.mk H
    clear H
    go_enter Try.func29, Try.ntmps29
    go_wp2
    repeat (go_quiet (fail); try go_wp2)
    go_loopg [5] k (fun kq v5 w' => ∃ (x5_1 : Int), v5 = .int .i64 x5_1 ∧ Aside0 (api_Prop_29.l0 kq l0 l1 x5_1 = some r) ∧ Aside0 (kq ≤ k) ∧ Drawn0 w w')
    case atStart => exact ⟨(0), (by first | rfl | (simp; done) | (simp [*]; done) | (simp; exact bne_nil_isEmpty _) | exact bne_nil_isEmpty _ | (simp; exact (bne_nil_isEmpty _).symm) | (simp; exact bne_nil_isEmpty' _)), H', ⟨Nat.le_refl _⟩, by repeat (first | exact Drawn0.refl _ | apply Drawn0.step)⟩
    case round =>
      clear H'
      try clear c1
      try clear c2
      try clear p2
      try clear c3
      try clear c3b0
      try clear c3b1
      try clear c3b2
      obtain ⟨x5_1, rfl, HA, HK1, ⟨m1, rfl⟩⟩ := hrel
      cases gk with
      | zero => exact absurd HA.out (by simp [api_Prop_29.l0])
      | succ k1 =>
        have H := HA.out
        clear HA
        simp only [api_Prop_29.l0] at H
        by_cases c4 : x5_1 < (l0.length : Int)
        · rw [if_pos c4] at H
          have c4b0 : decide (x5_1 < (l0.length : Int)) = true := decide_eq_true c4
          clear c4
          by_cases c5 : 0 ≤ x5_1
          · rw [if_pos c5] at H
            have c5b0 : decide (0 ≤ x5_1) = true := decide_eq_true c5
            clear c5
            by_cases c6 : x5_1 < (l1.length : Int)
            · rw [if_pos c6] at H
              have c6b0 : decide (x5_1 < (l1.length : Int)) = true := decide_eq_true c6
              clear c6
              by_cases c7 : (!(((rd_T27 l0 x5_1).f0) == ((rd_T27 l1 x5_1).f0)) || (!(((rd_T27 l0 x5_1).f1) == ((rd_T27 l1 x5_1).f1)) || (!((((rd_T27 l0 x5_1).f2).toList) == (((rd_T27 l1 x5_1).f2).toList)) || (!((((rd_T27 l0 x5_1).f3).toList) == (((rd_T27 l1 x5_1).f3).toList)))))) = true
              · rw [if_pos c7] at H
                have c7b0 : (!(((rd_T27 l0 x5_1).f0) == ((rd_T27 l1 x5_1).f0)) || (!(((rd_T27 l0 x5_1).f1) == ((rd_T27 l1 x5_1).f1)) || (!((((rd_T27 l0 x5_1).f2).toList) == (((rd_T27 l1 x5_1).f2).toList)) || (!((((rd_T27 l0 x5_1).f3).toList) == (((rd_T27 l1 x5_1).f3).toList)))))) = true := c7
                clear c7
                obtain rfl := Option.some.inj H
                have p335 : 0 ≤ (x5_1 : Int) := of_decide_eq_true (by first | (with_reducible assumption) | assumption)
                have q335 : x5_1 < (l0.length : Int) := of_decide_eq_true (by first | (with_reducible assumption) | assumption)
                obtain ⟨ad335, e335, hx335_0, hx335_1, hx335_2, hx335_3⟩ := at_T27 HR0.out x5_1 p335 q335
                cases e335
                replace p335 := eq_true p335
                replace q335 := eq_true q335
                have p336 : 0 ≤ (x5_1 : Int) := of_decide_eq_true (by first | (with_reducible assumption) | assumption)
                have q336 : x5_1 < (l1.length : Int) := of_decide_eq_true (by first | (with_reducible assumption) | assumption)
                obtain ⟨ad336, e336, hx336_0, hx336_1, hx336_2, hx336_3⟩ := at_T27 HR1.out x5_1 p336 q336
                cases e336
                replace p336 := eq_true p336
                replace q336 := eq_true q336
                go_wp2
                repeat (go_quiet (fail); try go_wp2)
                go_ret
                exact ⟨by first | rfl | (simp; done) | (simp [*]; done) | (simp; exact bne_nil_isEmpty _) | exact bne_nil_isEmpty _ | (simp; exact (bne_nil_isEmpty _).symm) | (simp; exact bne_nil_isEmpty' _), by repeat (first | exact Drawn0.refl _ | apply Drawn0.step)⟩
              · rw [if_neg c7] at H
                have c7b0 : (!(((rd_T27 l0 x5_1).f0) == ((rd_T27 l1 x5_1).f0)) || (!(((rd_T27 l0 x5_1).f1) == ((rd_T27 l1 x5_1).f1)) || (!((((rd_T27 l0 x5_1).f2).toList) == (((rd_T27 l1 x5_1).f2).toList)) || (!((((rd_T27 l0 x5_1).f3).toList) == (((rd_T27 l1 x5_1).f3).toList)))))) = false := by simpa using c7
                clear c7
                have H' := Aside0.mk H
                clear H
                have p335 : 0 ≤ (x5_1 : Int) := of_decide_eq_true (by first | (with_reducible assumption) | assumption)
                have q335 : x5_1 < (l0.length : Int) := of_decide_eq_true (by first | (with_reducible assumption) | assumption)
                obtain ⟨ad335, e335, hx335_0, hx335_1, hx335_2, hx335_3⟩ := at_T27 HR0.out x5_1 p335 q335
                cases e335
                replace p335 := eq_true p335
                replace q335 := eq_true q335
                have p336 : 0 ≤ (x5_1 : Int) := of_decide_eq_true (by first | (with_reducible assumption) | assumption)
                have q336 : x5_1 < (l1.length : Int) := of_decide_eq_true (by first | (with_reducible assumption) | assumption)
                obtain ⟨ad336, e336, hx336_0, hx336_1, hx336_2, hx336_3⟩ := at_T27 HR1.out x5_1 p336 q336
                cases e336
                replace p336 := eq_true p336
                replace q336 := eq_true q336
                go_wp2
                repeat (go_quiet (fail); try go_wp2)
                go_roundg k1
                case measure => have := HK1.out; omega
                case rel => exact ⟨(wrap64 (x5_1 + 1)), (by first | rfl | (simp; done) | (simp [*]; done) | (simp; exact bne_nil_isEmpty _) | exact bne_nil_isEmpty _ | (simp; exact (bne_nil_isEmpty _).symm) | (simp; exact bne_nil_isEmpty' _)), H', ⟨by have := HK1.out; omega⟩, by repeat (first | exact Drawn0.refl _ | apply Drawn0.step)⟩
            · rw [if_neg c6] at H
              exact absurd H (by simp)
          · rw [if_neg c5] at H
            exact absurd H (by simp)
        · rw [if_neg c4] at H
          have c4b0 : decide (x5_1 < (l0.length : Int)) = false := decide_eq_false c4
          clear c4
          obtain rfl := Option.some.inj H
          go_wp2
          repeat (go_quiet (fail); try go_wp2)
          go_ret
          exact ⟨by first | rfl | (simp; done) | (simp [*]; done) | (simp; exact bne_nil_isEmpty _) | exact bne_nil_isEmpty _ | (simp; exact (bne_nil_isEmpty _).symm) | (simp; exact bne_nil_isEmpty' _), by repeat (first | exact Drawn0.refl _ | apply Drawn0.step)⟩
  · rw [if_neg c3] at H
    have c3b0 : ((l0.length : Int) == (l1.length : Int)) = false := beq_eq_false_iff_ne.mpr c3
    have c3b1 : ((l0.length : Int) != (l1.length : Int)) = true := bne_iff_ne.mpr c3
    have c3b2 : (l0.length == l1.length) = false := by first | simpa using c3 | (simp at c3 ⊢; omega)
    obtain rfl := Option.some.inj H
    go_enter Try.func29, Try.ntmps29
    go_wp2
    repeat (go_quiet (fail); try go_wp2)
    go_ret
    exact ⟨by first | rfl | (simp; done) | (simp [*]; done) | (simp; exact bne_nil_isEmpty _) | exact bne_nil_isEmpty _ | (simp; exact (bne_nil_isEmpty _).symm) | (simp; exact bne_nil_isEmpty' _), by repeat (first | exact Drawn0.refl _ | apply Drawn0.step)⟩

end Go.Proofs.Ytngmipfobcaojaa.HA
end

-- YtngmipfobcaojaaHAhCheck
section
/- prop.Check answers what prop.check answers at the property's rule. -/
-- FOR polyglot/prop.Check
namespace Go.Proofs.Ytngmipfobcaojaa.HA
open Go.RowKit Go.Proofs.YtngmipfobcaojaaW.PrintWords Go.Proofs.YtngmipfobcaojaaW.PrintLast Go.Proofs.YtngmipfobcaojaaW.PrintMore
set_option linter.unusedVariables false
set_option linter.unusedSimpArgs false

def prop_Check.f (k : Nat) (a0 : Int) (a1_0 : Int) (a1_1 : Int) (a1_2 : ByteArray) (a1_3 : ByteArray) : Option Int :=
  prop_check.f k (ruleOf a1_0).1 (ruleOf a1_0).2.1 (ruleOf a1_0).2.2.1 (ruleOf a1_0).2.2.2 a0 a1_0 a1_1 a1_2 a1_3
theorem prop_Check.mono : ∀ a0 a1 a2 a3 a4 k, LeO (prop_Check.f k a0 a1 a2 a3 a4) (prop_Check.f (k + 1) a0 a1 a2 a3 a4) :=
  fun _ _ _ _ _ k => prop_check.mono _ _ _ _ _ _ _ _ _ k
set_option maxHeartbeats 4000000 in
set_option maxRecDepth 100000 in
theorem prop_Check.calls (k : Nat) (a0 : Int) (a1_0 : Int) (a1_1 : Int) (a1_2 : ByteArray) (a1_3 : ByteArray) (r : Int) (w : World) (h : prop_Check.f k a0 a1_0 a1_1 a1_2 a1_3 = some r) :
    Calls Try.prog 13 #[.int .i64 a0, .agg #[.int .i64 a1_0, .int .u32 a1_1, .string a1_2, .string a1_3]] w fun e w' => e = .returned (.int .i64 r) ∧ Below w.heap.size w w' := by
  have hl := fun (W : World) (b : Nat) (hb : W.heap[b]? = some ruleObj) => run_rule_lookup W b a1_0 hb
  have hc := fun W => prop_check.calls k (ruleOf a1_0).1 (ruleOf a1_0).2.1 (ruleOf a1_0).2.2.1 (ruleOf a1_0).2.2.2 a0 a1_0 a1_1 a1_2 a1_3 r W h
  unfold ruleVal at hl
  clear h
  generalize ruleOf a1_0 = ru at *
  have HC := Aside0.mk hc
  obtain ⟨O, hO⟩ : ∃ O : Obj, O = .cells #[.int .i64 a1_0, .int .u32 a1_1, .string a1_2, .string a1_3] 27 := ⟨_, rfl⟩
  have hl2 : (Instr.lookup 66 (.map (some (w.heap.size + 1))) (.int .i64 a1_0) false).run Try.prog (((w.alloc O).alloc ruleObj).drew) = .ok _ _ := hl (((w.alloc O).alloc ruleObj).drew) (w.heap.size + 1) (by
    show ((w.alloc O).alloc ruleObj).heap[w.heap.size + 1]? = _
    have := heap_alloc_new (w.alloc O) ruleObj
    rw [show (w.alloc O).heap.size = w.heap.size + 1 by simp] at this
    exact this)
  subst hO
  clear hc hl
  go_enter Try.func13, Try.ntmps13
  go_wp2_with fail
  go_region_with (first | (go_at_call 34; refine (prop_rules.calls0 _).mono ?_; rintro e w' ⟨rfl, rfl⟩) | (go_at_call 33; refine (HC.out _).mono ?_; rintro e w' ⟨rfl, hb⟩))
  all_goals go_wp2
  all_goals go_ret
  all_goals exact ⟨rfl, below_then (below_drew (((Below.refl _ _).alloc (Nat.le_refl _) _).alloc (by simp) _)) (by simp; omega) hb⟩
end Go.Proofs.Ytngmipfobcaojaa.HA
end
