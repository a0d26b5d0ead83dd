/- A part of the proof: texts that were built one by one, laid together. -/
import Derived.Deep.MidRow
import Derived.Test.YtngmipfobcaojaaCPublishTopics1
import Derived.Test.YtngmipfobcaojaaCPublishTopics2
set_option linter.unusedVariables false
set_option linter.unusedSimpArgs false
-- YtngmipfobcaojaaHA53
section
namespace Go.Proofs.Ytngmipfobcaojaa.HA
open Go.RowKit Go.Proofs.YtngmipfobcaojaaW.PrintWords Go.Proofs.YtngmipfobcaojaaW.PrintLast Go.Proofs.YtngmipfobcaojaaW.PrintMore
attribute [local go_sem] max2_int min2_int max_two min_two max_three min_three max_four min_four

attribute [local go_sem high] eqA113
theorem head_Same.gx {P : Program} {w : World} {o : Oper} {ev : Operand → Value} (x : Operand) (ho : o.op = .load 48 x) (g : Nat) (hx : ev x = .pointer (some ⟨g, 0, none⟩)) (cs : List Value) (d : TypeDesc) (hc : w.rangeAt g 0 cs) (hu : P.underlying 48 = some d) (hd : d.isRow = true) (hi : (P.info? 48).map (·.size) = some cs.length) :
    (execOp ev o).run P w = .ok (.value (.agg cs.toArray)) w := by
  unfold execOp
  simp only [ho, hx, Sem.run_bind, Sem.run_pure, Result.andThen_ok, run_loadAt_mid w g 0 48 cs d hc hu hd hi]
theorem head_Same.gxn {w : World} {g o : Nat} : w.rangeAt g o [] := fun j v h => by simp at h
theorem head_Same.gxs {w : World} {g o : Nat} {u : Value} {cs : List Value} (h1 : w.cell? ⟨g, o, none⟩ = some u) (h2 : w.rangeAt g (o + 1) cs) : w.rangeAt g o (u :: cs)
  | 0, v, h => by simp at h; subst h; exact h1
  | j + 1, v, h => by have := h2 j v (by simpa using h); rwa [show o + 1 + j = o + (j + 1) by omega] at this
theorem head_Same.gl {P : Program} {ops : Array Oper} {rest : List Oper} {o : Oper} {a : Act} {Q : Exit → Act → World → Prop} {W : World} {x : Operand} (_ho : o.op = .load 48 x) (h : wpList P ops Q (o :: rest) a W) : wpList P ops Q (o :: rest) a W := h
def head_Same.f (k : Nat) (a0_0 : Int) (a0_1 : Bool) (a0_2 : Bool) (a0_3 : Int) (a0_4 : Int) (a0_5 : ByteArray) (a0_6 : ByteArray) (a0_7 : Bool) (a0_8 : Int) (a0_9 : ByteArray) (a0_10 : Bool) (a0_11 : ByteArray) (a0_12 : Bool) (a0_13 : ByteArray) (a0_14 : Bool) (a0_15 : ByteArray) (a0_16 : ByteArray) (a0_17 : Int) (a0_18 : Bool) (l0_19 : List (S27)) (a0_20 : Bool) (a0_21 : Int) (l0_22 : List Int) (l0_23 : List (S119)) (l0_24 : List (S27)) (a1_0 : Int) (a1_1 : Bool) (a1_2 : Bool) (a1_3 : Int) (a1_4 : Int) (a1_5 : ByteArray) (a1_6 : ByteArray) (a1_7 : Bool) (a1_8 : Int) (a1_9 : ByteArray) (a1_10 : Bool) (a1_11 : ByteArray) (a1_12 : Bool) (a1_13 : ByteArray) (a1_14 : Bool) (a1_15 : ByteArray) (a1_16 : ByteArray) (a1_17 : Int) (a1_18 : Bool) (l1_19 : List (S27)) (a1_20 : Bool) (a1_21 : Int) (l1_22 : List Int) (l1_23 : List (S119)) (l1_24 : List (S27)) : Option (Bool) := (head_strip.f a0_0 a0_1 a0_2 a0_3 a0_4 a0_5 a0_6 a0_7 a0_8 a0_9 a0_10 a0_11 a0_12 a0_13 a0_14 a0_15 a0_16 a0_17 a0_18 l0_19 a0_20 a0_21 l0_22 l0_23 l0_24).bind fun bt170 => ((head_strip.f a1_0 a1_1 a1_2 a1_3 a1_4 a1_5 a1_6 a1_7 a1_8 a1_9 a1_10 a1_11 a1_12 a1_13 a1_14 a1_15 a1_16 a1_17 a1_18 l1_19 a1_20 a1_21 l1_22 l1_23 l1_24).bind fun bt187 => (if (bt170.1 == bt187.1 && (bt170.2.1 == bt187.2.1 && (bt170.2.2.1 == bt187.2.2.1 && (bt170.2.2.2.1 == bt187.2.2.2.1 && (bt170.2.2.2.2.1 == bt187.2.2.2.2.1 && (bt170.2.2.2.2.2.1 == bt187.2.2.2.2.2.1 && (bt170.2.2.2.2.2.2.1 == bt187.2.2.2.2.2.2.1 && (bt170.2.2.2.2.2.2.2.1 == bt187.2.2.2.2.2.2.2.1 && (bt170.2.2.2.2.2.2.2.2.1 == bt187.2.2.2.2.2.2.2.2.1 && (bt170.2.2.2.2.2.2.2.2.2.1 == bt187.2.2.2.2.2.2.2.2.2.1 && (bt170.2.2.2.2.2.2.2.2.2.2.1 == bt187.2.2.2.2.2.2.2.2.2.2.1 && (bt170.2.2.2.2.2.2.2.2.2.2.2.1 == bt187.2.2.2.2.2.2.2.2.2.2.2.1 && (bt170.2.2.2.2.2.2.2.2.2.2.2.2.1.toList == bt187.2.2.2.2.2.2.2.2.2.2.2.2.1.toList && (bt170.2.2.2.2.2.2.2.2.2.2.2.2.2.1.toList == bt187.2.2.2.2.2.2.2.2.2.2.2.2.2.1.toList && (bt170.2.2.2.2.2.2.2.2.2.2.2.2.2.2.1.toList == bt187.2.2.2.2.2.2.2.2.2.2.2.2.2.2.1.toList && (bt170.2.2.2.2.2.2.2.2.2.2.2.2.2.2.2.1.toList == bt187.2.2.2.2.2.2.2.2.2.2.2.2.2.2.2.1.toList && (bt170.2.2.2.2.2.2.2.2.2.2.2.2.2.2.2.2.toList == bt187.2.2.2.2.2.2.2.2.2.2.2.2.2.2.2.2.toList))))))))))))))))) = true then ((head_sameWill.f k a0_15 a0_16 a0_17 a0_18 l0_19 a1_15 a1_16 a1_17 a1_18 l1_19).bind fun t204 => (if t204 = true then ((head_list_int.f k l0_22 l1_22).bind fun t205 => (if t205 = true then ((api_Filter_86.f k l0_23 l1_23).bind fun t206 => (if t206 = true then ((api_Prop_87.f k l0_24 l1_24).bind fun t207 => (some t207)) else (some false))) else (some false))) else (some false))) else (some false)))
def head_Same.T1 : Bool × List (List Nat × List Nat) := (true, [([], []), ([0], [0]), ([], []), ([2, 1], [2]), ([1, 3], [1, 3]), ([4, 3], [4]), ([5], [5]), ([6, 5], [5, 6]), ([5], [5]), ([8, 5], [5, 8]), ([7, 9, 5, 5], [5, 7, 9]), ([5, 10], [5, 10]), ([11, 10], [11]), ([12], [12]), ([13, 12], [12, 13]), ([12], [12]), ([15, 12], [12, 15]), ([14, 16, 12, 12], [12, 14, 16]), ([12, 17], [12, 17]), ([18, 17], [18]), ([19], [19]), ([20, 19], [19, 20]), ([19], [19]), ([22, 19], [19, 22]), ([21, 23, 19, 19], [19, 21, 23]), ([19, 24], [19, 24]), ([25, 24], [25]), ([26], [26]), ([27, 26], [26, 27]), ([26], [26]), ([29, 26], [26, 29]), ([28, 30, 26, 26], [26, 28, 30]), ([26, 31], [26, 31]), ([32, 31, 0, 1, 2, 3, 4, 5, 6, 7, 8, 9, 10, 11, 12, 13, 14, 15, 16, 17, 18, 19, 20, 21, 22, 23, 24, 25, 26, 27, 28, 29, 30, 31, 32], [32])])
def head_Same.B1 : List Nat := [0, 1, 0, 7, 15, 31, 63, 127, 63, 319, 1023, 2047, 4095, 8191, 16383, 8191, 40959, 131071, 262143, 524287, 1048575, 2097151, 1048575, 5242879, 16777215, 33554431, 67108863, 134217727, 268435455, 134217727, 671088639, 2147483647, 4294967295, 8589934591]
theorem head_Same.tab1 : rtab .any (opsOf Try.f70 1) = head_Same.T1 := by kernel_rfl
theorem head_Same.bits1 : waitsOk head_Same.T1.2 head_Same.B1 = true := by kernel_rfl
set_option maxHeartbeats 8000000 in
set_option maxRecDepth 100000 in
theorem head_Same.calls (k : Nat) (a0_0 : Int) (a0_1 : Bool) (a0_2 : Bool) (a0_3 : Int) (a0_4 : Int) (a0_5 : ByteArray) (a0_6 : ByteArray) (a0_7 : Bool) (a0_8 : Int) (a0_9 : ByteArray) (a0_10 : Bool) (a0_11 : ByteArray) (a0_12 : Bool) (a0_13 : ByteArray) (a0_14 : Bool) (a0_15 : ByteArray) (a0_16 : ByteArray) (a0_17 : Int) (a0_18 : Bool) (A0_19 : Option Addr) (c0_19 : Nat) (l0_19 : List (S27)) (a0_20 : Bool) (a0_21 : Int) (A0_22 : Option Addr) (c0_22 : Nat) (l0_22 : List Int) (A0_23 : Option Addr) (c0_23 : Nat) (l0_23 : List (S119)) (A0_24 : Option Addr) (c0_24 : Nat) (l0_24 : List (S27)) (a1_0 : Int) (a1_1 : Bool) (a1_2 : Bool) (a1_3 : Int) (a1_4 : Int) (a1_5 : ByteArray) (a1_6 : ByteArray) (a1_7 : Bool) (a1_8 : Int) (a1_9 : ByteArray) (a1_10 : Bool) (a1_11 : ByteArray) (a1_12 : Bool) (a1_13 : ByteArray) (a1_14 : Bool) (a1_15 : ByteArray) (a1_16 : ByteArray) (a1_17 : Int) (a1_18 : Bool) (A1_19 : Option Addr) (c1_19 : Nat) (l1_19 : List (S27)) (a1_20 : Bool) (a1_21 : Int) (A1_22 : Option Addr) (c1_22 : Nat) (l1_22 : List Int) (A1_23 : Option Addr) (c1_23 : Nat) (l1_23 : List (S119)) (A1_24 : Option Addr) (c1_24 : Nat) (l1_24 : List (S27)) (r : Bool) (w : World) (hr0_19 : Kd.C k27 w A0_19 l0_19.length l0_19) (hc0_19 : l0_19.length ≤ c0_19) (hr0_22 : Kd.C (Kd.int .i64) w A0_22 l0_22.length l0_22) (hc0_22 : l0_22.length ≤ c0_22) (hr0_23 : Kd.C k119 w A0_23 l0_23.length l0_23) (hc0_23 : l0_23.length ≤ c0_23) (hr0_24 : Kd.C k27 w A0_24 l0_24.length l0_24) (hc0_24 : l0_24.length ≤ c0_24) (hr1_19 : Kd.C k27 w A1_19 l1_19.length l1_19) (hc1_19 : l1_19.length ≤ c1_19) (hr1_22 : Kd.C (Kd.int .i64) w A1_22 l1_22.length l1_22) (hc1_22 : l1_22.length ≤ c1_22) (hr1_23 : Kd.C k119 w A1_23 l1_23.length l1_23) (hc1_23 : l1_23.length ≤ c1_23) (hr1_24 : Kd.C k27 w A1_24 l1_24.length l1_24) (hc1_24 : l1_24.length ≤ c1_24) (h : head_Same.f k a0_0 a0_1 a0_2 a0_3 a0_4 a0_5 a0_6 a0_7 a0_8 a0_9 a0_10 a0_11 a0_12 a0_13 a0_14 a0_15 a0_16 a0_17 a0_18 l0_19 a0_20 a0_21 l0_22 l0_23 l0_24 a1_0 a1_1 a1_2 a1_3 a1_4 a1_5 a1_6 a1_7 a1_8 a1_9 a1_10 a1_11 a1_12 a1_13 a1_14 a1_15 a1_16 a1_17 a1_18 l1_19 a1_20 a1_21 l1_22 l1_23 l1_24 = some r) :
    Calls Try.prog 70 #[.agg #[.int .i64 a0_0, .bool a0_1, .bool a0_2, .int .i64 a0_3, .int .i64 a0_4, .string a0_5, .string a0_6, .bool a0_7, .int .i64 a0_8, .string a0_9, .bool a0_10, .string a0_11, .bool a0_12, .string a0_13, .bool a0_14, .string a0_15, .string a0_16, .int .i64 a0_17, .bool a0_18, .slice A0_19 l0_19.length c0_19, .bool a0_20, .int .i64 a0_21, .slice A0_22 l0_22.length c0_22, .slice A0_23 l0_23.length c0_23, .slice A0_24 l0_24.length c0_24], .agg #[.int .i64 a1_0, .bool a1_1, .bool a1_2, .int .i64 a1_3, .int .i64 a1_4, .string a1_5, .string a1_6, .bool a1_7, .int .i64 a1_8, .string a1_9, .bool a1_10, .string a1_11, .bool a1_12, .string a1_13, .bool a1_14, .string a1_15, .string a1_16, .int .i64 a1_17, .bool a1_18, .slice A1_19 l1_19.length c1_19, .bool a1_20, .int .i64 a1_21, .slice A1_22 l1_22.length c1_22, .slice A1_23 l1_23.length c1_23, .slice A1_24 l1_24.length c1_24]] w fun e w' => e = .returned (.bool r) ∧ Below w.heap.size w w' := by
  have hu48 := Try.underlying48
  have hu45 := Try.underlying45
  have HR0_19 := Aside0.mk hr0_19
  have HC0_19 := Aside0.mk hc0_19
  clear hr0_19 hc0_19
  have HR0_22 := Aside0.mk hr0_22
  have HC0_22 := Aside0.mk hc0_22
  clear hr0_22 hc0_22
  have HR0_23 := Aside0.mk hr0_23
  have HC0_23 := Aside0.mk hc0_23
  clear hr0_23 hc0_23
  have HR0_24 := Aside0.mk hr0_24
  have HC0_24 := Aside0.mk hc0_24
  clear hr0_24 hc0_24
  have HR1_19 := Aside0.mk hr1_19
  have HC1_19 := Aside0.mk hc1_19
  clear hr1_19 hc1_19
  have HR1_22 := Aside0.mk hr1_22
  have HC1_22 := Aside0.mk hc1_22
  clear hr1_22 hc1_22
  have HR1_23 := Aside0.mk hr1_23
  have HC1_23 := Aside0.mk hc1_23
  clear hr1_23 hc1_23
  have HR1_24 := Aside0.mk hr1_24
  have HC1_24 := Aside0.mk hc1_24
  clear hr1_24 hc1_24
  have HB := Aside0.mk (Below.refl w.heap.size w)
  have H : ((head_strip.f a0_0 a0_1 a0_2 a0_3 a0_4 a0_5 a0_6 a0_7 a0_8 a0_9 a0_10 a0_11 a0_12 a0_13 a0_14 a0_15 a0_16 a0_17 a0_18 l0_19 a0_20 a0_21 l0_22 l0_23 l0_24).bind fun bt170 => ((head_strip.f a1_0 a1_1 a1_2 a1_3 a1_4 a1_5 a1_6 a1_7 a1_8 a1_9 a1_10 a1_11 a1_12 a1_13 a1_14 a1_15 a1_16 a1_17 a1_18 l1_19 a1_20 a1_21 l1_22 l1_23 l1_24).bind fun bt187 => (if (bt170.1 == bt187.1 && (bt170.2.1 == bt187.2.1 && (bt170.2.2.1 == bt187.2.2.1 && (bt170.2.2.2.1 == bt187.2.2.2.1 && (bt170.2.2.2.2.1 == bt187.2.2.2.2.1 && (bt170.2.2.2.2.2.1 == bt187.2.2.2.2.2.1 && (bt170.2.2.2.2.2.2.1 == bt187.2.2.2.2.2.2.1 && (bt170.2.2.2.2.2.2.2.1 == bt187.2.2.2.2.2.2.2.1 && (bt170.2.2.2.2.2.2.2.2.1 == bt187.2.2.2.2.2.2.2.2.1 && (bt170.2.2.2.2.2.2.2.2.2.1 == bt187.2.2.2.2.2.2.2.2.2.1 && (bt170.2.2.2.2.2.2.2.2.2.2.1 == bt187.2.2.2.2.2.2.2.2.2.2.1 && (bt170.2.2.2.2.2.2.2.2.2.2.2.1 == bt187.2.2.2.2.2.2.2.2.2.2.2.1 && (bt170.2.2.2.2.2.2.2.2.2.2.2.2.1.toList == bt187.2.2.2.2.2.2.2.2.2.2.2.2.1.toList && (bt170.2.2.2.2.2.2.2.2.2.2.2.2.2.1.toList == bt187.2.2.2.2.2.2.2.2.2.2.2.2.2.1.toList && (bt170.2.2.2.2.2.2.2.2.2.2.2.2.2.2.1.toList == bt187.2.2.2.2.2.2.2.2.2.2.2.2.2.2.1.toList && (bt170.2.2.2.2.2.2.2.2.2.2.2.2.2.2.2.1.toList == bt187.2.2.2.2.2.2.2.2.2.2.2.2.2.2.2.1.toList && (bt170.2.2.2.2.2.2.2.2.2.2.2.2.2.2.2.2.toList == bt187.2.2.2.2.2.2.2.2.2.2.2.2.2.2.2.2.toList))))))))))))))))) = true then ((head_sameWill.f k a0_15 a0_16 a0_17 a0_18 l0_19 a1_15 a1_16 a1_17 a1_18 l1_19).bind fun t204 => (if t204 = true then ((head_list_int.f k l0_22 l1_22).bind fun t205 => (if t205 = true then ((api_Filter_86.f k l0_23 l1_23).bind fun t206 => (if t206 = true then ((api_Prop_87.f k l0_24 l1_24).bind fun t207 => (some t207)) else (some false))) else (some false))) else (some false))) else (some false)))) = some r := h
  clear h
  replace H := Option.bind_eq_some_iff.mp H
  obtain ⟨⟨t170, t171, t172, t173, t174, t175, t176, t177, t178, t179, t180, t181, t182, t183, t184, t185, t186⟩, A30, H⟩ := H
  replace H : ((head_strip.f a1_0 a1_1 a1_2 a1_3 a1_4 a1_5 a1_6 a1_7 a1_8 a1_9 a1_10 a1_11 a1_12 a1_13 a1_14 a1_15 a1_16 a1_17 a1_18 l1_19 a1_20 a1_21 l1_22 l1_23 l1_24).bind fun bt187 => (if (t170 == bt187.1 && (t171 == bt187.2.1 && (t172 == bt187.2.2.1 && (t173 == bt187.2.2.2.1 && (t174 == bt187.2.2.2.2.1 && (t175 == bt187.2.2.2.2.2.1 && (t176 == bt187.2.2.2.2.2.2.1 && (t177 == bt187.2.2.2.2.2.2.2.1 && (t178 == bt187.2.2.2.2.2.2.2.2.1 && (t179 == bt187.2.2.2.2.2.2.2.2.2.1 && (t180 == bt187.2.2.2.2.2.2.2.2.2.2.1 && (t181 == bt187.2.2.2.2.2.2.2.2.2.2.2.1 && (t182.toList == bt187.2.2.2.2.2.2.2.2.2.2.2.2.1.toList && (t183.toList == bt187.2.2.2.2.2.2.2.2.2.2.2.2.2.1.toList && (t184.toList == bt187.2.2.2.2.2.2.2.2.2.2.2.2.2.2.1.toList && (t185.toList == bt187.2.2.2.2.2.2.2.2.2.2.2.2.2.2.2.1.toList && (t186.toList == bt187.2.2.2.2.2.2.2.2.2.2.2.2.2.2.2.2.toList))))))))))))))))) = true then ((head_sameWill.f k a0_15 a0_16 a0_17 a0_18 l0_19 a1_15 a1_16 a1_17 a1_18 l1_19).bind fun t204 => (if t204 = true then ((head_list_int.f k l0_22 l1_22).bind fun t205 => (if t205 = true then ((api_Filter_86.f k l0_23 l1_23).bind fun t206 => (if t206 = true then ((api_Prop_87.f k l0_24 l1_24).bind fun t207 => (some t207)) else (some false))) else (some false))) else (some false))) else (some false))) = some r := H
  have A3 := Aside0.mk A30
  clear A30
  replace H := Option.bind_eq_some_iff.mp H
  obtain ⟨⟨t187, t188, t189, t190, t191, t192, t193, t194, t195, t196, t197, t198, t199, t200, t201, t202, t203⟩, A40, H⟩ := H
  replace H : (if (t170 == t187 && (t171 == t188 && (t172 == t189 && (t173 == t190 && (t174 == t191 && (t175 == t192 && (t176 == t193 && (t177 == t194 && (t178 == t195 && (t179 == t196 && (t180 == t197 && (t181 == t198 && (t182.toList == t199.toList && (t183.toList == t200.toList && (t184.toList == t201.toList && (t185.toList == t202.toList && (t186.toList == t203.toList))))))))))))))))) = true then ((head_sameWill.f k a0_15 a0_16 a0_17 a0_18 l0_19 a1_15 a1_16 a1_17 a1_18 l1_19).bind fun t204 => (if t204 = true then ((head_list_int.f k l0_22 l1_22).bind fun t205 => (if t205 = true then ((api_Filter_86.f k l0_23 l1_23).bind fun t206 => (if t206 = true then ((api_Prop_87.f k l0_24 l1_24).bind fun t207 => (some t207)) else (some false))) else (some false))) else (some false))) else (some false)) = some r := H
  have A4 := Aside0.mk A40
  clear A40
  by_cases c5 : (t170 == t187 && (t171 == t188 && (t172 == t189 && (t173 == t190 && (t174 == t191 && (t175 == t192 && (t176 == t193 && (t177 == t194 && (t178 == t195 && (t179 == t196 && (t180 == t197 && (t181 == t198 && (t182.toList == t199.toList && (t183.toList == t200.toList && (t184.toList == t201.toList && (t185.toList == t202.toList && (t186.toList == t203.toList))))))))))))))))) = true
  · rw [if_pos c5] at H
    have c5b0 : (t170 == t187 && (t171 == t188 && (t172 == t189 && (t173 == t190 && (t174 == t191 && (t175 == t192 && (t176 == t193 && (t177 == t194 && (t178 == t195 && (t179 == t196 && (t180 == t197 && (t181 == t198 && (t182.toList == t199.toList && (t183.toList == t200.toList && (t184.toList == t201.toList && (t185.toList == t202.toList && (t186.toList == t203.toList))))))))))))))))) = true := c5
    (try (have c5b1 : decide (t170 = t187 && (t171 == t188 && (t172 == t189 && (t173 == t190 && (t174 == t191 && (t175 == t192 && (t176 == t193 && (t177 == t194 && (t178 == t195 && (t179 == t196 && (t180 == t197 && (t181 == t198 && (t182.toList == t199.toList && (t183.toList == t200.toList && (t184.toList == t201.toList && (t185.toList == t202.toList && (t186.toList == t203.toList))))))))))))))))) = true := by simpa using c5))
    (try (have c5b2 : (t170 == t187 && (t171 == t188 && (t172 == t189 && (t173 == t190 && (t174 == t191 && (t175 == t192 && (t176 == t193 && (t177 == t194 && (t178 == t195 && (t179 == t196 && (t180 == t197 && (t181 == t198 && (t182.toList == t199.toList && (t183.toList == t200.toList && (t184.toList == t201.toList && (t185.toList == t202.toList && (t186.toList == t203.toList))))))))))))))))) = true := by simpa using c5))
    clear c5
    replace H := Option.bind_eq_some_iff.mp H
    obtain ⟨t204, A60, H⟩ := H
    replace H : (if t204 = true then ((head_list_int.f k l0_22 l1_22).bind fun t205 => (if t205 = true then ((api_Filter_86.f k l0_23 l1_23).bind fun t206 => (if t206 = true then ((api_Prop_87.f k l0_24 l1_24).bind fun t207 => (some t207)) else (some false))) else (some false))) else (some false)) = some r := H
    have A6 := Aside0.mk A60
    clear A60
    by_cases c7 : t204 = true
    · subst c7
      have H1 : ((head_list_int.f k l0_22 l1_22).bind fun t205 => (if t205 = true then ((api_Filter_86.f k l0_23 l1_23).bind fun t206 => (if t206 = true then ((api_Prop_87.f k l0_24 l1_24).bind fun t207 => (some t207)) else (some false))) else (some false))) = some r := by rw [if_pos rfl] at H; exact H
      clear H
      have H := H1
      clear H1
      replace H := Option.bind_eq_some_iff.mp H
      obtain ⟨t205, A80, H⟩ := H
      replace H : (if t205 = true then ((api_Filter_86.f k l0_23 l1_23).bind fun t206 => (if t206 = true then ((api_Prop_87.f k l0_24 l1_24).bind fun t207 => (some t207)) else (some false))) else (some false)) = some r := H
      have A8 := Aside0.mk A80
      clear A80
      by_cases c9 : t205 = true
      · subst c9
        have H1 : ((api_Filter_86.f k l0_23 l1_23).bind fun t206 => (if t206 = true then ((api_Prop_87.f k l0_24 l1_24).bind fun t207 => (some t207)) else (some false))) = some r := by rw [if_pos rfl] at H; exact H
        clear H
        have H := H1
        clear H1
        replace H := Option.bind_eq_some_iff.mp H
        obtain ⟨t206, A100, H⟩ := H
        replace H : (if t206 = true then ((api_Prop_87.f k l0_24 l1_24).bind fun t207 => (some t207)) else (some false)) = some r := H
        have A10 := Aside0.mk A100
        clear A100
        by_cases c11 : t206 = true
        · subst c11
          have H1 : ((api_Prop_87.f k l0_24 l1_24).bind fun t207 => (some t207)) = some r := by rw [if_pos rfl] at H; exact H
          clear H
          have H := H1
          clear H1
          replace H := Option.bind_eq_some_iff.mp H
          obtain ⟨t207, A120, H⟩ := H
          replace H : (some t207) = some r := H
          have A12 := Aside0.mk A120
          clear A120
          obtain rfl := Option.some.inj H
          go_enter Try.func70, Try.ntmps70
          try go_wp2_with (first | ((with_reducible refine head_Same.gl rfl ?_); (try (refine gate_guard (by first | rfl | (simp [*]; done) | fail) ?_; dsimp only)); refine wpList_load_row rfl 48 _ rfl _ (by rfl) 48 _ _ _ (by first | exact Aside0.out (by with_reducible assumption) | ((with_reducible repeat (first | refine blk_drewN ?_ _ | refine blk_drew ?_ | refine blk_alloc ?_ _)); exact Aside0.out (by with_reducible assumption)) | (refine blk_put (Aside0.out (by with_reducible assumption)) 24 _ ?_; simp only [List.setIfInBounds_toArray, List.set_cons_zero, List.set_cons_succ]; rfl) | (apply blk_put (i := 24); (case h => exact Aside0.out (by with_reducible assumption)); (case e => (simp only [List.setIfInBounds_toArray, List.set_cons_zero, List.set_cons_succ]; rfl)))) Try.underlying48 rfl (by kernel_rfl) ?_) | ((with_reducible refine gate_dst (N := 2) rfl ?_); refine box_event ?hg (N := 2) ?hd (cs := #[.int .i64 a0_0, .bool a0_1, .bool a0_2, .int .i64 a0_3, .int .i64 a0_4, .string a0_5, .string a0_6, .bool a0_7, .int .i64 a0_8, .string a0_9, .bool a0_10, .string a0_11, .bool a0_12, .string a0_13, .bool a0_14, .string a0_15, .string a0_16, .int .i64 a0_17, .bool a0_18, .slice A0_19 l0_19.length c0_19, .bool a0_20, .int .i64 a0_21, .slice A0_22 l0_22.length c0_22, .slice A0_23 l0_23.length c0_23, .slice A0_24 l0_24.length c0_24]) (t := 48) ?hr ?_; (case hd => rfl); (case hg => rfl); (case hr => first | (go_simp; done) | (go_simp; rfl)); intro gb168 hg w13 hbox hb; have n0_ := Aside0.mk (below_step (by repeat (first | (with_reducible first | exact HB.out | apply below_alloc | apply pw_below_drewN | apply below_drew1) | exact HB.out)) hb); have n1_ := Aside0.mk (hbox); have n2_ := Aside0.mk ((by rw [hg]; exact (below_size (by repeat (first | (with_reducible first | exact HB.out | apply below_alloc | apply pw_below_drewN | apply below_drew1) | exact HB.out))) : w.heap.size ≤ gb168)); have n3_ := Aside0.mk ((by rw [hg]; exact (below_size (by repeat (first | (with_reducible first | exact HB.out | apply below_alloc | apply pw_below_drewN | apply below_drew1) | exact HB.out))) : w.heap.size ≤ gb168)); clear HB; have HB := n0_; have BK168 := n1_; have GW168 := n2_; have GE168 := n3_; clear n0_ n1_ n2_ n3_; clear hb hbox hg) | ((with_reducible refine gate_dst (N := 3) rfl ?_); refine box_event ?hg (N := 3) ?hd (cs := #[.int .i64 a1_0, .bool a1_1, .bool a1_2, .int .i64 a1_3, .int .i64 a1_4, .string a1_5, .string a1_6, .bool a1_7, .int .i64 a1_8, .string a1_9, .bool a1_10, .string a1_11, .bool a1_12, .string a1_13, .bool a1_14, .string a1_15, .string a1_16, .int .i64 a1_17, .bool a1_18, .slice A1_19 l1_19.length c1_19, .bool a1_20, .int .i64 a1_21, .slice A1_22 l1_22.length c1_22, .slice A1_23 l1_23.length c1_23, .slice A1_24 l1_24.length c1_24]) (t := 48) ?hr ?_; (case hd => rfl); (case hg => rfl); (case hr => first | (go_simp; done) | (go_simp; rfl)); intro gb169 hg w14 hbox hb; have n0_ := Aside0.mk (blk_below (g := gb168) (o := .cells #[.int .i64 a0_0, .bool a0_1, .bool a0_2, .int .i64 a0_3, .int .i64 a0_4, .string a0_5, .string a0_6, .bool a0_7, .int .i64 a0_8, .string a0_9, .bool a0_10, .string a0_11, .bool a0_12, .string a0_13, .bool a0_14, .string a0_15, .string a0_16, .int .i64 a0_17, .bool a0_18, .slice A0_19 l0_19.length c0_19, .bool a0_20, .int .i64 a0_21, .slice A0_22 l0_22.length c0_22, .slice A0_23 l0_23.length c0_23, .slice A0_24 l0_24.length c0_24] 48 (0, 0)) (by (with_reducible repeat (first | refine blk_drewN ?_ _ | refine blk_drew ?_ | refine blk_alloc ?_ _)); exact BK168.out) hb); have n1_ := Aside0.mk (below_step (by repeat (first | (with_reducible first | exact HB.out | apply below_alloc | apply pw_below_drewN | apply below_drew1 | refine below_set ?_ GE168.out) | exact HB.out)) hb); have n2_ := Aside0.mk (hbox); have n3_ := Aside0.mk ((by rw [hg]; exact (below_size (by repeat (first | (with_reducible first | exact HB.out | apply below_alloc | apply pw_below_drewN | apply below_drew1 | refine below_set ?_ GE168.out) | exact HB.out))) : w.heap.size ≤ gb169)); have n4_ := Aside0.mk ((by rw [hg]; exact (below_size (by repeat (first | (with_reducible first | exact HB.out | apply below_alloc | apply pw_below_drewN | apply below_drew1 | refine below_set ?_ GE168.out) | exact HB.out))) : w.heap.size ≤ gb169)); have n5_ := Aside0.mk ((by rw [hg]; exact Nat.ne_of_lt (blk_lt (g := gb168) (o := .cells #[.int .i64 a0_0, .bool a0_1, .bool a0_2, .int .i64 a0_3, .int .i64 a0_4, .string a0_5, .string a0_6, .bool a0_7, .int .i64 a0_8, .string a0_9, .bool a0_10, .string a0_11, .bool a0_12, .string a0_13, .bool a0_14, .string a0_15, .string a0_16, .int .i64 a0_17, .bool a0_18, .slice A0_19 l0_19.length c0_19, .bool a0_20, .int .i64 a0_21, .slice A0_22 l0_22.length c0_22, .slice A0_23 l0_23.length c0_23, .slice A0_24 l0_24.length c0_24] 48 (0, 0)) (by (with_reducible repeat (first | refine blk_drewN ?_ _ | refine blk_drew ?_ | refine blk_alloc ?_ _)); exact BK168.out)) : gb168 ≠ gb169)); have n6_ := Aside0.mk ((by rw [hg]; exact Nat.ne_of_gt (blk_lt (g := gb168) (o := .cells #[.int .i64 a0_0, .bool a0_1, .bool a0_2, .int .i64 a0_3, .int .i64 a0_4, .string a0_5, .string a0_6, .bool a0_7, .int .i64 a0_8, .string a0_9, .bool a0_10, .string a0_11, .bool a0_12, .string a0_13, .bool a0_14, .string a0_15, .string a0_16, .int .i64 a0_17, .bool a0_18, .slice A0_19 l0_19.length c0_19, .bool a0_20, .int .i64 a0_21, .slice A0_22 l0_22.length c0_22, .slice A0_23 l0_23.length c0_23, .slice A0_24 l0_24.length c0_24] 48 (0, 0)) (by (with_reducible repeat (first | refine blk_drewN ?_ _ | refine blk_drew ?_ | refine blk_alloc ?_ _)); exact BK168.out)) : gb169 ≠ gb168)); clear BK168; clear HB; have BK168 := n0_; have HB := n1_; have BK169 := n2_; have GW169 := n3_; have GE169 := n4_; have NB168_169 := n5_; have NB169_168 := n6_; clear n0_ n1_ n2_ n3_ n4_ n5_ n6_; clear hb hbox hg))
          have n0_ := Aside0.mk (blk_drew BK168.out)
          have n1_ := Aside0.mk (blk_drew BK169.out)
          have n2_ := Aside0.mk (below_drew1 HB.out)
          clear BK168
          clear BK169
          clear HB
          have BK168 := n0_
          have BK169 := n1_
          have HB := n2_
          clear n0_ n1_ n2_
          refine start_ (n := 34) (S := fun w' => w'.cell? ⟨gb168, 0, none⟩ = some (.int .i64 a0_0) ∧ w'.cell? ⟨gb168, 1, none⟩ = some (.bool a0_1) ∧ w'.cell? ⟨gb168, 2, none⟩ = some (.bool a0_2) ∧ w'.cell? ⟨gb168, 3, none⟩ = some (.int .i64 a0_3) ∧ w'.cell? ⟨gb168, 4, none⟩ = some (.int .i64 a0_4) ∧ w'.cell? ⟨gb168, 5, none⟩ = some (.string a0_5) ∧ w'.cell? ⟨gb168, 6, none⟩ = some (.string a0_6) ∧ w'.cell? ⟨gb168, 7, none⟩ = some (.bool a0_7) ∧ w'.cell? ⟨gb168, 8, none⟩ = some (.int .i64 a0_8) ∧ w'.cell? ⟨gb168, 9, none⟩ = some (.string a0_9) ∧ w'.cell? ⟨gb168, 10, none⟩ = some (.bool a0_10) ∧ w'.cell? ⟨gb168, 11, none⟩ = some (.string a0_11) ∧ w'.cell? ⟨gb168, 12, none⟩ = some (.bool a0_12) ∧ w'.cell? ⟨gb168, 13, none⟩ = some (.string a0_13) ∧ w'.cell? ⟨gb168, 14, none⟩ = some (.bool a0_14) ∧ w'.cell? ⟨gb168, 15, none⟩ = some (.string a0_15) ∧ w'.cell? ⟨gb168, 16, none⟩ = some (.string a0_16) ∧ w'.cell? ⟨gb168, 17, none⟩ = some (.int .i64 a0_17) ∧ w'.cell? ⟨gb168, 18, none⟩ = some (.bool a0_18) ∧ w'.cell? ⟨gb168, 19, none⟩ = some (.slice A0_19 l0_19.length c0_19) ∧ w'.cell? ⟨gb168, 20, none⟩ = some (.bool a0_20) ∧ w'.cell? ⟨gb168, 21, none⟩ = some (.int .i64 a0_21) ∧ w'.cell? ⟨gb168, 22, none⟩ = some (.slice A0_22 l0_22.length c0_22) ∧ w'.cell? ⟨gb168, 23, none⟩ = some (.slice A0_23 l0_23.length c0_23) ∧ w'.cell? ⟨gb168, 24, none⟩ = some (.slice A0_24 l0_24.length c0_24) ∧ w'.cell? ⟨gb169, 0, none⟩ = some (.int .i64 a1_0) ∧ w'.cell? ⟨gb169, 1, none⟩ = some (.bool a1_1) ∧ w'.cell? ⟨gb169, 2, none⟩ = some (.bool a1_2) ∧ w'.cell? ⟨gb169, 3, none⟩ = some (.int .i64 a1_3) ∧ w'.cell? ⟨gb169, 4, none⟩ = some (.int .i64 a1_4) ∧ w'.cell? ⟨gb169, 5, none⟩ = some (.string a1_5) ∧ w'.cell? ⟨gb169, 6, none⟩ = some (.string a1_6) ∧ w'.cell? ⟨gb169, 7, none⟩ = some (.bool a1_7) ∧ w'.cell? ⟨gb169, 8, none⟩ = some (.int .i64 a1_8) ∧ w'.cell? ⟨gb169, 9, none⟩ = some (.string a1_9) ∧ w'.cell? ⟨gb169, 10, none⟩ = some (.bool a1_10) ∧ w'.cell? ⟨gb169, 11, none⟩ = some (.string a1_11) ∧ w'.cell? ⟨gb169, 12, none⟩ = some (.bool a1_12) ∧ w'.cell? ⟨gb169, 13, none⟩ = some (.string a1_13) ∧ w'.cell? ⟨gb169, 14, none⟩ = some (.bool a1_14) ∧ w'.cell? ⟨gb169, 15, none⟩ = some (.string a1_15) ∧ w'.cell? ⟨gb169, 16, none⟩ = some (.string a1_16) ∧ w'.cell? ⟨gb169, 17, none⟩ = some (.int .i64 a1_17) ∧ w'.cell? ⟨gb169, 18, none⟩ = some (.bool a1_18) ∧ w'.cell? ⟨gb169, 19, none⟩ = some (.slice A1_19 l1_19.length c1_19) ∧ w'.cell? ⟨gb169, 20, none⟩ = some (.bool a1_20) ∧ w'.cell? ⟨gb169, 21, none⟩ = some (.int .i64 a1_21) ∧ w'.cell? ⟨gb169, 22, none⟩ = some (.slice A1_22 l1_22.length c1_22) ∧ w'.cell? ⟨gb169, 23, none⟩ = some (.slice A1_23 l1_23.length c1_23) ∧ w'.cell? ⟨gb169, 24, none⟩ = some (.slice A1_24 l1_24.length c1_24)) (ds := []) #[false, false, false, false, false, false, false, false, false, false, false, false, false, false, false, false, false, false, false, false, false, false, false, false, false, false, false, false, false, false, false, false, false, false] (by kernel_rfl) rfl rfl ⟨(blk_cell BK168.out 0).trans rfl, (blk_cell BK168.out 1).trans rfl, (blk_cell BK168.out 2).trans rfl, (blk_cell BK168.out 3).trans rfl, (blk_cell BK168.out 4).trans rfl, (blk_cell BK168.out 5).trans rfl, (blk_cell BK168.out 6).trans rfl, (blk_cell BK168.out 7).trans rfl, (blk_cell BK168.out 8).trans rfl, (blk_cell BK168.out 9).trans rfl, (blk_cell BK168.out 10).trans rfl, (blk_cell BK168.out 11).trans rfl, (blk_cell BK168.out 12).trans rfl, (blk_cell BK168.out 13).trans rfl, (blk_cell BK168.out 14).trans rfl, (blk_cell BK168.out 15).trans rfl, (blk_cell BK168.out 16).trans rfl, (blk_cell BK168.out 17).trans rfl, (blk_cell BK168.out 18).trans rfl, (blk_cell BK168.out 19).trans rfl, (blk_cell BK168.out 20).trans rfl, (blk_cell BK168.out 21).trans rfl, (blk_cell BK168.out 22).trans rfl, (blk_cell BK168.out 23).trans rfl, (blk_cell BK168.out 24).trans rfl, (blk_cell BK169.out 0).trans rfl, (blk_cell BK169.out 1).trans rfl, (blk_cell BK169.out 2).trans rfl, (blk_cell BK169.out 3).trans rfl, (blk_cell BK169.out 4).trans rfl, (blk_cell BK169.out 5).trans rfl, (blk_cell BK169.out 6).trans rfl, (blk_cell BK169.out 7).trans rfl, (blk_cell BK169.out 8).trans rfl, (blk_cell BK169.out 9).trans rfl, (blk_cell BK169.out 10).trans rfl, (blk_cell BK169.out 11).trans rfl, (blk_cell BK169.out 12).trans rfl, (blk_cell BK169.out 13).trans rfl, (blk_cell BK169.out 14).trans rfl, (blk_cell BK169.out 15).trans rfl, (blk_cell BK169.out 16).trans rfl, (blk_cell BK169.out 17).trans rfl, (blk_cell BK169.out 18).trans rfl, (blk_cell BK169.out 19).trans rfl, (blk_cell BK169.out 20).trans rfl, (blk_cell BK169.out 21).trans rfl, (blk_cell BK169.out 22).trans rfl, (blk_cell BK169.out 23).trans rfl, (blk_cell BK169.out 24).trans rfl⟩ (fun hHeld => ?_); refine with_tabW head_Same.tab1 head_Same.bits1 (fun HT_ HW_ => ?_)
          generalize w14.drew = w15 at BK168 BK169 HB hHeld ⊢
          refine take_ (i := 0) (N := some 5) (v := ?_) (a' := ?_) #[true, false, false, false, false, false, false, false, false, false, false, false, false, false, false, false, false, false, false, false, false, false, false, false, false, false, false, false, false, false, false, false, false, false] rfl rfl (take_ofW HT_.out HW_.out (by kernel_rfl)) (fun _ _ _ h => h) (Or.inl ⟨by rfl, ?_⟩) hHeld ?_ ?_
          rotate_left
          · rintro w' ⟨s0, s1, s2, s3, s4, s5, s6, s7, s8, s9, s10, s11, s12, s13, s14, s15, s16, s17, s18, s19, s20, s21, s22, s23, s24, s25, s26, s27, s28, s29, s30, s31, s32, s33, s34, s35, s36, s37, s38, s39, s40, s41, s42, s43, s44, s45, s46, s47, s48, s49⟩
            first | (refine Eq.trans (head_Same.gx _ (by exact rfl) _ (by exact rfl) _ _ (by repeat (first | (apply head_Same.gxs; · assumption) | exact head_Same.gxn)) Try.underlying48 rfl (by kernel_rfl)) ?_; with_reducible rfl) | (go_simp; with_reducible rfl)
          rotate_left
          · simp only [Act.put, List.setIfInBounds_toArray, List.set_cons_zero, List.set_cons_succ, i64_w, i32_w]
            rfl
          refine take_ (i := 2) (N := some 7) (v := ?_) (a' := ?_) #[true, false, true, false, false, false, false, false, false, false, false, false, false, false, false, false, false, false, false, false, false, false, false, false, false, false, false, false, false, false, false, false, false, false] rfl rfl (take_ofW HT_.out HW_.out (by kernel_rfl)) (fun _ _ _ h => h) (Or.inl ⟨by rfl, ?_⟩) hHeld ?_ ?_
          rotate_left
          · rintro w' ⟨s0, s1, s2, s3, s4, s5, s6, s7, s8, s9, s10, s11, s12, s13, s14, s15, s16, s17, s18, s19, s20, s21, s22, s23, s24, s25, s26, s27, s28, s29, s30, s31, s32, s33, s34, s35, s36, s37, s38, s39, s40, s41, s42, s43, s44, s45, s46, s47, s48, s49⟩
            first | (refine Eq.trans (head_Same.gx _ (by exact rfl) _ (by exact rfl) _ _ (by repeat (first | (apply head_Same.gxs; · assumption) | exact head_Same.gxn)) Try.underlying48 rfl (by kernel_rfl)) ?_; with_reducible rfl) | (go_simp; with_reducible rfl)
          rotate_left
          · simp only [Act.put, List.setIfInBounds_toArray, List.set_cons_zero, List.set_cons_succ, i64_w, i32_w]
            rfl
          refine one_ (i := 1) (N := some 6) #[true, true, true, false, false, false, false, false, false, false, false, false, false, false, false, false, false, false, false, false, false, false, false, false, false, false, false, false, false, false, false, false, false, false] rfl rfl (one_of HT_.out (by kernel_rfl)) (by decide) (fun K hK => ?_)
          refine goes_ Try.func83 (by kernel_rfl) rfl #[.agg #[.int .i64 a0_0, .bool a0_1, .bool a0_2, .int .i64 a0_3, .int .i64 a0_4, .string a0_5, .string a0_6, .bool a0_7, .int .i64 a0_8, .string a0_9, .bool a0_10, .string a0_11, .bool a0_12, .string a0_13, .bool a0_14, .string a0_15, .string a0_16, .int .i64 a0_17, .bool a0_18, .slice A0_19 l0_19.length c0_19, .bool a0_20, .int .i64 a0_21, .slice A0_22 l0_22.length c0_22, .slice A0_23 l0_23.length c0_23, .slice A0_24 l0_24.length c0_24]] (by rfl) rfl rfl (by (try simp only [List.map_toArray, List.map_cons, List.map_nil]); first | done | rfl | (simp only [List.length_drop, List.length_take]; rfl)) ?_
          with_reducible refine (head_strip.calls a0_0 a0_1 a0_2 a0_3 a0_4 a0_5 a0_6 a0_7 a0_8 a0_9 a0_10 a0_11 a0_12 a0_13 a0_14 a0_15 a0_16 a0_17 a0_18 _ _ l0_19 a0_20 a0_21 _ _ l0_22 _ _ l0_23 _ _ l0_24 t170 t171 t172 t173 t174 t175 t176 t177 t178 t179 t180 t181 t182 t183 t184 t185 t186 _ ?side1 ?side2 ?side3 ?side4 ?side5 ?side6 ?side7 ?side8 A3.out).mono ?_
          (case side1 => repeat (first | exact (Kd.C_below HR0_19.out HB.out) | (with_reducible refine Kd.C_alloc ?_ _) | (with_reducible refine Kd.C_drewN ?_ _) | (with_reducible refine Kd.C_drew ?_)))
          (case side2 => exact HC0_19.out)
          (case side3 => repeat (first | exact (Kd.C_below HR0_22.out HB.out) | (with_reducible refine Kd.C_alloc ?_ _) | (with_reducible refine Kd.C_drewN ?_ _) | (with_reducible refine Kd.C_drew ?_)))
          (case side4 => exact HC0_22.out)
          (case side5 => repeat (first | exact (Kd.C_below HR0_23.out HB.out) | (with_reducible refine Kd.C_alloc ?_ _) | (with_reducible refine Kd.C_drewN ?_ _) | (with_reducible refine Kd.C_drew ?_)))
          (case side6 => exact HC0_23.out)
          (case side7 => repeat (first | exact (Kd.C_below HR0_24.out HB.out) | (with_reducible refine Kd.C_alloc ?_ _) | (with_reducible refine Kd.C_drewN ?_ _) | (with_reducible refine Kd.C_drew ?_)))
          (case side8 => exact HC0_24.out)
          rintro e w16 ⟨rfl, hb⟩
          refine ⟨_, rfl, ?_⟩
          have n0_ := Aside0.mk (blk_below (g := gb168) (o := .cells #[.int .i64 a0_0, .bool a0_1, .bool a0_2, .int .i64 a0_3, .int .i64 a0_4, .string a0_5, .string a0_6, .bool a0_7, .int .i64 a0_8, .string a0_9, .bool a0_10, .string a0_11, .bool a0_12, .string a0_13, .bool a0_14, .string a0_15, .string a0_16, .int .i64 a0_17, .bool a0_18, .slice A0_19 l0_19.length c0_19, .bool a0_20, .int .i64 a0_21, .slice A0_22 l0_22.length c0_22, .slice A0_23 l0_23.length c0_23, .slice A0_24 l0_24.length c0_24] 48 (0, 0)) (by (with_reducible repeat (first | refine blk_drewN ?_ _ | refine blk_drew ?_ | refine blk_alloc ?_ _)); exact BK168.out) hb)
          have n1_ := Aside0.mk (blk_below (g := gb169) (o := .cells #[.int .i64 a1_0, .bool a1_1, .bool a1_2, .int .i64 a1_3, .int .i64 a1_4, .string a1_5, .string a1_6, .bool a1_7, .int .i64 a1_8, .string a1_9, .bool a1_10, .string a1_11, .bool a1_12, .string a1_13, .bool a1_14, .string a1_15, .string a1_16, .int .i64 a1_17, .bool a1_18, .slice A1_19 l1_19.length c1_19, .bool a1_20, .int .i64 a1_21, .slice A1_22 l1_22.length c1_22, .slice A1_23 l1_23.length c1_23, .slice A1_24 l1_24.length c1_24] 48 (0, 0)) (by (with_reducible repeat (first | refine blk_drewN ?_ _ | refine blk_drew ?_ | refine blk_alloc ?_ _)); exact BK169.out) hb)
          have n2_ := Aside0.mk (below_step (by repeat (first | (with_reducible first | exact HB.out | apply below_alloc | apply pw_below_drewN | apply below_drew1 | refine below_set ?_ GE168.out | refine below_set ?_ GE169.out) | exact HB.out)) hb)
          clear BK168
          clear BK169
          clear HB
          have BK168 := n0_
          have BK169 := n1_
          have HB := n2_
          clear n0_ n1_ n2_
          (try clear hb)
          (try clear hb2)
          (try clear hk)
          (try clear hi)
          refine hK.out _ _ ⟨(blk_cell BK168.out 0).trans rfl, (blk_cell BK168.out 1).trans rfl, (blk_cell BK168.out 2).trans rfl, (blk_cell BK168.out 3).trans rfl, (blk_cell BK168.out 4).trans rfl, (blk_cell BK168.out 5).trans rfl, (blk_cell BK168.out 6).trans rfl, (blk_cell BK168.out 7).trans rfl, (blk_cell BK168.out 8).trans rfl, (blk_cell BK168.out 9).trans rfl, (blk_cell BK168.out 10).trans rfl, (blk_cell BK168.out 11).trans rfl, (blk_cell BK168.out 12).trans rfl, (blk_cell BK168.out 13).trans rfl, (blk_cell BK168.out 14).trans rfl, (blk_cell BK168.out 15).trans rfl, (blk_cell BK168.out 16).trans rfl, (blk_cell BK168.out 17).trans rfl, (blk_cell BK168.out 18).trans rfl, (blk_cell BK168.out 19).trans rfl, (blk_cell BK168.out 20).trans rfl, (blk_cell BK168.out 21).trans rfl, (blk_cell BK168.out 22).trans rfl, (blk_cell BK168.out 23).trans rfl, (blk_cell BK168.out 24).trans rfl, (blk_cell BK169.out 0).trans rfl, (blk_cell BK169.out 1).trans rfl, (blk_cell BK169.out 2).trans rfl, (blk_cell BK169.out 3).trans rfl, (blk_cell BK169.out 4).trans rfl, (blk_cell BK169.out 5).trans rfl, (blk_cell BK169.out 6).trans rfl, (blk_cell BK169.out 7).trans rfl, (blk_cell BK169.out 8).trans rfl, (blk_cell BK169.out 9).trans rfl, (blk_cell BK169.out 10).trans rfl, (blk_cell BK169.out 11).trans rfl, (blk_cell BK169.out 12).trans rfl, (blk_cell BK169.out 13).trans rfl, (blk_cell BK169.out 14).trans rfl, (blk_cell BK169.out 15).trans rfl, (blk_cell BK169.out 16).trans rfl, (blk_cell BK169.out 17).trans rfl, (blk_cell BK169.out 18).trans rfl, (blk_cell BK169.out 19).trans rfl, (blk_cell BK169.out 20).trans rfl, (blk_cell BK169.out 21).trans rfl, (blk_cell BK169.out 22).trans rfl, (blk_cell BK169.out 23).trans rfl, (blk_cell BK169.out 24).trans rfl⟩ (fun hHeld => ?_)
          clear hK K
          refine norm_ (a' := ?_) ?_ ?_
          rotate_left
          · show Act.put _ (some 6) _ = _
            simp only [Act.put, List.setIfInBounds_toArray, List.set_cons_zero, List.set_cons_succ, i64_w, i32_w]
            rfl
          refine one_ (i := 3) (N := some 8) #[true, true, true, true, false, false, false, false, false, false, false, false, false, false, false, false, false, false, false, false, false, false, false, false, false, false, false, false, false, false, false, false, false, false] rfl rfl (one_of HT_.out (by kernel_rfl)) (by decide) (fun K hK => ?_)
          refine goes_ Try.func83 (by kernel_rfl) rfl #[.agg #[.int .i64 a1_0, .bool a1_1, .bool a1_2, .int .i64 a1_3, .int .i64 a1_4, .string a1_5, .string a1_6, .bool a1_7, .int .i64 a1_8, .string a1_9, .bool a1_10, .string a1_11, .bool a1_12, .string a1_13, .bool a1_14, .string a1_15, .string a1_16, .int .i64 a1_17, .bool a1_18, .slice A1_19 l1_19.length c1_19, .bool a1_20, .int .i64 a1_21, .slice A1_22 l1_22.length c1_22, .slice A1_23 l1_23.length c1_23, .slice A1_24 l1_24.length c1_24]] (by rfl) rfl rfl (by (try simp only [List.map_toArray, List.map_cons, List.map_nil]); first | done | rfl | (simp only [List.length_drop, List.length_take]; rfl)) ?_
          with_reducible refine (head_strip.calls a1_0 a1_1 a1_2 a1_3 a1_4 a1_5 a1_6 a1_7 a1_8 a1_9 a1_10 a1_11 a1_12 a1_13 a1_14 a1_15 a1_16 a1_17 a1_18 _ _ l1_19 a1_20 a1_21 _ _ l1_22 _ _ l1_23 _ _ l1_24 t187 t188 t189 t190 t191 t192 t193 t194 t195 t196 t197 t198 t199 t200 t201 t202 t203 _ ?side1 ?side2 ?side3 ?side4 ?side5 ?side6 ?side7 ?side8 A4.out).mono ?_
          (case side1 => repeat (first | exact (Kd.C_below HR1_19.out HB.out) | (with_reducible refine Kd.C_alloc ?_ _) | (with_reducible refine Kd.C_drewN ?_ _) | (with_reducible refine Kd.C_drew ?_)))
          (case side2 => exact HC1_19.out)
          (case side3 => repeat (first | exact (Kd.C_below HR1_22.out HB.out) | (with_reducible refine Kd.C_alloc ?_ _) | (with_reducible refine Kd.C_drewN ?_ _) | (with_reducible refine Kd.C_drew ?_)))
          (case side4 => exact HC1_22.out)
          (case side5 => repeat (first | exact (Kd.C_below HR1_23.out HB.out) | (with_reducible refine Kd.C_alloc ?_ _) | (with_reducible refine Kd.C_drewN ?_ _) | (with_reducible refine Kd.C_drew ?_)))
          (case side6 => exact HC1_23.out)
          (case side7 => repeat (first | exact (Kd.C_below HR1_24.out HB.out) | (with_reducible refine Kd.C_alloc ?_ _) | (with_reducible refine Kd.C_drewN ?_ _) | (with_reducible refine Kd.C_drew ?_)))
          (case side8 => exact HC1_24.out)
          rintro e w17 ⟨rfl, hb⟩
          refine ⟨_, rfl, ?_⟩
          have n0_ := Aside0.mk (blk_below (g := gb168) (o := .cells #[.int .i64 a0_0, .bool a0_1, .bool a0_2, .int .i64 a0_3, .int .i64 a0_4, .string a0_5, .string a0_6, .bool a0_7, .int .i64 a0_8, .string a0_9, .bool a0_10, .string a0_11, .bool a0_12, .string a0_13, .bool a0_14, .string a0_15, .string a0_16, .int .i64 a0_17, .bool a0_18, .slice A0_19 l0_19.length c0_19, .bool a0_20, .int .i64 a0_21, .slice A0_22 l0_22.length c0_22, .slice A0_23 l0_23.length c0_23, .slice A0_24 l0_24.length c0_24] 48 (0, 0)) (by (with_reducible repeat (first | refine blk_drewN ?_ _ | refine blk_drew ?_ | refine blk_alloc ?_ _)); exact BK168.out) hb)
          have n1_ := Aside0.mk (blk_below (g := gb169) (o := .cells #[.int .i64 a1_0, .bool a1_1, .bool a1_2, .int .i64 a1_3, .int .i64 a1_4, .string a1_5, .string a1_6, .bool a1_7, .int .i64 a1_8, .string a1_9, .bool a1_10, .string a1_11, .bool a1_12, .string a1_13, .bool a1_14, .string a1_15, .string a1_16, .int .i64 a1_17, .bool a1_18, .slice A1_19 l1_19.length c1_19, .bool a1_20, .int .i64 a1_21, .slice A1_22 l1_22.length c1_22, .slice A1_23 l1_23.length c1_23, .slice A1_24 l1_24.length c1_24] 48 (0, 0)) (by (with_reducible repeat (first | refine blk_drewN ?_ _ | refine blk_drew ?_ | refine blk_alloc ?_ _)); exact BK169.out) hb)
          have n2_ := Aside0.mk (below_step (by repeat (first | (with_reducible first | exact HB.out | apply below_alloc | apply pw_below_drewN | apply below_drew1 | refine below_set ?_ GE168.out | refine below_set ?_ GE169.out) | exact HB.out)) hb)
          clear BK168
          clear BK169
          clear HB
          have BK168 := n0_
          have BK169 := n1_
          have HB := n2_
          clear n0_ n1_ n2_
          (try clear hb)
          (try clear hb2)
          (try clear hk)
          (try clear hi)
          refine hK.out _ _ ⟨(blk_cell BK168.out 0).trans rfl, (blk_cell BK168.out 1).trans rfl, (blk_cell BK168.out 2).trans rfl, (blk_cell BK168.out 3).trans rfl, (blk_cell BK168.out 4).trans rfl, (blk_cell BK168.out 5).trans rfl, (blk_cell BK168.out 6).trans rfl, (blk_cell BK168.out 7).trans rfl, (blk_cell BK168.out 8).trans rfl, (blk_cell BK168.out 9).trans rfl, (blk_cell BK168.out 10).trans rfl, (blk_cell BK168.out 11).trans rfl, (blk_cell BK168.out 12).trans rfl, (blk_cell BK168.out 13).trans rfl, (blk_cell BK168.out 14).trans rfl, (blk_cell BK168.out 15).trans rfl, (blk_cell BK168.out 16).trans rfl, (blk_cell BK168.out 17).trans rfl, (blk_cell BK168.out 18).trans rfl, (blk_cell BK168.out 19).trans rfl, (blk_cell BK168.out 20).trans rfl, (blk_cell BK168.out 21).trans rfl, (blk_cell BK168.out 22).trans rfl, (blk_cell BK168.out 23).trans rfl, (blk_cell BK168.out 24).trans rfl, (blk_cell BK169.out 0).trans rfl, (blk_cell BK169.out 1).trans rfl, (blk_cell BK169.out 2).trans rfl, (blk_cell BK169.out 3).trans rfl, (blk_cell BK169.out 4).trans rfl, (blk_cell BK169.out 5).trans rfl, (blk_cell BK169.out 6).trans rfl, (blk_cell BK169.out 7).trans rfl, (blk_cell BK169.out 8).trans rfl, (blk_cell BK169.out 9).trans rfl, (blk_cell BK169.out 10).trans rfl, (blk_cell BK169.out 11).trans rfl, (blk_cell BK169.out 12).trans rfl, (blk_cell BK169.out 13).trans rfl, (blk_cell BK169.out 14).trans rfl, (blk_cell BK169.out 15).trans rfl, (blk_cell BK169.out 16).trans rfl, (blk_cell BK169.out 17).trans rfl, (blk_cell BK169.out 18).trans rfl, (blk_cell BK169.out 19).trans rfl, (blk_cell BK169.out 20).trans rfl, (blk_cell BK169.out 21).trans rfl, (blk_cell BK169.out 22).trans rfl, (blk_cell BK169.out 23).trans rfl, (blk_cell BK169.out 24).trans rfl⟩ (fun hHeld => ?_)
          clear hK K
          refine norm_ (a' := ?_) ?_ ?_
          rotate_left
          · show Act.put _ (some 8) _ = _
            simp only [Act.put, List.setIfInBounds_toArray, List.set_cons_zero, List.set_cons_succ, i64_w, i32_w]
            rfl
          refine pure_ (i := 4) (N := some 9) (v := ?_) (a' := ?_) #[true, true, true, true, true, false, false, false, false, false, false, false, false, false, false, false, false, false, false, false, false, false, false, false, false, false, false, false, false, false, false, false, false, false] rfl rfl (any_of HT_.out (by kernel_rfl)) (fun _ _ _ h => h) (Or.inl ⟨by rfl, ?_⟩) ?_ ?_
          rotate_left
          · intro w'
            go_simp
            with_reducible rfl
          rotate_left
          · simp only [Act.put, List.setIfInBounds_toArray, List.set_cons_zero, List.set_cons_succ, i64_w, i32_w]
            rfl
          refine pure_ (i := 5) (N := some 10) (v := ?_) (a' := ?_) #[true, true, true, true, true, true, false, false, false, false, false, false, false, false, false, false, false, false, false, false, false, false, false, false, false, false, false, false, false, false, false, false, false, false] rfl rfl (any_of HT_.out (by kernel_rfl)) (fun _ _ _ h => h) (Or.inl ⟨by rfl, ?_⟩) ?_ ?_
          rotate_left
          · intro w'
            go_simp
            with_reducible rfl
          rotate_left
          · simp only [Act.put, List.setIfInBounds_toArray, List.set_cons_zero, List.set_cons_succ, i64_w, i32_w]
            rfl
          refine pure_ (i := 6) (N := some 11) (v := ?_) (a' := ?_) #[true, true, true, true, true, true, true, false, false, false, false, false, false, false, false, false, false, false, false, false, false, false, false, false, false, false, false, false, false, false, false, false, false, false] rfl rfl (any_of HT_.out (by kernel_rfl)) (fun _ _ _ h => h) (Or.inl ⟨by rfl, ?_⟩) ?_ ?_
          rotate_left
          · intro w'
            go_simp
            with_reducible rfl
          rotate_left
          · simp only [Act.put, List.setIfInBounds_toArray, List.set_cons_zero, List.set_cons_succ, i64_w, i32_w]
            rfl
          refine pure_ (i := 8) (N := some 13) (v := ?_) (a' := ?_) #[true, true, true, true, true, true, true, false, true, false, false, false, false, false, false, false, false, false, false, false, false, false, false, false, false, false, false, false, false, false, false, false, false, false] rfl rfl (any_of HT_.out (by kernel_rfl)) (fun _ _ _ h => h) (Or.inl ⟨by rfl, ?_⟩) ?_ ?_
          rotate_left
          · intro w'
            go_simp
            with_reducible rfl
          rotate_left
          · simp only [Act.put, List.setIfInBounds_toArray, List.set_cons_zero, List.set_cons_succ, i64_w, i32_w]
            rfl
          refine take_ (i := 7) (N := some 12) (v := ?_) (a' := ?_) #[true, true, true, true, true, true, true, true, true, false, false, false, false, false, false, false, false, false, false, false, false, false, false, false, false, false, false, false, false, false, false, false, false, false] rfl rfl (take_ofW HT_.out HW_.out (by kernel_rfl)) (fun _ _ _ h => h) (Or.inl ⟨by rfl, ?_⟩) hHeld ?_ ?_
          rotate_left
          · rintro w' ⟨s0, s1, s2, s3, s4, s5, s6, s7, s8, s9, s10, s11, s12, s13, s14, s15, s16, s17, s18, s19, s20, s21, s22, s23, s24, s25, s26, s27, s28, s29, s30, s31, s32, s33, s34, s35, s36, s37, s38, s39, s40, s41, s42, s43, s44, s45, s46, s47, s48, s49⟩
            first | (refine Eq.trans (head_Same.gx _ (by exact rfl) _ (by exact rfl) _ _ (by repeat (first | (apply head_Same.gxs; · assumption) | exact head_Same.gxn)) Try.underlying48 rfl (by kernel_rfl)) ?_; with_reducible rfl) | (go_simp; with_reducible rfl)
          rotate_left
          · simp only [Act.put, List.setIfInBounds_toArray, List.set_cons_zero, List.set_cons_succ, i64_w, i32_w]
            rfl
          refine take_ (i := 9) (N := some 14) (v := ?_) (a' := ?_) #[true, true, true, true, true, true, true, true, true, true, false, false, false, false, false, false, false, false, false, false, false, false, false, false, false, false, false, false, false, false, false, false, false, false] rfl rfl (take_ofW HT_.out HW_.out (by kernel_rfl)) (fun _ _ _ h => h) (Or.inl ⟨by rfl, ?_⟩) hHeld ?_ ?_
          rotate_left
          · rintro w' ⟨s0, s1, s2, s3, s4, s5, s6, s7, s8, s9, s10, s11, s12, s13, s14, s15, s16, s17, s18, s19, s20, s21, s22, s23, s24, s25, s26, s27, s28, s29, s30, s31, s32, s33, s34, s35, s36, s37, s38, s39, s40, s41, s42, s43, s44, s45, s46, s47, s48, s49⟩
            first | (refine Eq.trans (head_Same.gx _ (by exact rfl) _ (by exact rfl) _ _ (by repeat (first | (apply head_Same.gxs; · assumption) | exact head_Same.gxn)) Try.underlying48 rfl (by kernel_rfl)) ?_; with_reducible rfl) | (go_simp; with_reducible rfl)
          rotate_left
          · simp only [Act.put, List.setIfInBounds_toArray, List.set_cons_zero, List.set_cons_succ, i64_w, i32_w]
            rfl
          refine one_ (i := 10) (N := some 15) #[true, true, true, true, true, true, true, true, true, true, true, false, false, false, false, false, false, false, false, false, false, false, false, false, false, false, false, false, false, false, false, false, false, false] rfl rfl (one_of HT_.out (by kernel_rfl)) (by decide) (fun K hK => ?_)
          refine goes_ Try.func84 (by kernel_rfl) rfl #[.agg #[.string a0_15, .string a0_16, .int .i64 a0_17, .bool a0_18, .slice A0_19 l0_19.length c0_19], .agg #[.string a1_15, .string a1_16, .int .i64 a1_17, .bool a1_18, .slice A1_19 l1_19.length c1_19]] (by rfl) rfl rfl (by (try simp only [List.map_toArray, List.map_cons, List.map_nil]); first | done | rfl | (simp only [List.length_drop, List.length_take]; rfl)) ?_
          with_reducible refine (head_sameWill.calls k a0_15 a0_16 a0_17 a0_18 _ _ l0_19 a1_15 a1_16 a1_17 a1_18 _ _ l1_19 true _ ?side1 ?side2 ?side3 ?side4 A6.out).mono ?_
          (case side1 => repeat (first | exact (Kd.C_below HR0_19.out HB.out) | (with_reducible refine Kd.C_alloc ?_ _) | (with_reducible refine Kd.C_drewN ?_ _) | (with_reducible refine Kd.C_drew ?_)))
          (case side2 => exact HC0_19.out)
          (case side3 => repeat (first | exact (Kd.C_below HR1_19.out HB.out) | (with_reducible refine Kd.C_alloc ?_ _) | (with_reducible refine Kd.C_drewN ?_ _) | (with_reducible refine Kd.C_drew ?_)))
          (case side4 => exact HC1_19.out)
          rintro e w18 ⟨rfl, hb⟩
          refine ⟨_, rfl, ?_⟩
          have n0_ := Aside0.mk (blk_below (g := gb168) (o := .cells #[.int .i64 a0_0, .bool a0_1, .bool a0_2, .int .i64 a0_3, .int .i64 a0_4, .string a0_5, .string a0_6, .bool a0_7, .int .i64 a0_8, .string a0_9, .bool a0_10, .string a0_11, .bool a0_12, .string a0_13, .bool a0_14, .string a0_15, .string a0_16, .int .i64 a0_17, .bool a0_18, .slice A0_19 l0_19.length c0_19, .bool a0_20, .int .i64 a0_21, .slice A0_22 l0_22.length c0_22, .slice A0_23 l0_23.length c0_23, .slice A0_24 l0_24.length c0_24] 48 (0, 0)) (by (with_reducible repeat (first | refine blk_drewN ?_ _ | refine blk_drew ?_ | refine blk_alloc ?_ _)); exact BK168.out) hb)
          have n1_ := Aside0.mk (blk_below (g := gb169) (o := .cells #[.int .i64 a1_0, .bool a1_1, .bool a1_2, .int .i64 a1_3, .int .i64 a1_4, .string a1_5, .string a1_6, .bool a1_7, .int .i64 a1_8, .string a1_9, .bool a1_10, .string a1_11, .bool a1_12, .string a1_13, .bool a1_14, .string a1_15, .string a1_16, .int .i64 a1_17, .bool a1_18, .slice A1_19 l1_19.length c1_19, .bool a1_20, .int .i64 a1_21, .slice A1_22 l1_22.length c1_22, .slice A1_23 l1_23.length c1_23, .slice A1_24 l1_24.length c1_24] 48 (0, 0)) (by (with_reducible repeat (first | refine blk_drewN ?_ _ | refine blk_drew ?_ | refine blk_alloc ?_ _)); exact BK169.out) hb)
          have n2_ := Aside0.mk (below_step (by repeat (first | (with_reducible first | exact HB.out | apply below_alloc | apply pw_below_drewN | apply below_drew1 | refine below_set ?_ GE168.out | refine below_set ?_ GE169.out) | exact HB.out)) hb)
          clear BK168
          clear BK169
          clear HB
          have BK168 := n0_
          have BK169 := n1_
          have HB := n2_
          clear n0_ n1_ n2_
          (try clear hb)
          (try clear hb2)
          (try clear hk)
          (try clear hi)
          refine hK.out _ _ ⟨(blk_cell BK168.out 0).trans rfl, (blk_cell BK168.out 1).trans rfl, (blk_cell BK168.out 2).trans rfl, (blk_cell BK168.out 3).trans rfl, (blk_cell BK168.out 4).trans rfl, (blk_cell BK168.out 5).trans rfl, (blk_cell BK168.out 6).trans rfl, (blk_cell BK168.out 7).trans rfl, (blk_cell BK168.out 8).trans rfl, (blk_cell BK168.out 9).trans rfl, (blk_cell BK168.out 10).trans rfl, (blk_cell BK168.out 11).trans rfl, (blk_cell BK168.out 12).trans rfl, (blk_cell BK168.out 13).trans rfl, (blk_cell BK168.out 14).trans rfl, (blk_cell BK168.out 15).trans rfl, (blk_cell BK168.out 16).trans rfl, (blk_cell BK168.out 17).trans rfl, (blk_cell BK168.out 18).trans rfl, (blk_cell BK168.out 19).trans rfl, (blk_cell BK168.out 20).trans rfl, (blk_cell BK168.out 21).trans rfl, (blk_cell BK168.out 22).trans rfl, (blk_cell BK168.out 23).trans rfl, (blk_cell BK168.out 24).trans rfl, (blk_cell BK169.out 0).trans rfl, (blk_cell BK169.out 1).trans rfl, (blk_cell BK169.out 2).trans rfl, (blk_cell BK169.out 3).trans rfl, (blk_cell BK169.out 4).trans rfl, (blk_cell BK169.out 5).trans rfl, (blk_cell BK169.out 6).trans rfl, (blk_cell BK169.out 7).trans rfl, (blk_cell BK169.out 8).trans rfl, (blk_cell BK169.out 9).trans rfl, (blk_cell BK169.out 10).trans rfl, (blk_cell BK169.out 11).trans rfl, (blk_cell BK169.out 12).trans rfl, (blk_cell BK169.out 13).trans rfl, (blk_cell BK169.out 14).trans rfl, (blk_cell BK169.out 15).trans rfl, (blk_cell BK169.out 16).trans rfl, (blk_cell BK169.out 17).trans rfl, (blk_cell BK169.out 18).trans rfl, (blk_cell BK169.out 19).trans rfl, (blk_cell BK169.out 20).trans rfl, (blk_cell BK169.out 21).trans rfl, (blk_cell BK169.out 22).trans rfl, (blk_cell BK169.out 23).trans rfl, (blk_cell BK169.out 24).trans rfl⟩ (fun hHeld => ?_)
          clear hK K
          refine norm_ (a' := ?_) ?_ ?_
          rotate_left
          · show Act.put _ (some 15) _ = _
            simp only [Act.put, List.setIfInBounds_toArray, List.set_cons_zero, List.set_cons_succ, i64_w, i32_w]
            rfl
          refine pure_ (i := 11) (N := some 16) (v := ?_) (a' := ?_) #[true, true, true, true, true, true, true, true, true, true, true, true, false, false, false, false, false, false, false, false, false, false, false, false, false, false, false, false, false, false, false, false, false, false] rfl rfl (any_of HT_.out (by kernel_rfl)) (fun _ _ _ h => h) (Or.inl ⟨by rfl, ?_⟩) ?_ ?_
          rotate_left
          · intro w'
            go_simp
            with_reducible rfl
          rotate_left
          · simp only [Act.put, List.setIfInBounds_toArray, List.set_cons_zero, List.set_cons_succ, i64_w, i32_w]
            rfl
          refine pure_ (i := 12) (N := some 17) (v := ?_) (a' := ?_) #[true, true, true, true, true, true, true, true, true, true, true, true, true, false, false, false, false, false, false, false, false, false, false, false, false, false, false, false, false, false, false, false, false, false] rfl rfl (any_of HT_.out (by kernel_rfl)) (fun _ _ _ h => h) (Or.inl ⟨by rfl, ?_⟩) ?_ ?_
          rotate_left
          · intro w'
            go_simp
            with_reducible rfl
          rotate_left
          · simp only [Act.put, List.setIfInBounds_toArray, List.set_cons_zero, List.set_cons_succ, i64_w, i32_w]
            rfl
          refine pure_ (i := 13) (N := some 18) (v := ?_) (a' := ?_) #[true, true, true, true, true, true, true, true, true, true, true, true, true, true, false, false, false, false, false, false, false, false, false, false, false, false, false, false, false, false, false, false, false, false] rfl rfl (any_of HT_.out (by kernel_rfl)) (fun _ _ _ h => h) (Or.inl ⟨by rfl, ?_⟩) ?_ ?_
          rotate_left
          · intro w'
            go_simp
            with_reducible rfl
          rotate_left
          · simp only [Act.put, List.setIfInBounds_toArray, List.set_cons_zero, List.set_cons_succ, i64_w, i32_w]
            rfl
          refine pure_ (i := 15) (N := some 20) (v := ?_) (a' := ?_) #[true, true, true, true, true, true, true, true, true, true, true, true, true, true, false, true, false, false, false, false, false, false, false, false, false, false, false, false, false, false, false, false, false, false] rfl rfl (any_of HT_.out (by kernel_rfl)) (fun _ _ _ h => h) (Or.inl ⟨by rfl, ?_⟩) ?_ ?_
          rotate_left
          · intro w'
            go_simp
            with_reducible rfl
          rotate_left
          · simp only [Act.put, List.setIfInBounds_toArray, List.set_cons_zero, List.set_cons_succ, i64_w, i32_w]
            rfl
          refine take_ (i := 14) (N := some 19) (v := ?_) (a' := ?_) #[true, true, true, true, true, true, true, true, true, true, true, true, true, true, true, true, false, false, false, false, false, false, false, false, false, false, false, false, false, false, false, false, false, false] rfl rfl (take_ofW HT_.out HW_.out (by kernel_rfl)) (fun _ _ _ h => h) (Or.inl ⟨by rfl, ?_⟩) hHeld ?_ ?_
          rotate_left
          · rintro w' ⟨s0, s1, s2, s3, s4, s5, s6, s7, s8, s9, s10, s11, s12, s13, s14, s15, s16, s17, s18, s19, s20, s21, s22, s23, s24, s25, s26, s27, s28, s29, s30, s31, s32, s33, s34, s35, s36, s37, s38, s39, s40, s41, s42, s43, s44, s45, s46, s47, s48, s49⟩
            first | (refine Eq.trans (head_Same.gx _ (by exact rfl) _ (by exact rfl) _ _ (by repeat (first | (apply head_Same.gxs; · assumption) | exact head_Same.gxn)) Try.underlying48 rfl (by kernel_rfl)) ?_; with_reducible rfl) | (go_simp; with_reducible rfl)
          rotate_left
          · simp only [Act.put, List.setIfInBounds_toArray, List.set_cons_zero, List.set_cons_succ, i64_w, i32_w]
            rfl
          refine take_ (i := 16) (N := some 21) (v := ?_) (a' := ?_) #[true, true, true, true, true, true, true, true, true, true, true, true, true, true, true, true, true, false, false, false, false, false, false, false, false, false, false, false, false, false, false, false, false, false] rfl rfl (take_ofW HT_.out HW_.out (by kernel_rfl)) (fun _ _ _ h => h) (Or.inl ⟨by rfl, ?_⟩) hHeld ?_ ?_
          rotate_left
          · rintro w' ⟨s0, s1, s2, s3, s4, s5, s6, s7, s8, s9, s10, s11, s12, s13, s14, s15, s16, s17, s18, s19, s20, s21, s22, s23, s24, s25, s26, s27, s28, s29, s30, s31, s32, s33, s34, s35, s36, s37, s38, s39, s40, s41, s42, s43, s44, s45, s46, s47, s48, s49⟩
            first | (refine Eq.trans (head_Same.gx _ (by exact rfl) _ (by exact rfl) _ _ (by repeat (first | (apply head_Same.gxs; · assumption) | exact head_Same.gxn)) Try.underlying48 rfl (by kernel_rfl)) ?_; with_reducible rfl) | (go_simp; with_reducible rfl)
          rotate_left
          · simp only [Act.put, List.setIfInBounds_toArray, List.set_cons_zero, List.set_cons_succ, i64_w, i32_w]
            rfl
          refine one_ (i := 17) (N := some 22) #[true, true, true, true, true, true, true, true, true, true, true, true, true, true, true, true, true, true, false, false, false, false, false, false, false, false, false, false, false, false, false, false, false, false] rfl rfl (one_of HT_.out (by kernel_rfl)) (by decide) (fun K hK => ?_)
          refine goes_ Try.func85 (by kernel_rfl) rfl #[.slice A0_22 l0_22.length c0_22, .slice A1_22 l1_22.length c1_22] (by rfl) rfl rfl (by (try simp only [List.map_toArray, List.map_cons, List.map_nil]); first | done | rfl | (simp only [List.length_drop, List.length_take]; rfl)) ?_
          with_reducible refine (head_list_int.calls k _ _ l0_22 _ _ l1_22 true _ ?side1 ?side2 ?side3 ?side4 A8.out).mono ?_
          (case side1 => repeat (first | exact (Kd.C_below HR0_22.out HB.out) | (with_reducible refine Kd.C_alloc ?_ _) | (with_reducible refine Kd.C_drewN ?_ _) | (with_reducible refine Kd.C_drew ?_)))
          (case side2 => exact HC0_22.out)
          (case side3 => repeat (first | exact (Kd.C_below HR1_22.out HB.out) | (with_reducible refine Kd.C_alloc ?_ _) | (with_reducible refine Kd.C_drewN ?_ _) | (with_reducible refine Kd.C_drew ?_)))
          (case side4 => exact HC1_22.out)
          rintro e w' ⟨rfl, ⟨nd, rfl⟩⟩
          refine ⟨_, rfl, ?_⟩
          refine hK.out _ _ ⟨(blk_cell BK168.out 0).trans rfl, (blk_cell BK168.out 1).trans rfl, (blk_cell BK168.out 2).trans rfl, (blk_cell BK168.out 3).trans rfl, (blk_cell BK168.out 4).trans rfl, (blk_cell BK168.out 5).trans rfl, (blk_cell BK168.out 6).trans rfl, (blk_cell BK168.out 7).trans rfl, (blk_cell BK168.out 8).trans rfl, (blk_cell BK168.out 9).trans rfl, (blk_cell BK168.out 10).trans rfl, (blk_cell BK168.out 11).trans rfl, (blk_cell BK168.out 12).trans rfl, (blk_cell BK168.out 13).trans rfl, (blk_cell BK168.out 14).trans rfl, (blk_cell BK168.out 15).trans rfl, (blk_cell BK168.out 16).trans rfl, (blk_cell BK168.out 17).trans rfl, (blk_cell BK168.out 18).trans rfl, (blk_cell BK168.out 19).trans rfl, (blk_cell BK168.out 20).trans rfl, (blk_cell BK168.out 21).trans rfl, (blk_cell BK168.out 22).trans rfl, (blk_cell BK168.out 23).trans rfl, (blk_cell BK168.out 24).trans rfl, (blk_cell BK169.out 0).trans rfl, (blk_cell BK169.out 1).trans rfl, (blk_cell BK169.out 2).trans rfl, (blk_cell BK169.out 3).trans rfl, (blk_cell BK169.out 4).trans rfl, (blk_cell BK169.out 5).trans rfl, (blk_cell BK169.out 6).trans rfl, (blk_cell BK169.out 7).trans rfl, (blk_cell BK169.out 8).trans rfl, (blk_cell BK169.out 9).trans rfl, (blk_cell BK169.out 10).trans rfl, (blk_cell BK169.out 11).trans rfl, (blk_cell BK169.out 12).trans rfl, (blk_cell BK169.out 13).trans rfl, (blk_cell BK169.out 14).trans rfl, (blk_cell BK169.out 15).trans rfl, (blk_cell BK169.out 16).trans rfl, (blk_cell BK169.out 17).trans rfl, (blk_cell BK169.out 18).trans rfl, (blk_cell BK169.out 19).trans rfl, (blk_cell BK169.out 20).trans rfl, (blk_cell BK169.out 21).trans rfl, (blk_cell BK169.out 22).trans rfl, (blk_cell BK169.out 23).trans rfl, (blk_cell BK169.out 24).trans rfl⟩ (fun hHeld => ?_)
          clear hK K
          refine norm_ (a' := ?_) ?_ ?_
          rotate_left
          · show Act.put _ (some 22) _ = _
            simp only [Act.put, List.setIfInBounds_toArray, List.set_cons_zero, List.set_cons_succ, i64_w, i32_w]
            rfl
          refine pure_ (i := 18) (N := some 23) (v := ?_) (a' := ?_) #[true, true, true, true, true, true, true, true, true, true, true, true, true, true, true, true, true, true, true, false, false, false, false, false, false, false, false, false, false, false, false, false, false, false] rfl rfl (any_of HT_.out (by kernel_rfl)) (fun _ _ _ h => h) (Or.inl ⟨by rfl, ?_⟩) ?_ ?_
          rotate_left
          · intro w'
            go_simp
            with_reducible rfl
          rotate_left
          · simp only [Act.put, List.setIfInBounds_toArray, List.set_cons_zero, List.set_cons_succ, i64_w, i32_w]
            rfl
          refine pure_ (i := 19) (N := some 24) (v := ?_) (a' := ?_) #[true, true, true, true, true, true, true, true, true, true, true, true, true, true, true, true, true, true, true, true, false, false, false, false, false, false, false, false, false, false, false, false, false, false] rfl rfl (any_of HT_.out (by kernel_rfl)) (fun _ _ _ h => h) (Or.inl ⟨by rfl, ?_⟩) ?_ ?_
          rotate_left
          · intro w'
            go_simp
            with_reducible rfl
          rotate_left
          · simp only [Act.put, List.setIfInBounds_toArray, List.set_cons_zero, List.set_cons_succ, i64_w, i32_w]
            rfl
          refine pure_ (i := 20) (N := some 25) (v := ?_) (a' := ?_) #[true, true, true, true, true, true, true, true, true, true, true, true, true, true, true, true, true, true, true, true, true, false, false, false, false, false, false, false, false, false, false, false, false, false] rfl rfl (any_of HT_.out (by kernel_rfl)) (fun _ _ _ h => h) (Or.inl ⟨by rfl, ?_⟩) ?_ ?_
          rotate_left
          · intro w'
            go_simp
            with_reducible rfl
          rotate_left
          · simp only [Act.put, List.setIfInBounds_toArray, List.set_cons_zero, List.set_cons_succ, i64_w, i32_w]
            rfl
          refine pure_ (i := 22) (N := some 27) (v := ?_) (a' := ?_) #[true, true, true, true, true, true, true, true, true, true, true, true, true, true, true, true, true, true, true, true, true, false, true, false, false, false, false, false, false, false, false, false, false, false] rfl rfl (any_of HT_.out (by kernel_rfl)) (fun _ _ _ h => h) (Or.inl ⟨by rfl, ?_⟩) ?_ ?_
          rotate_left
          · intro w'
            go_simp
            with_reducible rfl
          rotate_left
          · simp only [Act.put, List.setIfInBounds_toArray, List.set_cons_zero, List.set_cons_succ, i64_w, i32_w]
            rfl
          refine take_ (i := 21) (N := some 26) (v := ?_) (a' := ?_) #[true, true, true, true, true, true, true, true, true, true, true, true, true, true, true, true, true, true, true, true, true, true, true, false, false, false, false, false, false, false, false, false, false, false] rfl rfl (take_ofW HT_.out HW_.out (by kernel_rfl)) (fun _ _ _ h => h) (Or.inl ⟨by rfl, ?_⟩) hHeld ?_ ?_
          rotate_left
          · rintro w' ⟨s0, s1, s2, s3, s4, s5, s6, s7, s8, s9, s10, s11, s12, s13, s14, s15, s16, s17, s18, s19, s20, s21, s22, s23, s24, s25, s26, s27, s28, s29, s30, s31, s32, s33, s34, s35, s36, s37, s38, s39, s40, s41, s42, s43, s44, s45, s46, s47, s48, s49⟩
            first | (refine Eq.trans (head_Same.gx _ (by exact rfl) _ (by exact rfl) _ _ (by repeat (first | (apply head_Same.gxs; · assumption) | exact head_Same.gxn)) Try.underlying48 rfl (by kernel_rfl)) ?_; with_reducible rfl) | (go_simp; with_reducible rfl)
          rotate_left
          · simp only [Act.put, List.setIfInBounds_toArray, List.set_cons_zero, List.set_cons_succ, i64_w, i32_w]
            rfl
          refine take_ (i := 23) (N := some 28) (v := ?_) (a' := ?_) #[true, true, true, true, true, true, true, true, true, true, true, true, true, true, true, true, true, true, true, true, true, true, true, true, false, false, false, false, false, false, false, false, false, false] rfl rfl (take_ofW HT_.out HW_.out (by kernel_rfl)) (fun _ _ _ h => h) (Or.inl ⟨by rfl, ?_⟩) hHeld ?_ ?_
          rotate_left
          · rintro w' ⟨s0, s1, s2, s3, s4, s5, s6, s7, s8, s9, s10, s11, s12, s13, s14, s15, s16, s17, s18, s19, s20, s21, s22, s23, s24, s25, s26, s27, s28, s29, s30, s31, s32, s33, s34, s35, s36, s37, s38, s39, s40, s41, s42, s43, s44, s45, s46, s47, s48, s49⟩
            first | (refine Eq.trans (head_Same.gx _ (by exact rfl) _ (by exact rfl) _ _ (by repeat (first | (apply head_Same.gxs; · assumption) | exact head_Same.gxn)) Try.underlying48 rfl (by kernel_rfl)) ?_; with_reducible rfl) | (go_simp; with_reducible rfl)
          rotate_left
          · simp only [Act.put, List.setIfInBounds_toArray, List.set_cons_zero, List.set_cons_succ, i64_w, i32_w]
            rfl
          refine one_ (i := 24) (N := some 29) #[true, true, true, true, true, true, true, true, true, true, true, true, true, true, true, true, true, true, true, true, true, true, true, true, true, false, false, false, false, false, false, false, false, false] rfl rfl (one_of HT_.out (by kernel_rfl)) (by decide) (fun K hK => ?_)
          refine goes_ Try.func86 (by kernel_rfl) rfl #[.slice A0_23 l0_23.length c0_23, .slice A1_23 l1_23.length c1_23] (by rfl) rfl rfl (by (try simp only [List.map_toArray, List.map_cons, List.map_nil]); first | done | rfl | (simp only [List.length_drop, List.length_take]; rfl)) ?_
          with_reducible refine (api_Filter_86.calls k _ _ l0_23 _ _ l1_23 true _ ?side1 ?side2 ?side3 ?side4 A10.out).mono ?_
          (case side1 => repeat (first | exact (Kd.C_below HR0_23.out (by repeat (first | (with_reducible first | exact HB.out | apply below_alloc | apply pw_below_drewN | apply below_drew1 | refine below_set ?_ GE168.out | refine below_set ?_ GE169.out) | exact HB.out))) | (with_reducible refine Kd.C_alloc ?_ _) | (with_reducible refine Kd.C_drewN ?_ _) | (with_reducible refine Kd.C_drew ?_)))
          (case side2 => exact HC0_23.out)
          (case side3 => repeat (first | exact (Kd.C_below HR1_23.out (by repeat (first | (with_reducible first | exact HB.out | apply below_alloc | apply pw_below_drewN | apply below_drew1 | refine below_set ?_ GE168.out | refine below_set ?_ GE169.out) | exact HB.out))) | (with_reducible refine Kd.C_alloc ?_ _) | (with_reducible refine Kd.C_drewN ?_ _) | (with_reducible refine Kd.C_drew ?_)))
          (case side4 => exact HC1_23.out)
          rintro e w19 ⟨rfl, hb⟩
          refine ⟨_, rfl, ?_⟩
          have n0_ := Aside0.mk (blk_below (g := gb168) (o := .cells #[.int .i64 a0_0, .bool a0_1, .bool a0_2, .int .i64 a0_3, .int .i64 a0_4, .string a0_5, .string a0_6, .bool a0_7, .int .i64 a0_8, .string a0_9, .bool a0_10, .string a0_11, .bool a0_12, .string a0_13, .bool a0_14, .string a0_15, .string a0_16, .int .i64 a0_17, .bool a0_18, .slice A0_19 l0_19.length c0_19, .bool a0_20, .int .i64 a0_21, .slice A0_22 l0_22.length c0_22, .slice A0_23 l0_23.length c0_23, .slice A0_24 l0_24.length c0_24] 48 (0, 0)) (by (with_reducible repeat (first | refine blk_drewN ?_ _ | refine blk_drew ?_ | refine blk_alloc ?_ _)); exact BK168.out) hb)
          have n1_ := Aside0.mk (blk_below (g := gb169) (o := .cells #[.int .i64 a1_0, .bool a1_1, .bool a1_2, .int .i64 a1_3, .int .i64 a1_4, .string a1_5, .string a1_6, .bool a1_7, .int .i64 a1_8, .string a1_9, .bool a1_10, .string a1_11, .bool a1_12, .string a1_13, .bool a1_14, .string a1_15, .string a1_16, .int .i64 a1_17, .bool a1_18, .slice A1_19 l1_19.length c1_19, .bool a1_20, .int .i64 a1_21, .slice A1_22 l1_22.length c1_22, .slice A1_23 l1_23.length c1_23, .slice A1_24 l1_24.length c1_24] 48 (0, 0)) (by (with_reducible repeat (first | refine blk_drewN ?_ _ | refine blk_drew ?_ | refine blk_alloc ?_ _)); exact BK169.out) hb)
          have n2_ := Aside0.mk (below_step (by repeat (first | (with_reducible first | exact HB.out | apply below_alloc | apply pw_below_drewN | apply below_drew1 | refine below_set ?_ GE168.out | refine below_set ?_ GE169.out) | exact HB.out)) hb)
          clear BK168
          clear BK169
          clear HB
          have BK168 := n0_
          have BK169 := n1_
          have HB := n2_
          clear n0_ n1_ n2_
          (try clear hb)
          (try clear hb2)
          (try clear hk)
          (try clear hi)
          refine hK.out _ _ ⟨(blk_cell BK168.out 0).trans rfl, (blk_cell BK168.out 1).trans rfl, (blk_cell BK168.out 2).trans rfl, (blk_cell BK168.out 3).trans rfl, (blk_cell BK168.out 4).trans rfl, (blk_cell BK168.out 5).trans rfl, (blk_cell BK168.out 6).trans rfl, (blk_cell BK168.out 7).trans rfl, (blk_cell BK168.out 8).trans rfl, (blk_cell BK168.out 9).trans rfl, (blk_cell BK168.out 10).trans rfl, (blk_cell BK168.out 11).trans rfl, (blk_cell BK168.out 12).trans rfl, (blk_cell BK168.out 13).trans rfl, (blk_cell BK168.out 14).trans rfl, (blk_cell BK168.out 15).trans rfl, (blk_cell BK168.out 16).trans rfl, (blk_cell BK168.out 17).trans rfl, (blk_cell BK168.out 18).trans rfl, (blk_cell BK168.out 19).trans rfl, (blk_cell BK168.out 20).trans rfl, (blk_cell BK168.out 21).trans rfl, (blk_cell BK168.out 22).trans rfl, (blk_cell BK168.out 23).trans rfl, (blk_cell BK168.out 24).trans rfl, (blk_cell BK169.out 0).trans rfl, (blk_cell BK169.out 1).trans rfl, (blk_cell BK169.out 2).trans rfl, (blk_cell BK169.out 3).trans rfl, (blk_cell BK169.out 4).trans rfl, (blk_cell BK169.out 5).trans rfl, (blk_cell BK169.out 6).trans rfl, (blk_cell BK169.out 7).trans rfl, (blk_cell BK169.out 8).trans rfl, (blk_cell BK169.out 9).trans rfl, (blk_cell BK169.out 10).trans rfl, (blk_cell BK169.out 11).trans rfl, (blk_cell BK169.out 12).trans rfl, (blk_cell BK169.out 13).trans rfl, (blk_cell BK169.out 14).trans rfl, (blk_cell BK169.out 15).trans rfl, (blk_cell BK169.out 16).trans rfl, (blk_cell BK169.out 17).trans rfl, (blk_cell BK169.out 18).trans rfl, (blk_cell BK169.out 19).trans rfl, (blk_cell BK169.out 20).trans rfl, (blk_cell BK169.out 21).trans rfl, (blk_cell BK169.out 22).trans rfl, (blk_cell BK169.out 23).trans rfl, (blk_cell BK169.out 24).trans rfl⟩ (fun hHeld => ?_)
          clear hK K
          refine norm_ (a' := ?_) ?_ ?_
          rotate_left
          · show Act.put _ (some 29) _ = _
            simp only [Act.put, List.setIfInBounds_toArray, List.set_cons_zero, List.set_cons_succ, i64_w, i32_w]
            rfl
          refine pure_ (i := 25) (N := some 30) (v := ?_) (a' := ?_) #[true, true, true, true, true, true, true, true, true, true, true, true, true, true, true, true, true, true, true, true, true, true, true, true, true, true, false, false, false, false, false, false, false, false] rfl rfl (any_of HT_.out (by kernel_rfl)) (fun _ _ _ h => h) (Or.inl ⟨by rfl, ?_⟩) ?_ ?_
          rotate_left
          · intro w'
            go_simp
            with_reducible rfl
          rotate_left
          · simp only [Act.put, List.setIfInBounds_toArray, List.set_cons_zero, List.set_cons_succ, i64_w, i32_w]
            rfl
          refine pure_ (i := 26) (N := some 31) (v := ?_) (a' := ?_) #[true, true, true, true, true, true, true, true, true, true, true, true, true, true, true, true, true, true, true, true, true, true, true, true, true, true, true, false, false, false, false, false, false, false] rfl rfl (any_of HT_.out (by kernel_rfl)) (fun _ _ _ h => h) (Or.inl ⟨by rfl, ?_⟩) ?_ ?_
          rotate_left
          · intro w'
            go_simp
            with_reducible rfl
          rotate_left
          · simp only [Act.put, List.setIfInBounds_toArray, List.set_cons_zero, List.set_cons_succ, i64_w, i32_w]
            rfl
          refine pure_ (i := 27) (N := some 32) (v := ?_) (a' := ?_) #[true, true, true, true, true, true, true, true, true, true, true, true, true, true, true, true, true, true, true, true, true, true, true, true, true, true, true, true, false, false, false, false, false, false] rfl rfl (any_of HT_.out (by kernel_rfl)) (fun _ _ _ h => h) (Or.inl ⟨by rfl, ?_⟩) ?_ ?_
          rotate_left
          · intro w'
            go_simp
            with_reducible rfl
          rotate_left
          · simp only [Act.put, List.setIfInBounds_toArray, List.set_cons_zero, List.set_cons_succ, i64_w, i32_w]
            rfl
          refine pure_ (i := 29) (N := some 34) (v := ?_) (a' := ?_) #[true, true, true, true, true, true, true, true, true, true, true, true, true, true, true, true, true, true, true, true, true, true, true, true, true, true, true, true, false, true, false, false, false, false] rfl rfl (any_of HT_.out (by kernel_rfl)) (fun _ _ _ h => h) (Or.inl ⟨by rfl, ?_⟩) ?_ ?_
          rotate_left
          · intro w'
            go_simp
            with_reducible rfl
          rotate_left
          · simp only [Act.put, List.setIfInBounds_toArray, List.set_cons_zero, List.set_cons_succ, i64_w, i32_w]
            rfl
          refine take_ (i := 28) (N := some 33) (v := ?_) (a' := ?_) #[true, true, true, true, true, true, true, true, true, true, true, true, true, true, true, true, true, true, true, true, true, true, true, true, true, true, true, true, true, true, false, false, false, false] rfl rfl (take_ofW HT_.out HW_.out (by kernel_rfl)) (fun _ _ _ h => h) (Or.inl ⟨by rfl, ?_⟩) hHeld ?_ ?_
          rotate_left
          · rintro w' ⟨s0, s1, s2, s3, s4, s5, s6, s7, s8, s9, s10, s11, s12, s13, s14, s15, s16, s17, s18, s19, s20, s21, s22, s23, s24, s25, s26, s27, s28, s29, s30, s31, s32, s33, s34, s35, s36, s37, s38, s39, s40, s41, s42, s43, s44, s45, s46, s47, s48, s49⟩
            first | (refine Eq.trans (head_Same.gx _ (by exact rfl) _ (by exact rfl) _ _ (by repeat (first | (apply head_Same.gxs; · assumption) | exact head_Same.gxn)) Try.underlying48 rfl (by kernel_rfl)) ?_; with_reducible rfl) | (go_simp; with_reducible rfl)
          rotate_left
          · simp only [Act.put, List.setIfInBounds_toArray, List.set_cons_zero, List.set_cons_succ, i64_w, i32_w]
            rfl
          refine take_ (i := 30) (N := some 35) (v := ?_) (a' := ?_) #[true, true, true, true, true, true, true, true, true, true, true, true, true, true, true, true, true, true, true, true, true, true, true, true, true, true, true, true, true, true, true, false, false, false] rfl rfl (take_ofW HT_.out HW_.out (by kernel_rfl)) (fun _ _ _ h => h) (Or.inl ⟨by rfl, ?_⟩) hHeld ?_ ?_
          rotate_left
          · rintro w' ⟨s0, s1, s2, s3, s4, s5, s6, s7, s8, s9, s10, s11, s12, s13, s14, s15, s16, s17, s18, s19, s20, s21, s22, s23, s24, s25, s26, s27, s28, s29, s30, s31, s32, s33, s34, s35, s36, s37, s38, s39, s40, s41, s42, s43, s44, s45, s46, s47, s48, s49⟩
            first | (refine Eq.trans (head_Same.gx _ (by exact rfl) _ (by exact rfl) _ _ (by repeat (first | (apply head_Same.gxs; · assumption) | exact head_Same.gxn)) Try.underlying48 rfl (by kernel_rfl)) ?_; with_reducible rfl) | (go_simp; with_reducible rfl)
          rotate_left
          · simp only [Act.put, List.setIfInBounds_toArray, List.set_cons_zero, List.set_cons_succ, i64_w, i32_w]
            rfl
          refine one_ (i := 31) (N := some 36) #[true, true, true, true, true, true, true, true, true, true, true, true, true, true, true, true, true, true, true, true, true, true, true, true, true, true, true, true, true, true, true, true, false, false] rfl rfl (one_of HT_.out (by kernel_rfl)) (by decide) (fun K hK => ?_)
          refine goes_ Try.func87 (by kernel_rfl) rfl #[.slice A0_24 l0_24.length c0_24, .slice A1_24 l1_24.length c1_24] (by rfl) rfl rfl (by (try simp only [List.map_toArray, List.map_cons, List.map_nil]); first | done | rfl | (simp only [List.length_drop, List.length_take]; rfl)) ?_
          with_reducible refine (api_Prop_87.calls k _ _ l0_24 _ _ l1_24 t207 _ ?side1 ?side2 ?side3 ?side4 A12.out).mono ?_
          (case side1 => repeat (first | exact (Kd.C_below HR0_24.out HB.out) | (with_reducible refine Kd.C_alloc ?_ _) | (with_reducible refine Kd.C_drewN ?_ _) | (with_reducible refine Kd.C_drew ?_)))
          (case side2 => exact HC0_24.out)
          (case side3 => repeat (first | exact (Kd.C_below HR1_24.out HB.out) | (with_reducible refine Kd.C_alloc ?_ _) | (with_reducible refine Kd.C_drewN ?_ _) | (with_reducible refine Kd.C_drew ?_)))
          (case side4 => exact HC1_24.out)
          rintro e w20 ⟨rfl, hb⟩
          refine ⟨_, rfl, ?_⟩
          have n0_ := Aside0.mk (blk_below (g := gb168) (o := .cells #[.int .i64 a0_0, .bool a0_1, .bool a0_2, .int .i64 a0_3, .int .i64 a0_4, .string a0_5, .string a0_6, .bool a0_7, .int .i64 a0_8, .string a0_9, .bool a0_10, .string a0_11, .bool a0_12, .string a0_13, .bool a0_14, .string a0_15, .string a0_16, .int .i64 a0_17, .bool a0_18, .slice A0_19 l0_19.length c0_19, .bool a0_20, .int .i64 a0_21, .slice A0_22 l0_22.length c0_22, .slice A0_23 l0_23.length c0_23, .slice A0_24 l0_24.length c0_24] 48 (0, 0)) (by (with_reducible repeat (first | refine blk_drewN ?_ _ | refine blk_drew ?_ | refine blk_alloc ?_ _)); exact BK168.out) hb)
          have n1_ := Aside0.mk (blk_below (g := gb169) (o := .cells #[.int .i64 a1_0, .bool a1_1, .bool a1_2, .int .i64 a1_3, .int .i64 a1_4, .string a1_5, .string a1_6, .bool a1_7, .int .i64 a1_8, .string a1_9, .bool a1_10, .string a1_11, .bool a1_12, .string a1_13, .bool a1_14, .string a1_15, .string a1_16, .int .i64 a1_17, .bool a1_18, .slice A1_19 l1_19.length c1_19, .bool a1_20, .int .i64 a1_21, .slice A1_22 l1_22.length c1_22, .slice A1_23 l1_23.length c1_23, .slice A1_24 l1_24.length c1_24] 48 (0, 0)) (by (with_reducible repeat (first | refine blk_drewN ?_ _ | refine blk_drew ?_ | refine blk_alloc ?_ _)); exact BK169.out) hb)
          have n2_ := Aside0.mk (below_step (by repeat (first | (with_reducible first | exact HB.out | apply below_alloc | apply pw_below_drewN | apply below_drew1 | refine below_set ?_ GE168.out | refine below_set ?_ GE169.out) | exact HB.out)) hb)
          clear BK168
          clear BK169
          clear HB
          have BK168 := n0_
          have BK169 := n1_
          have HB := n2_
          clear n0_ n1_ n2_
          (try clear hb)
          (try clear hb2)
          (try clear hk)
          (try clear hi)
          refine hK.out _ _ ⟨(blk_cell BK168.out 0).trans rfl, (blk_cell BK168.out 1).trans rfl, (blk_cell BK168.out 2).trans rfl, (blk_cell BK168.out 3).trans rfl, (blk_cell BK168.out 4).trans rfl, (blk_cell BK168.out 5).trans rfl, (blk_cell BK168.out 6).trans rfl, (blk_cell BK168.out 7).trans rfl, (blk_cell BK168.out 8).trans rfl, (blk_cell BK168.out 9).trans rfl, (blk_cell BK168.out 10).trans rfl, (blk_cell BK168.out 11).trans rfl, (blk_cell BK168.out 12).trans rfl, (blk_cell BK168.out 13).trans rfl, (blk_cell BK168.out 14).trans rfl, (blk_cell BK168.out 15).trans rfl, (blk_cell BK168.out 16).trans rfl, (blk_cell BK168.out 17).trans rfl, (blk_cell BK168.out 18).trans rfl, (blk_cell BK168.out 19).trans rfl, (blk_cell BK168.out 20).trans rfl, (blk_cell BK168.out 21).trans rfl, (blk_cell BK168.out 22).trans rfl, (blk_cell BK168.out 23).trans rfl, (blk_cell BK168.out 24).trans rfl, (blk_cell BK169.out 0).trans rfl, (blk_cell BK169.out 1).trans rfl, (blk_cell BK169.out 2).trans rfl, (blk_cell BK169.out 3).trans rfl, (blk_cell BK169.out 4).trans rfl, (blk_cell BK169.out 5).trans rfl, (blk_cell BK169.out 6).trans rfl, (blk_cell BK169.out 7).trans rfl, (blk_cell BK169.out 8).trans rfl, (blk_cell BK169.out 9).trans rfl, (blk_cell BK169.out 10).trans rfl, (blk_cell BK169.out 11).trans rfl, (blk_cell BK169.out 12).trans rfl, (blk_cell BK169.out 13).trans rfl, (blk_cell BK169.out 14).trans rfl, (blk_cell BK169.out 15).trans rfl, (blk_cell BK169.out 16).trans rfl, (blk_cell BK169.out 17).trans rfl, (blk_cell BK169.out 18).trans rfl, (blk_cell BK169.out 19).trans rfl, (blk_cell BK169.out 20).trans rfl, (blk_cell BK169.out 21).trans rfl, (blk_cell BK169.out 22).trans rfl, (blk_cell BK169.out 23).trans rfl, (blk_cell BK169.out 24).trans rfl⟩ (fun hHeld => ?_)
          clear hK K
          refine norm_ (a' := ?_) ?_ ?_
          rotate_left
          · show Act.put _ (some 36) _ = _
            simp only [Act.put, List.setIfInBounds_toArray, List.set_cons_zero, List.set_cons_succ, i64_w, i32_w]
            rfl
          refine pure_ (i := 32) (N := some 37) (v := ?_) (a' := ?_) #[true, true, true, true, true, true, true, true, true, true, true, true, true, true, true, true, true, true, true, true, true, true, true, true, true, true, true, true, true, true, true, true, true, false] rfl rfl (any_of HT_.out (by kernel_rfl)) (fun _ _ _ h => h) (Or.inl ⟨by rfl, ?_⟩) ?_ ?_
          rotate_left
          · intro w'
            go_simp
            with_reducible rfl
          rotate_left
          · simp only [Act.put, List.setIfInBounds_toArray, List.set_cons_zero, List.set_cons_succ, i64_w, i32_w]
            rfl
          refine pure_ (i := 33) (N := some 4) (v := ?_) (a' := ?_) #[true, true, true, true, true, true, true, true, true, true, true, true, true, true, true, true, true, true, true, true, true, true, true, true, true, true, true, true, true, true, true, true, true, true] rfl rfl (any_of HT_.out (by kernel_rfl)) (fun _ _ _ h => h) (Or.inl ⟨by rfl, ?_⟩) ?_ ?_
          rotate_left
          · intro w'
            go_simp
            with_reducible rfl
          rotate_left
          · simp only [Act.put, List.setIfInBounds_toArray, List.set_cons_zero, List.set_cons_succ, i64_w, i32_w]
            rfl
          refine done_ (done_of HT_.out (by kernel_rfl)) ?_
          try go_wp2
          go_ret
          exact ⟨by first | rfl | (simp [errW_none, errW_some] <;> rfl) | (simp [*, errW_none, errW_some] <;> rfl), by repeat (first | (with_reducible first | exact HB.out | apply below_alloc | apply pw_below_drewN | apply below_drew1 | refine below_set ?_ GE168.out | refine below_set ?_ GE169.out) | exact HB.out)⟩
        · replace c11 := Bool.eq_false_iff.mpr c11
          subst c11
          have H1 : (some false) = some r := by rw [if_neg (show ¬ (false = true) by decide)] at H; exact H
          clear H
          have H := H1
          clear H1
          obtain rfl := Option.some.inj H
          go_enter Try.func70, Try.ntmps70
          try go_wp2_with (first | ((with_reducible refine head_Same.gl rfl ?_); (try (refine gate_guard (by first | rfl | (simp [*]; done) | fail) ?_; dsimp only)); refine wpList_load_row rfl 48 _ rfl _ (by rfl) 48 _ _ _ (by first | exact Aside0.out (by with_reducible assumption) | ((with_reducible repeat (first | refine blk_drewN ?_ _ | refine blk_drew ?_ | refine blk_alloc ?_ _)); exact Aside0.out (by with_reducible assumption)) | (refine blk_put (Aside0.out (by with_reducible assumption)) 24 _ ?_; simp only [List.setIfInBounds_toArray, List.set_cons_zero, List.set_cons_succ]; rfl) | (apply blk_put (i := 24); (case h => exact Aside0.out (by with_reducible assumption)); (case e => (simp only [List.setIfInBounds_toArray, List.set_cons_zero, List.set_cons_succ]; rfl)))) Try.underlying48 rfl (by kernel_rfl) ?_) | ((with_reducible refine gate_dst (N := 2) rfl ?_); refine box_event ?hg (N := 2) ?hd (cs := #[.int .i64 a0_0, .bool a0_1, .bool a0_2, .int .i64 a0_3, .int .i64 a0_4, .string a0_5, .string a0_6, .bool a0_7, .int .i64 a0_8, .string a0_9, .bool a0_10, .string a0_11, .bool a0_12, .string a0_13, .bool a0_14, .string a0_15, .string a0_16, .int .i64 a0_17, .bool a0_18, .slice A0_19 l0_19.length c0_19, .bool a0_20, .int .i64 a0_21, .slice A0_22 l0_22.length c0_22, .slice A0_23 l0_23.length c0_23, .slice A0_24 l0_24.length c0_24]) (t := 48) ?hr ?_; (case hd => rfl); (case hg => rfl); (case hr => first | (go_simp; done) | (go_simp; rfl)); intro gb168 hg w21 hbox hb; have n0_ := Aside0.mk (below_step (by repeat (first | (with_reducible first | exact HB.out | apply below_alloc | apply pw_below_drewN | apply below_drew1) | exact HB.out)) hb); have n1_ := Aside0.mk (hbox); have n2_ := Aside0.mk ((by rw [hg]; exact (below_size (by repeat (first | (with_reducible first | exact HB.out | apply below_alloc | apply pw_below_drewN | apply below_drew1) | exact HB.out))) : w.heap.size ≤ gb168)); have n3_ := Aside0.mk ((by rw [hg]; exact (below_size (by repeat (first | (with_reducible first | exact HB.out | apply below_alloc | apply pw_below_drewN | apply below_drew1) | exact HB.out))) : w.heap.size ≤ gb168)); clear HB; have HB := n0_; have BK168 := n1_; have GW168 := n2_; have GE168 := n3_; clear n0_ n1_ n2_ n3_; clear hb hbox hg) | ((with_reducible refine gate_dst (N := 3) rfl ?_); refine box_event ?hg (N := 3) ?hd (cs := #[.int .i64 a1_0, .bool a1_1, .bool a1_2, .int .i64 a1_3, .int .i64 a1_4, .string a1_5, .string a1_6, .bool a1_7, .int .i64 a1_8, .string a1_9, .bool a1_10, .string a1_11, .bool a1_12, .string a1_13, .bool a1_14, .string a1_15, .string a1_16, .int .i64 a1_17, .bool a1_18, .slice A1_19 l1_19.length c1_19, .bool a1_20, .int .i64 a1_21, .slice A1_22 l1_22.length c1_22, .slice A1_23 l1_23.length c1_23, .slice A1_24 l1_24.length c1_24]) (t := 48) ?hr ?_; (case hd => rfl); (case hg => rfl); (case hr => first | (go_simp; done) | (go_simp; rfl)); intro gb169 hg w22 hbox hb; have n0_ := Aside0.mk (blk_below (g := gb168) (o := .cells #[.int .i64 a0_0, .bool a0_1, .bool a0_2, .int .i64 a0_3, .int .i64 a0_4, .string a0_5, .string a0_6, .bool a0_7, .int .i64 a0_8, .string a0_9, .bool a0_10, .string a0_11, .bool a0_12, .string a0_13, .bool a0_14, .string a0_15, .string a0_16, .int .i64 a0_17, .bool a0_18, .slice A0_19 l0_19.length c0_19, .bool a0_20, .int .i64 a0_21, .slice A0_22 l0_22.length c0_22, .slice A0_23 l0_23.length c0_23, .slice A0_24 l0_24.length c0_24] 48 (0, 0)) (by (with_reducible repeat (first | refine blk_drewN ?_ _ | refine blk_drew ?_ | refine blk_alloc ?_ _)); exact BK168.out) hb); have n1_ := Aside0.mk (below_step (by repeat (first | (with_reducible first | exact HB.out | apply below_alloc | apply pw_below_drewN | apply below_drew1 | refine below_set ?_ GE168.out) | exact HB.out)) hb); have n2_ := Aside0.mk (hbox); have n3_ := Aside0.mk ((by rw [hg]; exact (below_size (by repeat (first | (with_reducible first | exact HB.out | apply below_alloc | apply pw_below_drewN | apply below_drew1 | refine below_set ?_ GE168.out) | exact HB.out))) : w.heap.size ≤ gb169)); have n4_ := Aside0.mk ((by rw [hg]; exact (below_size (by repeat (first | (with_reducible first | exact HB.out | apply below_alloc | apply pw_below_drewN | apply below_drew1 | refine below_set ?_ GE168.out) | exact HB.out))) : w.heap.size ≤ gb169)); have n5_ := Aside0.mk ((by rw [hg]; exact Nat.ne_of_lt (blk_lt (g := gb168) (o := .cells #[.int .i64 a0_0, .bool a0_1, .bool a0_2, .int .i64 a0_3, .int .i64 a0_4, .string a0_5, .string a0_6, .bool a0_7, .int .i64 a0_8, .string a0_9, .bool a0_10, .string a0_11, .bool a0_12, .string a0_13, .bool a0_14, .string a0_15, .string a0_16, .int .i64 a0_17, .bool a0_18, .slice A0_19 l0_19.length c0_19, .bool a0_20, .int .i64 a0_21, .slice A0_22 l0_22.length c0_22, .slice A0_23 l0_23.length c0_23, .slice A0_24 l0_24.length c0_24] 48 (0, 0)) (by (with_reducible repeat (first | refine blk_drewN ?_ _ | refine blk_drew ?_ | refine blk_alloc ?_ _)); exact BK168.out)) : gb168 ≠ gb169)); have n6_ := Aside0.mk ((by rw [hg]; exact Nat.ne_of_gt (blk_lt (g := gb168) (o := .cells #[.int .i64 a0_0, .bool a0_1, .bool a0_2, .int .i64 a0_3, .int .i64 a0_4, .string a0_5, .string a0_6, .bool a0_7, .int .i64 a0_8, .string a0_9, .bool a0_10, .string a0_11, .bool a0_12, .string a0_13, .bool a0_14, .string a0_15, .string a0_16, .int .i64 a0_17, .bool a0_18, .slice A0_19 l0_19.length c0_19, .bool a0_20, .int .i64 a0_21, .slice A0_22 l0_22.length c0_22, .slice A0_23 l0_23.length c0_23, .slice A0_24 l0_24.length c0_24] 48 (0, 0)) (by (with_reducible repeat (first | refine blk_drewN ?_ _ | refine blk_drew ?_ | refine blk_alloc ?_ _)); exact BK168.out)) : gb169 ≠ gb168)); clear BK168; clear HB; have BK168 := n0_; have HB := n1_; have BK169 := n2_; have GW169 := n3_; have GE169 := n4_; have NB168_169 := n5_; have NB169_168 := n6_; clear n0_ n1_ n2_ n3_ n4_ n5_ n6_; clear hb hbox hg))
          have n0_ := Aside0.mk (blk_drew BK168.out)
          have n1_ := Aside0.mk (blk_drew BK169.out)
          have n2_ := Aside0.mk (below_drew1 HB.out)
          clear BK168
          clear BK169
          clear HB
          have BK168 := n0_
          have BK169 := n1_
          have HB := n2_
          clear n0_ n1_ n2_
          refine start_ (n := 34) (S := fun w' => w'.cell? ⟨gb168, 0, none⟩ = some (.int .i64 a0_0) ∧ w'.cell? ⟨gb168, 1, none⟩ = some (.bool a0_1) ∧ w'.cell? ⟨gb168, 2, none⟩ = some (.bool a0_2) ∧ w'.cell? ⟨gb168, 3, none⟩ = some (.int .i64 a0_3) ∧ w'.cell? ⟨gb168, 4, none⟩ = some (.int .i64 a0_4) ∧ w'.cell? ⟨gb168, 5, none⟩ = some (.string a0_5) ∧ w'.cell? ⟨gb168, 6, none⟩ = some (.string a0_6) ∧ w'.cell? ⟨gb168, 7, none⟩ = some (.bool a0_7) ∧ w'.cell? ⟨gb168, 8, none⟩ = some (.int .i64 a0_8) ∧ w'.cell? ⟨gb168, 9, none⟩ = some (.string a0_9) ∧ w'.cell? ⟨gb168, 10, none⟩ = some (.bool a0_10) ∧ w'.cell? ⟨gb168, 11, none⟩ = some (.string a0_11) ∧ w'.cell? ⟨gb168, 12, none⟩ = some (.bool a0_12) ∧ w'.cell? ⟨gb168, 13, none⟩ = some (.string a0_13) ∧ w'.cell? ⟨gb168, 14, none⟩ = some (.bool a0_14) ∧ w'.cell? ⟨gb168, 15, none⟩ = some (.string a0_15) ∧ w'.cell? ⟨gb168, 16, none⟩ = some (.string a0_16) ∧ w'.cell? ⟨gb168, 17, none⟩ = some (.int .i64 a0_17) ∧ w'.cell? ⟨gb168, 18, none⟩ = some (.bool a0_18) ∧ w'.cell? ⟨gb168, 19, none⟩ = some (.slice A0_19 l0_19.length c0_19) ∧ w'.cell? ⟨gb168, 20, none⟩ = some (.bool a0_20) ∧ w'.cell? ⟨gb168, 21, none⟩ = some (.int .i64 a0_21) ∧ w'.cell? ⟨gb168, 22, none⟩ = some (.slice A0_22 l0_22.length c0_22) ∧ w'.cell? ⟨gb168, 23, none⟩ = some (.slice A0_23 l0_23.length c0_23) ∧ w'.cell? ⟨gb168, 24, none⟩ = some (.slice A0_24 l0_24.length c0_24) ∧ w'.cell? ⟨gb169, 0, none⟩ = some (.int .i64 a1_0) ∧ w'.cell? ⟨gb169, 1, none⟩ = some (.bool a1_1) ∧ w'.cell? ⟨gb169, 2, none⟩ = some (.bool a1_2) ∧ w'.cell? ⟨gb169, 3, none⟩ = some (.int .i64 a1_3) ∧ w'.cell? ⟨gb169, 4, none⟩ = some (.int .i64 a1_4) ∧ w'.cell? ⟨gb169, 5, none⟩ = some (.string a1_5) ∧ w'.cell? ⟨gb169, 6, none⟩ = some (.string a1_6) ∧ w'.cell? ⟨gb169, 7, none⟩ = some (.bool a1_7) ∧ w'.cell? ⟨gb169, 8, none⟩ = some (.int .i64 a1_8) ∧ w'.cell? ⟨gb169, 9, none⟩ = some (.string a1_9) ∧ w'.cell? ⟨gb169, 10, none⟩ = some (.bool a1_10) ∧ w'.cell? ⟨gb169, 11, none⟩ = some (.string a1_11) ∧ w'.cell? ⟨gb169, 12, none⟩ = some (.bool a1_12) ∧ w'.cell? ⟨gb169, 13, none⟩ = some (.string a1_13) ∧ w'.cell? ⟨gb169, 14, none⟩ = some (.bool a1_14) ∧ w'.cell? ⟨gb169, 15, none⟩ = some (.string a1_15) ∧ w'.cell? ⟨gb169, 16, none⟩ = some (.string a1_16) ∧ w'.cell? ⟨gb169, 17, none⟩ = some (.int .i64 a1_17) ∧ w'.cell? ⟨gb169, 18, none⟩ = some (.bool a1_18) ∧ w'.cell? ⟨gb169, 19, none⟩ = some (.slice A1_19 l1_19.length c1_19) ∧ w'.cell? ⟨gb169, 20, none⟩ = some (.bool a1_20) ∧ w'.cell? ⟨gb169, 21, none⟩ = some (.int .i64 a1_21) ∧ w'.cell? ⟨gb169, 22, none⟩ = some (.slice A1_22 l1_22.length c1_22) ∧ w'.cell? ⟨gb169, 23, none⟩ = some (.slice A1_23 l1_23.length c1_23) ∧ w'.cell? ⟨gb169, 24, none⟩ = some (.slice A1_24 l1_24.length c1_24)) (ds := []) #[false, false, false, false, false, false, false, false, false, false, false, false, false, false, false, false, false, false, false, false, false, false, false, false, false, false, false, false, false, false, false, false, false, false] (by kernel_rfl) rfl rfl ⟨(blk_cell BK168.out 0).trans rfl, (blk_cell BK168.out 1).trans rfl, (blk_cell BK168.out 2).trans rfl, (blk_cell BK168.out 3).trans rfl, (blk_cell BK168.out 4).trans rfl, (blk_cell BK168.out 5).trans rfl, (blk_cell BK168.out 6).trans rfl, (blk_cell BK168.out 7).trans rfl, (blk_cell BK168.out 8).trans rfl, (blk_cell BK168.out 9).trans rfl, (blk_cell BK168.out 10).trans rfl, (blk_cell BK168.out 11).trans rfl, (blk_cell BK168.out 12).trans rfl, (blk_cell BK168.out 13).trans rfl, (blk_cell BK168.out 14).trans rfl, (blk_cell BK168.out 15).trans rfl, (blk_cell BK168.out 16).trans rfl, (blk_cell BK168.out 17).trans rfl, (blk_cell BK168.out 18).trans rfl, (blk_cell BK168.out 19).trans rfl, (blk_cell BK168.out 20).trans rfl, (blk_cell BK168.out 21).trans rfl, (blk_cell BK168.out 22).trans rfl, (blk_cell BK168.out 23).trans rfl, (blk_cell BK168.out 24).trans rfl, (blk_cell BK169.out 0).trans rfl, (blk_cell BK169.out 1).trans rfl, (blk_cell BK169.out 2).trans rfl, (blk_cell BK169.out 3).trans rfl, (blk_cell BK169.out 4).trans rfl, (blk_cell BK169.out 5).trans rfl, (blk_cell BK169.out 6).trans rfl, (blk_cell BK169.out 7).trans rfl, (blk_cell BK169.out 8).trans rfl, (blk_cell BK169.out 9).trans rfl, (blk_cell BK169.out 10).trans rfl, (blk_cell BK169.out 11).trans rfl, (blk_cell BK169.out 12).trans rfl, (blk_cell BK169.out 13).trans rfl, (blk_cell BK169.out 14).trans rfl, (blk_cell BK169.out 15).trans rfl, (blk_cell BK169.out 16).trans rfl, (blk_cell BK169.out 17).trans rfl, (blk_cell BK169.out 18).trans rfl, (blk_cell BK169.out 19).trans rfl, (blk_cell BK169.out 20).trans rfl, (blk_cell BK169.out 21).trans rfl, (blk_cell BK169.out 22).trans rfl, (blk_cell BK169.out 23).trans rfl, (blk_cell BK169.out 24).trans rfl⟩ (fun hHeld => ?_); refine with_tabW head_Same.tab1 head_Same.bits1 (fun HT_ HW_ => ?_)
          generalize w22.drew = w23 at BK168 BK169 HB hHeld ⊢
          refine take_ (i := 0) (N := some 5) (v := ?_) (a' := ?_) #[true, false, false, false, false, false, false, false, false, false, false, false, false, false, false, false, false, false, false, false, false, false, false, false, false, false, false, false, false, false, false, false, false, false] rfl rfl (take_ofW HT_.out HW_.out (by kernel_rfl)) (fun _ _ _ h => h) (Or.inl ⟨by rfl, ?_⟩) hHeld ?_ ?_
          rotate_left
          · rintro w' ⟨s0, s1, s2, s3, s4, s5, s6, s7, s8, s9, s10, s11, s12, s13, s14, s15, s16, s17, s18, s19, s20, s21, s22, s23, s24, s25, s26, s27, s28, s29, s30, s31, s32, s33, s34, s35, s36, s37, s38, s39, s40, s41, s42, s43, s44, s45, s46, s47, s48, s49⟩
            first | (refine Eq.trans (head_Same.gx _ (by exact rfl) _ (by exact rfl) _ _ (by repeat (first | (apply head_Same.gxs; · assumption) | exact head_Same.gxn)) Try.underlying48 rfl (by kernel_rfl)) ?_; with_reducible rfl) | (go_simp; with_reducible rfl)
          rotate_left
          · simp only [Act.put, List.setIfInBounds_toArray, List.set_cons_zero, List.set_cons_succ, i64_w, i32_w]
            rfl
          refine take_ (i := 2) (N := some 7) (v := ?_) (a' := ?_) #[true, false, true, false, false, false, false, false, false, false, false, false, false, false, false, false, false, false, false, false, false, false, false, false, false, false, false, false, false, false, false, false, false, false] rfl rfl (take_ofW HT_.out HW_.out (by kernel_rfl)) (fun _ _ _ h => h) (Or.inl ⟨by rfl, ?_⟩) hHeld ?_ ?_
          rotate_left
          · rintro w' ⟨s0, s1, s2, s3, s4, s5, s6, s7, s8, s9, s10, s11, s12, s13, s14, s15, s16, s17, s18, s19, s20, s21, s22, s23, s24, s25, s26, s27, s28, s29, s30, s31, s32, s33, s34, s35, s36, s37, s38, s39, s40, s41, s42, s43, s44, s45, s46, s47, s48, s49⟩
            first | (refine Eq.trans (head_Same.gx _ (by exact rfl) _ (by exact rfl) _ _ (by repeat (first | (apply head_Same.gxs; · assumption) | exact head_Same.gxn)) Try.underlying48 rfl (by kernel_rfl)) ?_; with_reducible rfl) | (go_simp; with_reducible rfl)
          rotate_left
          · simp only [Act.put, List.setIfInBounds_toArray, List.set_cons_zero, List.set_cons_succ, i64_w, i32_w]
            rfl
          refine one_ (i := 1) (N := some 6) #[true, true, true, false, false, false, false, false, false, false, false, false, false, false, false, false, false, false, false, false, false, false, false, false, false, false, false, false, false, false, false, false, false, false] rfl rfl (one_of HT_.out (by kernel_rfl)) (by decide) (fun K hK => ?_)
          refine goes_ Try.func83 (by kernel_rfl) rfl #[.agg #[.int .i64 a0_0, .bool a0_1, .bool a0_2, .int .i64 a0_3, .int .i64 a0_4, .string a0_5, .string a0_6, .bool a0_7, .int .i64 a0_8, .string a0_9, .bool a0_10, .string a0_11, .bool a0_12, .string a0_13, .bool a0_14, .string a0_15, .string a0_16, .int .i64 a0_17, .bool a0_18, .slice A0_19 l0_19.length c0_19, .bool a0_20, .int .i64 a0_21, .slice A0_22 l0_22.length c0_22, .slice A0_23 l0_23.length c0_23, .slice A0_24 l0_24.length c0_24]] (by rfl) rfl rfl (by (try simp only [List.map_toArray, List.map_cons, List.map_nil]); first | done | rfl | (simp only [List.length_drop, List.length_take]; rfl)) ?_
          with_reducible refine (head_strip.calls a0_0 a0_1 a0_2 a0_3 a0_4 a0_5 a0_6 a0_7 a0_8 a0_9 a0_10 a0_11 a0_12 a0_13 a0_14 a0_15 a0_16 a0_17 a0_18 _ _ l0_19 a0_20 a0_21 _ _ l0_22 _ _ l0_23 _ _ l0_24 t170 t171 t172 t173 t174 t175 t176 t177 t178 t179 t180 t181 t182 t183 t184 t185 t186 _ ?side1 ?side2 ?side3 ?side4 ?side5 ?side6 ?side7 ?side8 A3.out).mono ?_
          (case side1 => repeat (first | exact (Kd.C_below HR0_19.out HB.out) | (with_reducible refine Kd.C_alloc ?_ _) | (with_reducible refine Kd.C_drewN ?_ _) | (with_reducible refine Kd.C_drew ?_)))
          (case side2 => exact HC0_19.out)
          (case side3 => repeat (first | exact (Kd.C_below HR0_22.out HB.out) | (with_reducible refine Kd.C_alloc ?_ _) | (with_reducible refine Kd.C_drewN ?_ _) | (with_reducible refine Kd.C_drew ?_)))
          (case side4 => exact HC0_22.out)
          (case side5 => repeat (first | exact (Kd.C_below HR0_23.out HB.out) | (with_reducible refine Kd.C_alloc ?_ _) | (with_reducible refine Kd.C_drewN ?_ _) | (with_reducible refine Kd.C_drew ?_)))
          (case side6 => exact HC0_23.out)
          (case side7 => repeat (first | exact (Kd.C_below HR0_24.out HB.out) | (with_reducible refine Kd.C_alloc ?_ _) | (with_reducible refine Kd.C_drewN ?_ _) | (with_reducible refine Kd.C_drew ?_)))
          (case side8 => exact HC0_24.out)
          rintro e w24 ⟨rfl, hb⟩
          refine ⟨_, rfl, ?_⟩
          have n0_ := Aside0.mk (blk_below (g := gb168) (o := .cells #[.int .i64 a0_0, .bool a0_1, .bool a0_2, .int .i64 a0_3, .int .i64 a0_4, .string a0_5, .string a0_6, .bool a0_7, .int .i64 a0_8, .string a0_9, .bool a0_10, .string a0_11, .bool a0_12, .string a0_13, .bool a0_14, .string a0_15, .string a0_16, .int .i64 a0_17, .bool a0_18, .slice A0_19 l0_19.length c0_19, .bool a0_20, .int .i64 a0_21, .slice A0_22 l0_22.length c0_22, .slice A0_23 l0_23.length c0_23, .slice A0_24 l0_24.length c0_24] 48 (0, 0)) (by (with_reducible repeat (first | refine blk_drewN ?_ _ | refine blk_drew ?_ | refine blk_alloc ?_ _)); exact BK168.out) hb)
          have n1_ := Aside0.mk (blk_below (g := gb169) (o := .cells #[.int .i64 a1_0, .bool a1_1, .bool a1_2, .int .i64 a1_3, .int .i64 a1_4, .string a1_5, .string a1_6, .bool a1_7, .int .i64 a1_8, .string a1_9, .bool a1_10, .string a1_11, .bool a1_12, .string a1_13, .bool a1_14, .string a1_15, .string a1_16, .int .i64 a1_17, .bool a1_18, .slice A1_19 l1_19.length c1_19, .bool a1_20, .int .i64 a1_21, .slice A1_22 l1_22.length c1_22, .slice A1_23 l1_23.length c1_23, .slice A1_24 l1_24.length c1_24] 48 (0, 0)) (by (with_reducible repeat (first | refine blk_drewN ?_ _ | refine blk_drew ?_ | refine blk_alloc ?_ _)); exact BK169.out) hb)
          have n2_ := Aside0.mk (below_step (by repeat (first | (with_reducible first | exact HB.out | apply below_alloc | apply pw_below_drewN | apply below_drew1 | refine below_set ?_ GE168.out | refine below_set ?_ GE169.out) | exact HB.out)) hb)
          clear BK168
          clear BK169
          clear HB
          have BK168 := n0_
          have BK169 := n1_
          have HB := n2_
          clear n0_ n1_ n2_
          (try clear hb)
          (try clear hb2)
          (try clear hk)
          (try clear hi)
          refine hK.out _ _ ⟨(blk_cell BK168.out 0).trans rfl, (blk_cell BK168.out 1).trans rfl, (blk_cell BK168.out 2).trans rfl, (blk_cell BK168.out 3).trans rfl, (blk_cell BK168.out 4).trans rfl, (blk_cell BK168.out 5).trans rfl, (blk_cell BK168.out 6).trans rfl, (blk_cell BK168.out 7).trans rfl, (blk_cell BK168.out 8).trans rfl, (blk_cell BK168.out 9).trans rfl, (blk_cell BK168.out 10).trans rfl, (blk_cell BK168.out 11).trans rfl, (blk_cell BK168.out 12).trans rfl, (blk_cell BK168.out 13).trans rfl, (blk_cell BK168.out 14).trans rfl, (blk_cell BK168.out 15).trans rfl, (blk_cell BK168.out 16).trans rfl, (blk_cell BK168.out 17).trans rfl, (blk_cell BK168.out 18).trans rfl, (blk_cell BK168.out 19).trans rfl, (blk_cell BK168.out 20).trans rfl, (blk_cell BK168.out 21).trans rfl, (blk_cell BK168.out 22).trans rfl, (blk_cell BK168.out 23).trans rfl, (blk_cell BK168.out 24).trans rfl, (blk_cell BK169.out 0).trans rfl, (blk_cell BK169.out 1).trans rfl, (blk_cell BK169.out 2).trans rfl, (blk_cell BK169.out 3).trans rfl, (blk_cell BK169.out 4).trans rfl, (blk_cell BK169.out 5).trans rfl, (blk_cell BK169.out 6).trans rfl, (blk_cell BK169.out 7).trans rfl, (blk_cell BK169.out 8).trans rfl, (blk_cell BK169.out 9).trans rfl, (blk_cell BK169.out 10).trans rfl, (blk_cell BK169.out 11).trans rfl, (blk_cell BK169.out 12).trans rfl, (blk_cell BK169.out 13).trans rfl, (blk_cell BK169.out 14).trans rfl, (blk_cell BK169.out 15).trans rfl, (blk_cell BK169.out 16).trans rfl, (blk_cell BK169.out 17).trans rfl, (blk_cell BK169.out 18).trans rfl, (blk_cell BK169.out 19).trans rfl, (blk_cell BK169.out 20).trans rfl, (blk_cell BK169.out 21).trans rfl, (blk_cell BK169.out 22).trans rfl, (blk_cell BK169.out 23).trans rfl, (blk_cell BK169.out 24).trans rfl⟩ (fun hHeld => ?_)
          clear hK K
          refine norm_ (a' := ?_) ?_ ?_
          rotate_left
          · show Act.put _ (some 6) _ = _
            simp only [Act.put, List.setIfInBounds_toArray, List.set_cons_zero, List.set_cons_succ, i64_w, i32_w]
            rfl
          refine one_ (i := 3) (N := some 8) #[true, true, true, true, false, false, false, false, false, false, false, false, false, false, false, false, false, false, false, false, false, false, false, false, false, false, false, false, false, false, false, false, false, false] rfl rfl (one_of HT_.out (by kernel_rfl)) (by decide) (fun K hK => ?_)
          refine goes_ Try.func83 (by kernel_rfl) rfl #[.agg #[.int .i64 a1_0, .bool a1_1, .bool a1_2, .int .i64 a1_3, .int .i64 a1_4, .string a1_5, .string a1_6, .bool a1_7, .int .i64 a1_8, .string a1_9, .bool a1_10, .string a1_11, .bool a1_12, .string a1_13, .bool a1_14, .string a1_15, .string a1_16, .int .i64 a1_17, .bool a1_18, .slice A1_19 l1_19.length c1_19, .bool a1_20, .int .i64 a1_21, .slice A1_22 l1_22.length c1_22, .slice A1_23 l1_23.length c1_23, .slice A1_24 l1_24.length c1_24]] (by rfl) rfl rfl (by (try simp only [List.map_toArray, List.map_cons, List.map_nil]); first | done | rfl | (simp only [List.length_drop, List.length_take]; rfl)) ?_
          with_reducible refine (head_strip.calls a1_0 a1_1 a1_2 a1_3 a1_4 a1_5 a1_6 a1_7 a1_8 a1_9 a1_10 a1_11 a1_12 a1_13 a1_14 a1_15 a1_16 a1_17 a1_18 _ _ l1_19 a1_20 a1_21 _ _ l1_22 _ _ l1_23 _ _ l1_24 t187 t188 t189 t190 t191 t192 t193 t194 t195 t196 t197 t198 t199 t200 t201 t202 t203 _ ?side1 ?side2 ?side3 ?side4 ?side5 ?side6 ?side7 ?side8 A4.out).mono ?_
          (case side1 => repeat (first | exact (Kd.C_below HR1_19.out HB.out) | (with_reducible refine Kd.C_alloc ?_ _) | (with_reducible refine Kd.C_drewN ?_ _) | (with_reducible refine Kd.C_drew ?_)))
          (case side2 => exact HC1_19.out)
          (case side3 => repeat (first | exact (Kd.C_below HR1_22.out HB.out) | (with_reducible refine Kd.C_alloc ?_ _) | (with_reducible refine Kd.C_drewN ?_ _) | (with_reducible refine Kd.C_drew ?_)))
          (case side4 => exact HC1_22.out)
          (case side5 => repeat (first | exact (Kd.C_below HR1_23.out HB.out) | (with_reducible refine Kd.C_alloc ?_ _) | (with_reducible refine Kd.C_drewN ?_ _) | (with_reducible refine Kd.C_drew ?_)))
          (case side6 => exact HC1_23.out)
          (case side7 => repeat (first | exact (Kd.C_below HR1_24.out HB.out) | (with_reducible refine Kd.C_alloc ?_ _) | (with_reducible refine Kd.C_drewN ?_ _) | (with_reducible refine Kd.C_drew ?_)))
          (case side8 => exact HC1_24.out)
          rintro e w25 ⟨rfl, hb⟩
          refine ⟨_, rfl, ?_⟩
          have n0_ := Aside0.mk (blk_below (g := gb168) (o := .cells #[.int .i64 a0_0, .bool a0_1, .bool a0_2, .int .i64 a0_3, .int .i64 a0_4, .string a0_5, .string a0_6, .bool a0_7, .int .i64 a0_8, .string a0_9, .bool a0_10, .string a0_11, .bool a0_12, .string a0_13, .bool a0_14, .string a0_15, .string a0_16, .int .i64 a0_17, .bool a0_18, .slice A0_19 l0_19.length c0_19, .bool a0_20, .int .i64 a0_21, .slice A0_22 l0_22.length c0_22, .slice A0_23 l0_23.length c0_23, .slice A0_24 l0_24.length c0_24] 48 (0, 0)) (by (with_reducible repeat (first | refine blk_drewN ?_ _ | refine blk_drew ?_ | refine blk_alloc ?_ _)); exact BK168.out) hb)
          have n1_ := Aside0.mk (blk_below (g := gb169) (o := .cells #[.int .i64 a1_0, .bool a1_1, .bool a1_2, .int .i64 a1_3, .int .i64 a1_4, .string a1_5, .string a1_6, .bool a1_7, .int .i64 a1_8, .string a1_9, .bool a1_10, .string a1_11, .bool a1_12, .string a1_13, .bool a1_14, .string a1_15, .string a1_16, .int .i64 a1_17, .bool a1_18, .slice A1_19 l1_19.length c1_19, .bool a1_20, .int .i64 a1_21, .slice A1_22 l1_22.length c1_22, .slice A1_23 l1_23.length c1_23, .slice A1_24 l1_24.length c1_24] 48 (0, 0)) (by (with_reducible repeat (first | refine blk_drewN ?_ _ | refine blk_drew ?_ | refine blk_alloc ?_ _)); exact BK169.out) hb)
          have n2_ := Aside0.mk (below_step (by repeat (first | (with_reducible first | exact HB.out | apply below_alloc | apply pw_below_drewN | apply below_drew1 | refine below_set ?_ GE168.out | refine below_set ?_ GE169.out) | exact HB.out)) hb)
          clear BK168
          clear BK169
          clear HB
          have BK168 := n0_
          have BK169 := n1_
          have HB := n2_
          clear n0_ n1_ n2_
          (try clear hb)
          (try clear hb2)
          (try clear hk)
          (try clear hi)
          refine hK.out _ _ ⟨(blk_cell BK168.out 0).trans rfl, (blk_cell BK168.out 1).trans rfl, (blk_cell BK168.out 2).trans rfl, (blk_cell BK168.out 3).trans rfl, (blk_cell BK168.out 4).trans rfl, (blk_cell BK168.out 5).trans rfl, (blk_cell BK168.out 6).trans rfl, (blk_cell BK168.out 7).trans rfl, (blk_cell BK168.out 8).trans rfl, (blk_cell BK168.out 9).trans rfl, (blk_cell BK168.out 10).trans rfl, (blk_cell BK168.out 11).trans rfl, (blk_cell BK168.out 12).trans rfl, (blk_cell BK168.out 13).trans rfl, (blk_cell BK168.out 14).trans rfl, (blk_cell BK168.out 15).trans rfl, (blk_cell BK168.out 16).trans rfl, (blk_cell BK168.out 17).trans rfl, (blk_cell BK168.out 18).trans rfl, (blk_cell BK168.out 19).trans rfl, (blk_cell BK168.out 20).trans rfl, (blk_cell BK168.out 21).trans rfl, (blk_cell BK168.out 22).trans rfl, (blk_cell BK168.out 23).trans rfl, (blk_cell BK168.out 24).trans rfl, (blk_cell BK169.out 0).trans rfl, (blk_cell BK169.out 1).trans rfl, (blk_cell BK169.out 2).trans rfl, (blk_cell BK169.out 3).trans rfl, (blk_cell BK169.out 4).trans rfl, (blk_cell BK169.out 5).trans rfl, (blk_cell BK169.out 6).trans rfl, (blk_cell BK169.out 7).trans rfl, (blk_cell BK169.out 8).trans rfl, (blk_cell BK169.out 9).trans rfl, (blk_cell BK169.out 10).trans rfl, (blk_cell BK169.out 11).trans rfl, (blk_cell BK169.out 12).trans rfl, (blk_cell BK169.out 13).trans rfl, (blk_cell BK169.out 14).trans rfl, (blk_cell BK169.out 15).trans rfl, (blk_cell BK169.out 16).trans rfl, (blk_cell BK169.out 17).trans rfl, (blk_cell BK169.out 18).trans rfl, (blk_cell BK169.out 19).trans rfl, (blk_cell BK169.out 20).trans rfl, (blk_cell BK169.out 21).trans rfl, (blk_cell BK169.out 22).trans rfl, (blk_cell BK169.out 23).trans rfl, (blk_cell BK169.out 24).trans rfl⟩ (fun hHeld => ?_)
          clear hK K
          refine norm_ (a' := ?_) ?_ ?_
          rotate_left
          · show Act.put _ (some 8) _ = _
            simp only [Act.put, List.setIfInBounds_toArray, List.set_cons_zero, List.set_cons_succ, i64_w, i32_w]
            rfl
          refine pure_ (i := 4) (N := some 9) (v := ?_) (a' := ?_) #[true, true, true, true, true, false, false, false, false, false, false, false, false, false, false, false, false, false, false, false, false, false, false, false, false, false, false, false, false, false, false, false, false, false] rfl rfl (any_of HT_.out (by kernel_rfl)) (fun _ _ _ h => h) (Or.inl ⟨by rfl, ?_⟩) ?_ ?_
          rotate_left
          · intro w'
            go_simp
            with_reducible rfl
          rotate_left
          · simp only [Act.put, List.setIfInBounds_toArray, List.set_cons_zero, List.set_cons_succ, i64_w, i32_w]
            rfl
          refine pure_ (i := 5) (N := some 10) (v := ?_) (a' := ?_) #[true, true, true, true, true, true, false, false, false, false, false, false, false, false, false, false, false, false, false, false, false, false, false, false, false, false, false, false, false, false, false, false, false, false] rfl rfl (any_of HT_.out (by kernel_rfl)) (fun _ _ _ h => h) (Or.inl ⟨by rfl, ?_⟩) ?_ ?_
          rotate_left
          · intro w'
            go_simp
            with_reducible rfl
          rotate_left
          · simp only [Act.put, List.setIfInBounds_toArray, List.set_cons_zero, List.set_cons_succ, i64_w, i32_w]
            rfl
          refine pure_ (i := 6) (N := some 11) (v := ?_) (a' := ?_) #[true, true, true, true, true, true, true, false, false, false, false, false, false, false, false, false, false, false, false, false, false, false, false, false, false, false, false, false, false, false, false, false, false, false] rfl rfl (any_of HT_.out (by kernel_rfl)) (fun _ _ _ h => h) (Or.inl ⟨by rfl, ?_⟩) ?_ ?_
          rotate_left
          · intro w'
            go_simp
            with_reducible rfl
          rotate_left
          · simp only [Act.put, List.setIfInBounds_toArray, List.set_cons_zero, List.set_cons_succ, i64_w, i32_w]
            rfl
          refine pure_ (i := 8) (N := some 13) (v := ?_) (a' := ?_) #[true, true, true, true, true, true, true, false, true, false, false, false, false, false, false, false, false, false, false, false, false, false, false, false, false, false, false, false, false, false, false, false, false, false] rfl rfl (any_of HT_.out (by kernel_rfl)) (fun _ _ _ h => h) (Or.inl ⟨by rfl, ?_⟩) ?_ ?_
          rotate_left
          · intro w'
            go_simp
            with_reducible rfl
          rotate_left
          · simp only [Act.put, List.setIfInBounds_toArray, List.set_cons_zero, List.set_cons_succ, i64_w, i32_w]
            rfl
          refine take_ (i := 7) (N := some 12) (v := ?_) (a' := ?_) #[true, true, true, true, true, true, true, true, true, false, false, false, false, false, false, false, false, false, false, false, false, false, false, false, false, false, false, false, false, false, false, false, false, false] rfl rfl (take_ofW HT_.out HW_.out (by kernel_rfl)) (fun _ _ _ h => h) (Or.inl ⟨by rfl, ?_⟩) hHeld ?_ ?_
          rotate_left
          · rintro w' ⟨s0, s1, s2, s3, s4, s5, s6, s7, s8, s9, s10, s11, s12, s13, s14, s15, s16, s17, s18, s19, s20, s21, s22, s23, s24, s25, s26, s27, s28, s29, s30, s31, s32, s33, s34, s35, s36, s37, s38, s39, s40, s41, s42, s43, s44, s45, s46, s47, s48, s49⟩
            first | (refine Eq.trans (head_Same.gx _ (by exact rfl) _ (by exact rfl) _ _ (by repeat (first | (apply head_Same.gxs; · assumption) | exact head_Same.gxn)) Try.underlying48 rfl (by kernel_rfl)) ?_; with_reducible rfl) | (go_simp; with_reducible rfl)
          rotate_left
          · simp only [Act.put, List.setIfInBounds_toArray, List.set_cons_zero, List.set_cons_succ, i64_w, i32_w]
            rfl
          refine take_ (i := 9) (N := some 14) (v := ?_) (a' := ?_) #[true, true, true, true, true, true, true, true, true, true, false, false, false, false, false, false, false, false, false, false, false, false, false, false, false, false, false, false, false, false, false, false, false, false] rfl rfl (take_ofW HT_.out HW_.out (by kernel_rfl)) (fun _ _ _ h => h) (Or.inl ⟨by rfl, ?_⟩) hHeld ?_ ?_
          rotate_left
          · rintro w' ⟨s0, s1, s2, s3, s4, s5, s6, s7, s8, s9, s10, s11, s12, s13, s14, s15, s16, s17, s18, s19, s20, s21, s22, s23, s24, s25, s26, s27, s28, s29, s30, s31, s32, s33, s34, s35, s36, s37, s38, s39, s40, s41, s42, s43, s44, s45, s46, s47, s48, s49⟩
            first | (refine Eq.trans (head_Same.gx _ (by exact rfl) _ (by exact rfl) _ _ (by repeat (first | (apply head_Same.gxs; · assumption) | exact head_Same.gxn)) Try.underlying48 rfl (by kernel_rfl)) ?_; with_reducible rfl) | (go_simp; with_reducible rfl)
          rotate_left
          · simp only [Act.put, List.setIfInBounds_toArray, List.set_cons_zero, List.set_cons_succ, i64_w, i32_w]
            rfl
          refine one_ (i := 10) (N := some 15) #[true, true, true, true, true, true, true, true, true, true, true, false, false, false, false, false, false, false, false, false, false, false, false, false, false, false, false, false, false, false, false, false, false, false] rfl rfl (one_of HT_.out (by kernel_rfl)) (by decide) (fun K hK => ?_)
          refine goes_ Try.func84 (by kernel_rfl) rfl #[.agg #[.string a0_15, .string a0_16, .int .i64 a0_17, .bool a0_18, .slice A0_19 l0_19.length c0_19], .agg #[.string a1_15, .string a1_16, .int .i64 a1_17, .bool a1_18, .slice A1_19 l1_19.length c1_19]] (by rfl) rfl rfl (by (try simp only [List.map_toArray, List.map_cons, List.map_nil]); first | done | rfl | (simp only [List.length_drop, List.length_take]; rfl)) ?_
          with_reducible refine (head_sameWill.calls k a0_15 a0_16 a0_17 a0_18 _ _ l0_19 a1_15 a1_16 a1_17 a1_18 _ _ l1_19 true _ ?side1 ?side2 ?side3 ?side4 A6.out).mono ?_
          (case side1 => repeat (first | exact (Kd.C_below HR0_19.out HB.out) | (with_reducible refine Kd.C_alloc ?_ _) | (with_reducible refine Kd.C_drewN ?_ _) | (with_reducible refine Kd.C_drew ?_)))
          (case side2 => exact HC0_19.out)
          (case side3 => repeat (first | exact (Kd.C_below HR1_19.out HB.out) | (with_reducible refine Kd.C_alloc ?_ _) | (with_reducible refine Kd.C_drewN ?_ _) | (with_reducible refine Kd.C_drew ?_)))
          (case side4 => exact HC1_19.out)
          rintro e w26 ⟨rfl, hb⟩
          refine ⟨_, rfl, ?_⟩
          have n0_ := Aside0.mk (blk_below (g := gb168) (o := .cells #[.int .i64 a0_0, .bool a0_1, .bool a0_2, .int .i64 a0_3, .int .i64 a0_4, .string a0_5, .string a0_6, .bool a0_7, .int .i64 a0_8, .string a0_9, .bool a0_10, .string a0_11, .bool a0_12, .string a0_13, .bool a0_14, .string a0_15, .string a0_16, .int .i64 a0_17, .bool a0_18, .slice A0_19 l0_19.length c0_19, .bool a0_20, .int .i64 a0_21, .slice A0_22 l0_22.length c0_22, .slice A0_23 l0_23.length c0_23, .slice A0_24 l0_24.length c0_24] 48 (0, 0)) (by (with_reducible repeat (first | refine blk_drewN ?_ _ | refine blk_drew ?_ | refine blk_alloc ?_ _)); exact BK168.out) hb)
          have n1_ := Aside0.mk (blk_below (g := gb169) (o := .cells #[.int .i64 a1_0, .bool a1_1, .bool a1_2, .int .i64 a1_3, .int .i64 a1_4, .string a1_5, .string a1_6, .bool a1_7, .int .i64 a1_8, .string a1_9, .bool a1_10, .string a1_11, .bool a1_12, .string a1_13, .bool a1_14, .string a1_15, .string a1_16, .int .i64 a1_17, .bool a1_18, .slice A1_19 l1_19.length c1_19, .bool a1_20, .int .i64 a1_21, .slice A1_22 l1_22.length c1_22, .slice A1_23 l1_23.length c1_23, .slice A1_24 l1_24.length c1_24] 48 (0, 0)) (by (with_reducible repeat (first | refine blk_drewN ?_ _ | refine blk_drew ?_ | refine blk_alloc ?_ _)); exact BK169.out) hb)
          have n2_ := Aside0.mk (below_step (by repeat (first | (with_reducible first | exact HB.out | apply below_alloc | apply pw_below_drewN | apply below_drew1 | refine below_set ?_ GE168.out | refine below_set ?_ GE169.out) | exact HB.out)) hb)
          clear BK168
          clear BK169
          clear HB
          have BK168 := n0_
          have BK169 := n1_
          have HB := n2_
          clear n0_ n1_ n2_
          (try clear hb)
          (try clear hb2)
          (try clear hk)
          (try clear hi)
          refine hK.out _ _ ⟨(blk_cell BK168.out 0).trans rfl, (blk_cell BK168.out 1).trans rfl, (blk_cell BK168.out 2).trans rfl, (blk_cell BK168.out 3).trans rfl, (blk_cell BK168.out 4).trans rfl, (blk_cell BK168.out 5).trans rfl, (blk_cell BK168.out 6).trans rfl, (blk_cell BK168.out 7).trans rfl, (blk_cell BK168.out 8).trans rfl, (blk_cell BK168.out 9).trans rfl, (blk_cell BK168.out 10).trans rfl, (blk_cell BK168.out 11).trans rfl, (blk_cell BK168.out 12).trans rfl, (blk_cell BK168.out 13).trans rfl, (blk_cell BK168.out 14).trans rfl, (blk_cell BK168.out 15).trans rfl, (blk_cell BK168.out 16).trans rfl, (blk_cell BK168.out 17).trans rfl, (blk_cell BK168.out 18).trans rfl, (blk_cell BK168.out 19).trans rfl, (blk_cell BK168.out 20).trans rfl, (blk_cell BK168.out 21).trans rfl, (blk_cell BK168.out 22).trans rfl, (blk_cell BK168.out 23).trans rfl, (blk_cell BK168.out 24).trans rfl, (blk_cell BK169.out 0).trans rfl, (blk_cell BK169.out 1).trans rfl, (blk_cell BK169.out 2).trans rfl, (blk_cell BK169.out 3).trans rfl, (blk_cell BK169.out 4).trans rfl, (blk_cell BK169.out 5).trans rfl, (blk_cell BK169.out 6).trans rfl, (blk_cell BK169.out 7).trans rfl, (blk_cell BK169.out 8).trans rfl, (blk_cell BK169.out 9).trans rfl, (blk_cell BK169.out 10).trans rfl, (blk_cell BK169.out 11).trans rfl, (blk_cell BK169.out 12).trans rfl, (blk_cell BK169.out 13).trans rfl, (blk_cell BK169.out 14).trans rfl, (blk_cell BK169.out 15).trans rfl, (blk_cell BK169.out 16).trans rfl, (blk_cell BK169.out 17).trans rfl, (blk_cell BK169.out 18).trans rfl, (blk_cell BK169.out 19).trans rfl, (blk_cell BK169.out 20).trans rfl, (blk_cell BK169.out 21).trans rfl, (blk_cell BK169.out 22).trans rfl, (blk_cell BK169.out 23).trans rfl, (blk_cell BK169.out 24).trans rfl⟩ (fun hHeld => ?_)
          clear hK K
          refine norm_ (a' := ?_) ?_ ?_
          rotate_left
          · show Act.put _ (some 15) _ = _
            simp only [Act.put, List.setIfInBounds_toArray, List.set_cons_zero, List.set_cons_succ, i64_w, i32_w]
            rfl
          refine pure_ (i := 11) (N := some 16) (v := ?_) (a' := ?_) #[true, true, true, true, true, true, true, true, true, true, true, true, false, false, false, false, false, false, false, false, false, false, false, false, false, false, false, false, false, false, false, false, false, false] rfl rfl (any_of HT_.out (by kernel_rfl)) (fun _ _ _ h => h) (Or.inl ⟨by rfl, ?_⟩) ?_ ?_
          rotate_left
          · intro w'
            go_simp
            with_reducible rfl
          rotate_left
          · simp only [Act.put, List.setIfInBounds_toArray, List.set_cons_zero, List.set_cons_succ, i64_w, i32_w]
            rfl
          refine pure_ (i := 12) (N := some 17) (v := ?_) (a' := ?_) #[true, true, true, true, true, true, true, true, true, true, true, true, true, false, false, false, false, false, false, false, false, false, false, false, false, false, false, false, false, false, false, false, false, false] rfl rfl (any_of HT_.out (by kernel_rfl)) (fun _ _ _ h => h) (Or.inl ⟨by rfl, ?_⟩) ?_ ?_
          rotate_left
          · intro w'
            go_simp
            with_reducible rfl
          rotate_left
          · simp only [Act.put, List.setIfInBounds_toArray, List.set_cons_zero, List.set_cons_succ, i64_w, i32_w]
            rfl
          refine pure_ (i := 13) (N := some 18) (v := ?_) (a' := ?_) #[true, true, true, true, true, true, true, true, true, true, true, true, true, true, false, false, false, false, false, false, false, false, false, false, false, false, false, false, false, false, false, false, false, false] rfl rfl (any_of HT_.out (by kernel_rfl)) (fun _ _ _ h => h) (Or.inl ⟨by rfl, ?_⟩) ?_ ?_
          rotate_left
          · intro w'
            go_simp
            with_reducible rfl
          rotate_left
          · simp only [Act.put, List.setIfInBounds_toArray, List.set_cons_zero, List.set_cons_succ, i64_w, i32_w]
            rfl
          refine pure_ (i := 15) (N := some 20) (v := ?_) (a' := ?_) #[true, true, true, true, true, true, true, true, true, true, true, true, true, true, false, true, false, false, false, false, false, false, false, false, false, false, false, false, false, false, false, false, false, false] rfl rfl (any_of HT_.out (by kernel_rfl)) (fun _ _ _ h => h) (Or.inl ⟨by rfl, ?_⟩) ?_ ?_
          rotate_left
          · intro w'
            go_simp
            with_reducible rfl
          rotate_left
          · simp only [Act.put, List.setIfInBounds_toArray, List.set_cons_zero, List.set_cons_succ, i64_w, i32_w]
            rfl
          refine take_ (i := 14) (N := some 19) (v := ?_) (a' := ?_) #[true, true, true, true, true, true, true, true, true, true, true, true, true, true, true, true, false, false, false, false, false, false, false, false, false, false, false, false, false, false, false, false, false, false] rfl rfl (take_ofW HT_.out HW_.out (by kernel_rfl)) (fun _ _ _ h => h) (Or.inl ⟨by rfl, ?_⟩) hHeld ?_ ?_
          rotate_left
          · rintro w' ⟨s0, s1, s2, s3, s4, s5, s6, s7, s8, s9, s10, s11, s12, s13, s14, s15, s16, s17, s18, s19, s20, s21, s22, s23, s24, s25, s26, s27, s28, s29, s30, s31, s32, s33, s34, s35, s36, s37, s38, s39, s40, s41, s42, s43, s44, s45, s46, s47, s48, s49⟩
            first | (refine Eq.trans (head_Same.gx _ (by exact rfl) _ (by exact rfl) _ _ (by repeat (first | (apply head_Same.gxs; · assumption) | exact head_Same.gxn)) Try.underlying48 rfl (by kernel_rfl)) ?_; with_reducible rfl) | (go_simp; with_reducible rfl)
          rotate_left
          · simp only [Act.put, List.setIfInBounds_toArray, List.set_cons_zero, List.set_cons_succ, i64_w, i32_w]
            rfl
          refine take_ (i := 16) (N := some 21) (v := ?_) (a' := ?_) #[true, true, true, true, true, true, true, true, true, true, true, true, true, true, true, true, true, false, false, false, false, false, false, false, false, false, false, false, false, false, false, false, false, false] rfl rfl (take_ofW HT_.out HW_.out (by kernel_rfl)) (fun _ _ _ h => h) (Or.inl ⟨by rfl, ?_⟩) hHeld ?_ ?_
          rotate_left
          · rintro w' ⟨s0, s1, s2, s3, s4, s5, s6, s7, s8, s9, s10, s11, s12, s13, s14, s15, s16, s17, s18, s19, s20, s21, s22, s23, s24, s25, s26, s27, s28, s29, s30, s31, s32, s33, s34, s35, s36, s37, s38, s39, s40, s41, s42, s43, s44, s45, s46, s47, s48, s49⟩
            first | (refine Eq.trans (head_Same.gx _ (by exact rfl) _ (by exact rfl) _ _ (by repeat (first | (apply head_Same.gxs; · assumption) | exact head_Same.gxn)) Try.underlying48 rfl (by kernel_rfl)) ?_; with_reducible rfl) | (go_simp; with_reducible rfl)
          rotate_left
          · simp only [Act.put, List.setIfInBounds_toArray, List.set_cons_zero, List.set_cons_succ, i64_w, i32_w]
            rfl
          refine one_ (i := 17) (N := some 22) #[true, true, true, true, true, true, true, true, true, true, true, true, true, true, true, true, true, true, false, false, false, false, false, false, false, false, false, false, false, false, false, false, false, false] rfl rfl (one_of HT_.out (by kernel_rfl)) (by decide) (fun K hK => ?_)
          refine goes_ Try.func85 (by kernel_rfl) rfl #[.slice A0_22 l0_22.length c0_22, .slice A1_22 l1_22.length c1_22] (by rfl) rfl rfl (by (try simp only [List.map_toArray, List.map_cons, List.map_nil]); first | done | rfl | (simp only [List.length_drop, List.length_take]; rfl)) ?_
          with_reducible refine (head_list_int.calls k _ _ l0_22 _ _ l1_22 true _ ?side1 ?side2 ?side3 ?side4 A8.out).mono ?_
          (case side1 => repeat (first | exact (Kd.C_below HR0_22.out HB.out) | (with_reducible refine Kd.C_alloc ?_ _) | (with_reducible refine Kd.C_drewN ?_ _) | (with_reducible refine Kd.C_drew ?_)))
          (case side2 => exact HC0_22.out)
          (case side3 => repeat (first | exact (Kd.C_below HR1_22.out HB.out) | (with_reducible refine Kd.C_alloc ?_ _) | (with_reducible refine Kd.C_drewN ?_ _) | (with_reducible refine Kd.C_drew ?_)))
          (case side4 => exact HC1_22.out)
          rintro e w' ⟨rfl, ⟨nd, rfl⟩⟩
          refine ⟨_, rfl, ?_⟩
          refine hK.out _ _ ⟨(blk_cell BK168.out 0).trans rfl, (blk_cell BK168.out 1).trans rfl, (blk_cell BK168.out 2).trans rfl, (blk_cell BK168.out 3).trans rfl, (blk_cell BK168.out 4).trans rfl, (blk_cell BK168.out 5).trans rfl, (blk_cell BK168.out 6).trans rfl, (blk_cell BK168.out 7).trans rfl, (blk_cell BK168.out 8).trans rfl, (blk_cell BK168.out 9).trans rfl, (blk_cell BK168.out 10).trans rfl, (blk_cell BK168.out 11).trans rfl, (blk_cell BK168.out 12).trans rfl, (blk_cell BK168.out 13).trans rfl, (blk_cell BK168.out 14).trans rfl, (blk_cell BK168.out 15).trans rfl, (blk_cell BK168.out 16).trans rfl, (blk_cell BK168.out 17).trans rfl, (blk_cell BK168.out 18).trans rfl, (blk_cell BK168.out 19).trans rfl, (blk_cell BK168.out 20).trans rfl, (blk_cell BK168.out 21).trans rfl, (blk_cell BK168.out 22).trans rfl, (blk_cell BK168.out 23).trans rfl, (blk_cell BK168.out 24).trans rfl, (blk_cell BK169.out 0).trans rfl, (blk_cell BK169.out 1).trans rfl, (blk_cell BK169.out 2).trans rfl, (blk_cell BK169.out 3).trans rfl, (blk_cell BK169.out 4).trans rfl, (blk_cell BK169.out 5).trans rfl, (blk_cell BK169.out 6).trans rfl, (blk_cell BK169.out 7).trans rfl, (blk_cell BK169.out 8).trans rfl, (blk_cell BK169.out 9).trans rfl, (blk_cell BK169.out 10).trans rfl, (blk_cell BK169.out 11).trans rfl, (blk_cell BK169.out 12).trans rfl, (blk_cell BK169.out 13).trans rfl, (blk_cell BK169.out 14).trans rfl, (blk_cell BK169.out 15).trans rfl, (blk_cell BK169.out 16).trans rfl, (blk_cell BK169.out 17).trans rfl, (blk_cell BK169.out 18).trans rfl, (blk_cell BK169.out 19).trans rfl, (blk_cell BK169.out 20).trans rfl, (blk_cell BK169.out 21).trans rfl, (blk_cell BK169.out 22).trans rfl, (blk_cell BK169.out 23).trans rfl, (blk_cell BK169.out 24).trans rfl⟩ (fun hHeld => ?_)
          clear hK K
          refine norm_ (a' := ?_) ?_ ?_
          rotate_left
          · show Act.put _ (some 22) _ = _
            simp only [Act.put, List.setIfInBounds_toArray, List.set_cons_zero, List.set_cons_succ, i64_w, i32_w]
            rfl
          refine pure_ (i := 18) (N := some 23) (v := ?_) (a' := ?_) #[true, true, true, true, true, true, true, true, true, true, true, true, true, true, true, true, true, true, true, false, false, false, false, false, false, false, false, false, false, false, false, false, false, false] rfl rfl (any_of HT_.out (by kernel_rfl)) (fun _ _ _ h => h) (Or.inl ⟨by rfl, ?_⟩) ?_ ?_
          rotate_left
          · intro w'
            go_simp
            with_reducible rfl
          rotate_left
          · simp only [Act.put, List.setIfInBounds_toArray, List.set_cons_zero, List.set_cons_succ, i64_w, i32_w]
            rfl
          refine pure_ (i := 19) (N := some 24) (v := ?_) (a' := ?_) #[true, true, true, true, true, true, true, true, true, true, true, true, true, true, true, true, true, true, true, true, false, false, false, false, false, false, false, false, false, false, false, false, false, false] rfl rfl (any_of HT_.out (by kernel_rfl)) (fun _ _ _ h => h) (Or.inl ⟨by rfl, ?_⟩) ?_ ?_
          rotate_left
          · intro w'
            go_simp
            with_reducible rfl
          rotate_left
          · simp only [Act.put, List.setIfInBounds_toArray, List.set_cons_zero, List.set_cons_succ, i64_w, i32_w]
            rfl
          refine pure_ (i := 20) (N := some 25) (v := ?_) (a' := ?_) #[true, true, true, true, true, true, true, true, true, true, true, true, true, true, true, true, true, true, true, true, true, false, false, false, false, false, false, false, false, false, false, false, false, false] rfl rfl (any_of HT_.out (by kernel_rfl)) (fun _ _ _ h => h) (Or.inl ⟨by rfl, ?_⟩) ?_ ?_
          rotate_left
          · intro w'
            go_simp
            with_reducible rfl
          rotate_left
          · simp only [Act.put, List.setIfInBounds_toArray, List.set_cons_zero, List.set_cons_succ, i64_w, i32_w]
            rfl
          refine pure_ (i := 22) (N := some 27) (v := ?_) (a' := ?_) #[true, true, true, true, true, true, true, true, true, true, true, true, true, true, true, true, true, true, true, true, true, false, true, false, false, false, false, false, false, false, false, false, false, false] rfl rfl (any_of HT_.out (by kernel_rfl)) (fun _ _ _ h => h) (Or.inl ⟨by rfl, ?_⟩) ?_ ?_
          rotate_left
          · intro w'
            go_simp
            with_reducible rfl
          rotate_left
          · simp only [Act.put, List.setIfInBounds_toArray, List.set_cons_zero, List.set_cons_succ, i64_w, i32_w]
            rfl
          refine take_ (i := 21) (N := some 26) (v := ?_) (a' := ?_) #[true, true, true, true, true, true, true, true, true, true, true, true, true, true, true, true, true, true, true, true, true, true, true, false, false, false, false, false, false, false, false, false, false, false] rfl rfl (take_ofW HT_.out HW_.out (by kernel_rfl)) (fun _ _ _ h => h) (Or.inl ⟨by rfl, ?_⟩) hHeld ?_ ?_
          rotate_left
          · rintro w' ⟨s0, s1, s2, s3, s4, s5, s6, s7, s8, s9, s10, s11, s12, s13, s14, s15, s16, s17, s18, s19, s20, s21, s22, s23, s24, s25, s26, s27, s28, s29, s30, s31, s32, s33, s34, s35, s36, s37, s38, s39, s40, s41, s42, s43, s44, s45, s46, s47, s48, s49⟩
            first | (refine Eq.trans (head_Same.gx _ (by exact rfl) _ (by exact rfl) _ _ (by repeat (first | (apply head_Same.gxs; · assumption) | exact head_Same.gxn)) Try.underlying48 rfl (by kernel_rfl)) ?_; with_reducible rfl) | (go_simp; with_reducible rfl)
          rotate_left
          · simp only [Act.put, List.setIfInBounds_toArray, List.set_cons_zero, List.set_cons_succ, i64_w, i32_w]
            rfl
          refine take_ (i := 23) (N := some 28) (v := ?_) (a' := ?_) #[true, true, true, true, true, true, true, true, true, true, true, true, true, true, true, true, true, true, true, true, true, true, true, true, false, false, false, false, false, false, false, false, false, false] rfl rfl (take_ofW HT_.out HW_.out (by kernel_rfl)) (fun _ _ _ h => h) (Or.inl ⟨by rfl, ?_⟩) hHeld ?_ ?_
          rotate_left
          · rintro w' ⟨s0, s1, s2, s3, s4, s5, s6, s7, s8, s9, s10, s11, s12, s13, s14, s15, s16, s17, s18, s19, s20, s21, s22, s23, s24, s25, s26, s27, s28, s29, s30, s31, s32, s33, s34, s35, s36, s37, s38, s39, s40, s41, s42, s43, s44, s45, s46, s47, s48, s49⟩
            first | (refine Eq.trans (head_Same.gx _ (by exact rfl) _ (by exact rfl) _ _ (by repeat (first | (apply head_Same.gxs; · assumption) | exact head_Same.gxn)) Try.underlying48 rfl (by kernel_rfl)) ?_; with_reducible rfl) | (go_simp; with_reducible rfl)
          rotate_left
          · simp only [Act.put, List.setIfInBounds_toArray, List.set_cons_zero, List.set_cons_succ, i64_w, i32_w]
            rfl
          refine one_ (i := 24) (N := some 29) #[true, true, true, true, true, true, true, true, true, true, true, true, true, true, true, true, true, true, true, true, true, true, true, true, true, false, false, false, false, false, false, false, false, false] rfl rfl (one_of HT_.out (by kernel_rfl)) (by decide) (fun K hK => ?_)
          refine goes_ Try.func86 (by kernel_rfl) rfl #[.slice A0_23 l0_23.length c0_23, .slice A1_23 l1_23.length c1_23] (by rfl) rfl rfl (by (try simp only [List.map_toArray, List.map_cons, List.map_nil]); first | done | rfl | (simp only [List.length_drop, List.length_take]; rfl)) ?_
          with_reducible refine (api_Filter_86.calls k _ _ l0_23 _ _ l1_23 false _ ?side1 ?side2 ?side3 ?side4 A10.out).mono ?_
          (case side1 => repeat (first | exact (Kd.C_below HR0_23.out (by repeat (first | (with_reducible first | exact HB.out | apply below_alloc | apply pw_below_drewN | apply below_drew1 | refine below_set ?_ GE168.out | refine below_set ?_ GE169.out) | exact HB.out))) | (with_reducible refine Kd.C_alloc ?_ _) | (with_reducible refine Kd.C_drewN ?_ _) | (with_reducible refine Kd.C_drew ?_)))
          (case side2 => exact HC0_23.out)
          (case side3 => repeat (first | exact (Kd.C_below HR1_23.out (by repeat (first | (with_reducible first | exact HB.out | apply below_alloc | apply pw_below_drewN | apply below_drew1 | refine below_set ?_ GE168.out | refine below_set ?_ GE169.out) | exact HB.out))) | (with_reducible refine Kd.C_alloc ?_ _) | (with_reducible refine Kd.C_drewN ?_ _) | (with_reducible refine Kd.C_drew ?_)))
          (case side4 => exact HC1_23.out)
          rintro e w27 ⟨rfl, hb⟩
          refine ⟨_, rfl, ?_⟩
          have n0_ := Aside0.mk (blk_below (g := gb168) (o := .cells #[.int .i64 a0_0, .bool a0_1, .bool a0_2, .int .i64 a0_3, .int .i64 a0_4, .string a0_5, .string a0_6, .bool a0_7, .int .i64 a0_8, .string a0_9, .bool a0_10, .string a0_11, .bool a0_12, .string a0_13, .bool a0_14, .string a0_15, .string a0_16, .int .i64 a0_17, .bool a0_18, .slice A0_19 l0_19.length c0_19, .bool a0_20, .int .i64 a0_21, .slice A0_22 l0_22.length c0_22, .slice A0_23 l0_23.length c0_23, .slice A0_24 l0_24.length c0_24] 48 (0, 0)) (by (with_reducible repeat (first | refine blk_drewN ?_ _ | refine blk_drew ?_ | refine blk_alloc ?_ _)); exact BK168.out) hb)
          have n1_ := Aside0.mk (blk_below (g := gb169) (o := .cells #[.int .i64 a1_0, .bool a1_1, .bool a1_2, .int .i64 a1_3, .int .i64 a1_4, .string a1_5, .string a1_6, .bool a1_7, .int .i64 a1_8, .string a1_9, .bool a1_10, .string a1_11, .bool a1_12, .string a1_13, .bool a1_14, .string a1_15, .string a1_16, .int .i64 a1_17, .bool a1_18, .slice A1_19 l1_19.length c1_19, .bool a1_20, .int .i64 a1_21, .slice A1_22 l1_22.length c1_22, .slice A1_23 l1_23.length c1_23, .slice A1_24 l1_24.length c1_24] 48 (0, 0)) (by (with_reducible repeat (first | refine blk_drewN ?_ _ | refine blk_drew ?_ | refine blk_alloc ?_ _)); exact BK169.out) hb)
          have n2_ := Aside0.mk (below_step (by repeat (first | (with_reducible first | exact HB.out | apply below_alloc | apply pw_below_drewN | apply below_drew1 | refine below_set ?_ GE168.out | refine below_set ?_ GE169.out) | exact HB.out)) hb)
          clear BK168
          clear BK169
          clear HB
          have BK168 := n0_
          have BK169 := n1_
          have HB := n2_
          clear n0_ n1_ n2_
          (try clear hb)
          (try clear hb2)
          (try clear hk)
          (try clear hi)
          refine hK.out _ _ ⟨(blk_cell BK168.out 0).trans rfl, (blk_cell BK168.out 1).trans rfl, (blk_cell BK168.out 2).trans rfl, (blk_cell BK168.out 3).trans rfl, (blk_cell BK168.out 4).trans rfl, (blk_cell BK168.out 5).trans rfl, (blk_cell BK168.out 6).trans rfl, (blk_cell BK168.out 7).trans rfl, (blk_cell BK168.out 8).trans rfl, (blk_cell BK168.out 9).trans rfl, (blk_cell BK168.out 10).trans rfl, (blk_cell BK168.out 11).trans rfl, (blk_cell BK168.out 12).trans rfl, (blk_cell BK168.out 13).trans rfl, (blk_cell BK168.out 14).trans rfl, (blk_cell BK168.out 15).trans rfl, (blk_cell BK168.out 16).trans rfl, (blk_cell BK168.out 17).trans rfl, (blk_cell BK168.out 18).trans rfl, (blk_cell BK168.out 19).trans rfl, (blk_cell BK168.out 20).trans rfl, (blk_cell BK168.out 21).trans rfl, (blk_cell BK168.out 22).trans rfl, (blk_cell BK168.out 23).trans rfl, (blk_cell BK168.out 24).trans rfl, (blk_cell BK169.out 0).trans rfl, (blk_cell BK169.out 1).trans rfl, (blk_cell BK169.out 2).trans rfl, (blk_cell BK169.out 3).trans rfl, (blk_cell BK169.out 4).trans rfl, (blk_cell BK169.out 5).trans rfl, (blk_cell BK169.out 6).trans rfl, (blk_cell BK169.out 7).trans rfl, (blk_cell BK169.out 8).trans rfl, (blk_cell BK169.out 9).trans rfl, (blk_cell BK169.out 10).trans rfl, (blk_cell BK169.out 11).trans rfl, (blk_cell BK169.out 12).trans rfl, (blk_cell BK169.out 13).trans rfl, (blk_cell BK169.out 14).trans rfl, (blk_cell BK169.out 15).trans rfl, (blk_cell BK169.out 16).trans rfl, (blk_cell BK169.out 17).trans rfl, (blk_cell BK169.out 18).trans rfl, (blk_cell BK169.out 19).trans rfl, (blk_cell BK169.out 20).trans rfl, (blk_cell BK169.out 21).trans rfl, (blk_cell BK169.out 22).trans rfl, (blk_cell BK169.out 23).trans rfl, (blk_cell BK169.out 24).trans rfl⟩ (fun hHeld => ?_)
          clear hK K
          refine norm_ (a' := ?_) ?_ ?_
          rotate_left
          · show Act.put _ (some 29) _ = _
            simp only [Act.put, List.setIfInBounds_toArray, List.set_cons_zero, List.set_cons_succ, i64_w, i32_w]
            rfl
          refine pure_ (i := 25) (N := some 30) (v := ?_) (a' := ?_) #[true, true, true, true, true, true, true, true, true, true, true, true, true, true, true, true, true, true, true, true, true, true, true, true, true, true, false, false, false, false, false, false, false, false] rfl rfl (any_of HT_.out (by kernel_rfl)) (fun _ _ _ h => h) (Or.inl ⟨by rfl, ?_⟩) ?_ ?_
          rotate_left
          · intro w'
            go_simp
            with_reducible rfl
          rotate_left
          · simp only [Act.put, List.setIfInBounds_toArray, List.set_cons_zero, List.set_cons_succ, i64_w, i32_w]
            rfl
          refine pure_ (i := 26) (N := some 31) (v := ?_) (a' := ?_) #[true, true, true, true, true, true, true, true, true, true, true, true, true, true, true, true, true, true, true, true, true, true, true, true, true, true, true, false, false, false, false, false, false, false] rfl rfl (any_of HT_.out (by kernel_rfl)) (fun _ _ _ h => h) (Or.inl ⟨by rfl, ?_⟩) ?_ ?_
          rotate_left
          · intro w'
            go_simp
            with_reducible rfl
          rotate_left
          · simp only [Act.put, List.setIfInBounds_toArray, List.set_cons_zero, List.set_cons_succ, i64_w, i32_w]
            rfl
          refine pure_ (i := 27) (N := some 32) (v := undef) (a' := ?_) #[true, true, true, true, true, true, true, true, true, true, true, true, true, true, true, true, true, true, true, true, true, true, true, true, true, true, true, true, false, false, false, false, false, false] rfl rfl (any_of HT_.out (by kernel_rfl)) (fun _ _ _ h => h) (Or.inr ⟨by rfl, rfl⟩) ?_ ?_
          rotate_left
          · simp only [Act.put, List.setIfInBounds_toArray, List.set_cons_zero, List.set_cons_succ, i64_w, i32_w]
            rfl
          refine pure_ (i := 28) (N := some 33) (v := undef) (a' := ?_) #[true, true, true, true, true, true, true, true, true, true, true, true, true, true, true, true, true, true, true, true, true, true, true, true, true, true, true, true, true, false, false, false, false, false] rfl rfl (any_of HT_.out (by kernel_rfl)) (fun _ _ _ h => h) (Or.inr ⟨by rfl, rfl⟩) ?_ ?_
          rotate_left
          · simp only [Act.put, List.setIfInBounds_toArray, List.set_cons_zero, List.set_cons_succ, i64_w, i32_w]
            rfl
          refine pure_ (i := 29) (N := some 34) (v := undef) (a' := ?_) #[true, true, true, true, true, true, true, true, true, true, true, true, true, true, true, true, true, true, true, true, true, true, true, true, true, true, true, true, true, true, false, false, false, false] rfl rfl (any_of HT_.out (by kernel_rfl)) (fun _ _ _ h => h) (Or.inr ⟨by rfl, rfl⟩) ?_ ?_
          rotate_left
          · simp only [Act.put, List.setIfInBounds_toArray, List.set_cons_zero, List.set_cons_succ, i64_w, i32_w]
            rfl
          refine pure_ (i := 30) (N := some 35) (v := undef) (a' := ?_) #[true, true, true, true, true, true, true, true, true, true, true, true, true, true, true, true, true, true, true, true, true, true, true, true, true, true, true, true, true, true, true, false, false, false] rfl rfl (any_of HT_.out (by kernel_rfl)) (fun _ _ _ h => h) (Or.inr ⟨by rfl, rfl⟩) ?_ ?_
          rotate_left
          · simp only [Act.put, List.setIfInBounds_toArray, List.set_cons_zero, List.set_cons_succ, i64_w, i32_w]
            rfl
          refine pure_ (i := 31) (N := some 36) (v := undef) (a' := ?_) #[true, true, true, true, true, true, true, true, true, true, true, true, true, true, true, true, true, true, true, true, true, true, true, true, true, true, true, true, true, true, true, true, false, false] rfl rfl (any_of HT_.out (by kernel_rfl)) (fun _ _ _ h => h) (Or.inr ⟨by rfl, rfl⟩) ?_ ?_
          rotate_left
          · simp only [Act.put, List.setIfInBounds_toArray, List.set_cons_zero, List.set_cons_succ, i64_w, i32_w]
            rfl
          refine pure_ (i := 32) (N := some 37) (v := ?_) (a' := ?_) #[true, true, true, true, true, true, true, true, true, true, true, true, true, true, true, true, true, true, true, true, true, true, true, true, true, true, true, true, true, true, true, true, true, false] rfl rfl (any_of HT_.out (by kernel_rfl)) (fun _ _ _ h => h) (Or.inl ⟨by rfl, ?_⟩) ?_ ?_
          rotate_left
          · intro w'
            go_simp
            with_reducible rfl
          rotate_left
          · simp only [Act.put, List.setIfInBounds_toArray, List.set_cons_zero, List.set_cons_succ, i64_w, i32_w]
            rfl
          refine pure_ (i := 33) (N := some 4) (v := ?_) (a' := ?_) #[true, true, true, true, true, true, true, true, true, true, true, true, true, true, true, true, true, true, true, true, true, true, true, true, true, true, true, true, true, true, true, true, true, true] rfl rfl (any_of HT_.out (by kernel_rfl)) (fun _ _ _ h => h) (Or.inl ⟨by rfl, ?_⟩) ?_ ?_
          rotate_left
          · intro w'
            go_simp
            with_reducible rfl
          rotate_left
          · simp only [Act.put, List.setIfInBounds_toArray, List.set_cons_zero, List.set_cons_succ, i64_w, i32_w]
            rfl
          refine done_ (done_of HT_.out (by kernel_rfl)) ?_
          try go_wp2
          go_ret
          exact ⟨by first | rfl | (simp [errW_none, errW_some] <;> rfl) | (simp [*, errW_none, errW_some] <;> rfl), by repeat (first | (with_reducible first | exact HB.out | apply below_alloc | apply pw_below_drewN | apply below_drew1 | refine below_set ?_ GE168.out | refine below_set ?_ GE169.out) | exact HB.out)⟩
      · replace c9 := Bool.eq_false_iff.mpr c9
        subst c9
        have H1 : (some false) = some r := by rw [if_neg (show ¬ (false = true) by decide)] at H; exact H
        clear H
        have H := H1
        clear H1
        obtain rfl := Option.some.inj H
        go_enter Try.func70, Try.ntmps70
        try go_wp2_with (first | ((with_reducible refine head_Same.gl rfl ?_); (try (refine gate_guard (by first | rfl | (simp [*]; done) | fail) ?_; dsimp only)); refine wpList_load_row rfl 48 _ rfl _ (by rfl) 48 _ _ _ (by first | exact Aside0.out (by with_reducible assumption) | ((with_reducible repeat (first | refine blk_drewN ?_ _ | refine blk_drew ?_ | refine blk_alloc ?_ _)); exact Aside0.out (by with_reducible assumption)) | (refine blk_put (Aside0.out (by with_reducible assumption)) 24 _ ?_; simp only [List.setIfInBounds_toArray, List.set_cons_zero, List.set_cons_succ]; rfl) | (apply blk_put (i := 24); (case h => exact Aside0.out (by with_reducible assumption)); (case e => (simp only [List.setIfInBounds_toArray, List.set_cons_zero, List.set_cons_succ]; rfl)))) Try.underlying48 rfl (by kernel_rfl) ?_) | ((with_reducible refine gate_dst (N := 2) rfl ?_); refine box_event ?hg (N := 2) ?hd (cs := #[.int .i64 a0_0, .bool a0_1, .bool a0_2, .int .i64 a0_3, .int .i64 a0_4, .string a0_5, .string a0_6, .bool a0_7, .int .i64 a0_8, .string a0_9, .bool a0_10, .string a0_11, .bool a0_12, .string a0_13, .bool a0_14, .string a0_15, .string a0_16, .int .i64 a0_17, .bool a0_18, .slice A0_19 l0_19.length c0_19, .bool a0_20, .int .i64 a0_21, .slice A0_22 l0_22.length c0_22, .slice A0_23 l0_23.length c0_23, .slice A0_24 l0_24.length c0_24]) (t := 48) ?hr ?_; (case hd => rfl); (case hg => rfl); (case hr => first | (go_simp; done) | (go_simp; rfl)); intro gb168 hg w28 hbox hb; have n0_ := Aside0.mk (below_step (by repeat (first | (with_reducible first | exact HB.out | apply below_alloc | apply pw_below_drewN | apply below_drew1) | exact HB.out)) hb); have n1_ := Aside0.mk (hbox); have n2_ := Aside0.mk ((by rw [hg]; exact (below_size (by repeat (first | (with_reducible first | exact HB.out | apply below_alloc | apply pw_below_drewN | apply below_drew1) | exact HB.out))) : w.heap.size ≤ gb168)); have n3_ := Aside0.mk ((by rw [hg]; exact (below_size (by repeat (first | (with_reducible first | exact HB.out | apply below_alloc | apply pw_below_drewN | apply below_drew1) | exact HB.out))) : w.heap.size ≤ gb168)); clear HB; have HB := n0_; have BK168 := n1_; have GW168 := n2_; have GE168 := n3_; clear n0_ n1_ n2_ n3_; clear hb hbox hg) | ((with_reducible refine gate_dst (N := 3) rfl ?_); refine box_event ?hg (N := 3) ?hd (cs := #[.int .i64 a1_0, .bool a1_1, .bool a1_2, .int .i64 a1_3, .int .i64 a1_4, .string a1_5, .string a1_6, .bool a1_7, .int .i64 a1_8, .string a1_9, .bool a1_10, .string a1_11, .bool a1_12, .string a1_13, .bool a1_14, .string a1_15, .string a1_16, .int .i64 a1_17, .bool a1_18, .slice A1_19 l1_19.length c1_19, .bool a1_20, .int .i64 a1_21, .slice A1_22 l1_22.length c1_22, .slice A1_23 l1_23.length c1_23, .slice A1_24 l1_24.length c1_24]) (t := 48) ?hr ?_; (case hd => rfl); (case hg => rfl); (case hr => first | (go_simp; done) | (go_simp; rfl)); intro gb169 hg w29 hbox hb; have n0_ := Aside0.mk (blk_below (g := gb168) (o := .cells #[.int .i64 a0_0, .bool a0_1, .bool a0_2, .int .i64 a0_3, .int .i64 a0_4, .string a0_5, .string a0_6, .bool a0_7, .int .i64 a0_8, .string a0_9, .bool a0_10, .string a0_11, .bool a0_12, .string a0_13, .bool a0_14, .string a0_15, .string a0_16, .int .i64 a0_17, .bool a0_18, .slice A0_19 l0_19.length c0_19, .bool a0_20, .int .i64 a0_21, .slice A0_22 l0_22.length c0_22, .slice A0_23 l0_23.length c0_23, .slice A0_24 l0_24.length c0_24] 48 (0, 0)) (by (with_reducible repeat (first | refine blk_drewN ?_ _ | refine blk_drew ?_ | refine blk_alloc ?_ _)); exact BK168.out) hb); have n1_ := Aside0.mk (below_step (by repeat (first | (with_reducible first | exact HB.out | apply below_alloc | apply pw_below_drewN | apply below_drew1 | refine below_set ?_ GE168.out) | exact HB.out)) hb); have n2_ := Aside0.mk (hbox); have n3_ := Aside0.mk ((by rw [hg]; exact (below_size (by repeat (first | (with_reducible first | exact HB.out | apply below_alloc | apply pw_below_drewN | apply below_drew1 | refine below_set ?_ GE168.out) | exact HB.out))) : w.heap.size ≤ gb169)); have n4_ := Aside0.mk ((by rw [hg]; exact (below_size (by repeat (first | (with_reducible first | exact HB.out | apply below_alloc | apply pw_below_drewN | apply below_drew1 | refine below_set ?_ GE168.out) | exact HB.out))) : w.heap.size ≤ gb169)); have n5_ := Aside0.mk ((by rw [hg]; exact Nat.ne_of_lt (blk_lt (g := gb168) (o := .cells #[.int .i64 a0_0, .bool a0_1, .bool a0_2, .int .i64 a0_3, .int .i64 a0_4, .string a0_5, .string a0_6, .bool a0_7, .int .i64 a0_8, .string a0_9, .bool a0_10, .string a0_11, .bool a0_12, .string a0_13, .bool a0_14, .string a0_15, .string a0_16, .int .i64 a0_17, .bool a0_18, .slice A0_19 l0_19.length c0_19, .bool a0_20, .int .i64 a0_21, .slice A0_22 l0_22.length c0_22, .slice A0_23 l0_23.length c0_23, .slice A0_24 l0_24.length c0_24] 48 (0, 0)) (by (with_reducible repeat (first | refine blk_drewN ?_ _ | refine blk_drew ?_ | refine blk_alloc ?_ _)); exact BK168.out)) : gb168 ≠ gb169)); have n6_ := Aside0.mk ((by rw [hg]; exact Nat.ne_of_gt (blk_lt (g := gb168) (o := .cells #[.int .i64 a0_0, .bool a0_1, .bool a0_2, .int .i64 a0_3, .int .i64 a0_4, .string a0_5, .string a0_6, .bool a0_7, .int .i64 a0_8, .string a0_9, .bool a0_10, .string a0_11, .bool a0_12, .string a0_13, .bool a0_14, .string a0_15, .string a0_16, .int .i64 a0_17, .bool a0_18, .slice A0_19 l0_19.length c0_19, .bool a0_20, .int .i64 a0_21, .slice A0_22 l0_22.length c0_22, .slice A0_23 l0_23.length c0_23, .slice A0_24 l0_24.length c0_24] 48 (0, 0)) (by (with_reducible repeat (first | refine blk_drewN ?_ _ | refine blk_drew ?_ | refine blk_alloc ?_ _)); exact BK168.out)) : gb169 ≠ gb168)); clear BK168; clear HB; have BK168 := n0_; have HB := n1_; have BK169 := n2_; have GW169 := n3_; have GE169 := n4_; have NB168_169 := n5_; have NB169_168 := n6_; clear n0_ n1_ n2_ n3_ n4_ n5_ n6_; clear hb hbox hg))
        have n0_ := Aside0.mk (blk_drew BK168.out)
        have n1_ := Aside0.mk (blk_drew BK169.out)
        have n2_ := Aside0.mk (below_drew1 HB.out)
        clear BK168
        clear BK169
        clear HB
        have BK168 := n0_
        have BK169 := n1_
        have HB := n2_
        clear n0_ n1_ n2_
        refine start_ (n := 34) (S := fun w' => w'.cell? ⟨gb168, 0, none⟩ = some (.int .i64 a0_0) ∧ w'.cell? ⟨gb168, 1, none⟩ = some (.bool a0_1) ∧ w'.cell? ⟨gb168, 2, none⟩ = some (.bool a0_2) ∧ w'.cell? ⟨gb168, 3, none⟩ = some (.int .i64 a0_3) ∧ w'.cell? ⟨gb168, 4, none⟩ = some (.int .i64 a0_4) ∧ w'.cell? ⟨gb168, 5, none⟩ = some (.string a0_5) ∧ w'.cell? ⟨gb168, 6, none⟩ = some (.string a0_6) ∧ w'.cell? ⟨gb168, 7, none⟩ = some (.bool a0_7) ∧ w'.cell? ⟨gb168, 8, none⟩ = some (.int .i64 a0_8) ∧ w'.cell? ⟨gb168, 9, none⟩ = some (.string a0_9) ∧ w'.cell? ⟨gb168, 10, none⟩ = some (.bool a0_10) ∧ w'.cell? ⟨gb168, 11, none⟩ = some (.string a0_11) ∧ w'.cell? ⟨gb168, 12, none⟩ = some (.bool a0_12) ∧ w'.cell? ⟨gb168, 13, none⟩ = some (.string a0_13) ∧ w'.cell? ⟨gb168, 14, none⟩ = some (.bool a0_14) ∧ w'.cell? ⟨gb168, 15, none⟩ = some (.string a0_15) ∧ w'.cell? ⟨gb168, 16, none⟩ = some (.string a0_16) ∧ w'.cell? ⟨gb168, 17, none⟩ = some (.int .i64 a0_17) ∧ w'.cell? ⟨gb168, 18, none⟩ = some (.bool a0_18) ∧ w'.cell? ⟨gb168, 19, none⟩ = some (.slice A0_19 l0_19.length c0_19) ∧ w'.cell? ⟨gb168, 20, none⟩ = some (.bool a0_20) ∧ w'.cell? ⟨gb168, 21, none⟩ = some (.int .i64 a0_21) ∧ w'.cell? ⟨gb168, 22, none⟩ = some (.slice A0_22 l0_22.length c0_22) ∧ w'.cell? ⟨gb168, 23, none⟩ = some (.slice A0_23 l0_23.length c0_23) ∧ w'.cell? ⟨gb168, 24, none⟩ = some (.slice A0_24 l0_24.length c0_24) ∧ w'.cell? ⟨gb169, 0, none⟩ = some (.int .i64 a1_0) ∧ w'.cell? ⟨gb169, 1, none⟩ = some (.bool a1_1) ∧ w'.cell? ⟨gb169, 2, none⟩ = some (.bool a1_2) ∧ w'.cell? ⟨gb169, 3, none⟩ = some (.int .i64 a1_3) ∧ w'.cell? ⟨gb169, 4, none⟩ = some (.int .i64 a1_4) ∧ w'.cell? ⟨gb169, 5, none⟩ = some (.string a1_5) ∧ w'.cell? ⟨gb169, 6, none⟩ = some (.string a1_6) ∧ w'.cell? ⟨gb169, 7, none⟩ = some (.bool a1_7) ∧ w'.cell? ⟨gb169, 8, none⟩ = some (.int .i64 a1_8) ∧ w'.cell? ⟨gb169, 9, none⟩ = some (.string a1_9) ∧ w'.cell? ⟨gb169, 10, none⟩ = some (.bool a1_10) ∧ w'.cell? ⟨gb169, 11, none⟩ = some (.string a1_11) ∧ w'.cell? ⟨gb169, 12, none⟩ = some (.bool a1_12) ∧ w'.cell? ⟨gb169, 13, none⟩ = some (.string a1_13) ∧ w'.cell? ⟨gb169, 14, none⟩ = some (.bool a1_14) ∧ w'.cell? ⟨gb169, 15, none⟩ = some (.string a1_15) ∧ w'.cell? ⟨gb169, 16, none⟩ = some (.string a1_16) ∧ w'.cell? ⟨gb169, 17, none⟩ = some (.int .i64 a1_17) ∧ w'.cell? ⟨gb169, 18, none⟩ = some (.bool a1_18) ∧ w'.cell? ⟨gb169, 19, none⟩ = some (.slice A1_19 l1_19.length c1_19) ∧ w'.cell? ⟨gb169, 20, none⟩ = some (.bool a1_20) ∧ w'.cell? ⟨gb169, 21, none⟩ = some (.int .i64 a1_21) ∧ w'.cell? ⟨gb169, 22, none⟩ = some (.slice A1_22 l1_22.length c1_22) ∧ w'.cell? ⟨gb169, 23, none⟩ = some (.slice A1_23 l1_23.length c1_23) ∧ w'.cell? ⟨gb169, 24, none⟩ = some (.slice A1_24 l1_24.length c1_24)) (ds := []) #[false, false, false, false, false, false, false, false, false, false, false, false, false, false, false, false, false, false, false, false, false, false, false, false, false, false, false, false, false, false, false, false, false, false] (by kernel_rfl) rfl rfl ⟨(blk_cell BK168.out 0).trans rfl, (blk_cell BK168.out 1).trans rfl, (blk_cell BK168.out 2).trans rfl, (blk_cell BK168.out 3).trans rfl, (blk_cell BK168.out 4).trans rfl, (blk_cell BK168.out 5).trans rfl, (blk_cell BK168.out 6).trans rfl, (blk_cell BK168.out 7).trans rfl, (blk_cell BK168.out 8).trans rfl, (blk_cell BK168.out 9).trans rfl, (blk_cell BK168.out 10).trans rfl, (blk_cell BK168.out 11).trans rfl, (blk_cell BK168.out 12).trans rfl, (blk_cell BK168.out 13).trans rfl, (blk_cell BK168.out 14).trans rfl, (blk_cell BK168.out 15).trans rfl, (blk_cell BK168.out 16).trans rfl, (blk_cell BK168.out 17).trans rfl, (blk_cell BK168.out 18).trans rfl, (blk_cell BK168.out 19).trans rfl, (blk_cell BK168.out 20).trans rfl, (blk_cell BK168.out 21).trans rfl, (blk_cell BK168.out 22).trans rfl, (blk_cell BK168.out 23).trans rfl, (blk_cell BK168.out 24).trans rfl, (blk_cell BK169.out 0).trans rfl, (blk_cell BK169.out 1).trans rfl, (blk_cell BK169.out 2).trans rfl, (blk_cell BK169.out 3).trans rfl, (blk_cell BK169.out 4).trans rfl, (blk_cell BK169.out 5).trans rfl, (blk_cell BK169.out 6).trans rfl, (blk_cell BK169.out 7).trans rfl, (blk_cell BK169.out 8).trans rfl, (blk_cell BK169.out 9).trans rfl, (blk_cell BK169.out 10).trans rfl, (blk_cell BK169.out 11).trans rfl, (blk_cell BK169.out 12).trans rfl, (blk_cell BK169.out 13).trans rfl, (blk_cell BK169.out 14).trans rfl, (blk_cell BK169.out 15).trans rfl, (blk_cell BK169.out 16).trans rfl, (blk_cell BK169.out 17).trans rfl, (blk_cell BK169.out 18).trans rfl, (blk_cell BK169.out 19).trans rfl, (blk_cell BK169.out 20).trans rfl, (blk_cell BK169.out 21).trans rfl, (blk_cell BK169.out 22).trans rfl, (blk_cell BK169.out 23).trans rfl, (blk_cell BK169.out 24).trans rfl⟩ (fun hHeld => ?_); refine with_tabW head_Same.tab1 head_Same.bits1 (fun HT_ HW_ => ?_)
        generalize w29.drew = w30 at BK168 BK169 HB hHeld ⊢
        refine take_ (i := 0) (N := some 5) (v := ?_) (a' := ?_) #[true, false, false, false, false, false, false, false, false, false, false, false, false, false, false, false, false, false, false, false, false, false, false, false, false, false, false, false, false, false, false, false, false, false] rfl rfl (take_ofW HT_.out HW_.out (by kernel_rfl)) (fun _ _ _ h => h) (Or.inl ⟨by rfl, ?_⟩) hHeld ?_ ?_
        rotate_left
        · rintro w' ⟨s0, s1, s2, s3, s4, s5, s6, s7, s8, s9, s10, s11, s12, s13, s14, s15, s16, s17, s18, s19, s20, s21, s22, s23, s24, s25, s26, s27, s28, s29, s30, s31, s32, s33, s34, s35, s36, s37, s38, s39, s40, s41, s42, s43, s44, s45, s46, s47, s48, s49⟩
          first | (refine Eq.trans (head_Same.gx _ (by exact rfl) _ (by exact rfl) _ _ (by repeat (first | (apply head_Same.gxs; · assumption) | exact head_Same.gxn)) Try.underlying48 rfl (by kernel_rfl)) ?_; with_reducible rfl) | (go_simp; with_reducible rfl)
        rotate_left
        · simp only [Act.put, List.setIfInBounds_toArray, List.set_cons_zero, List.set_cons_succ, i64_w, i32_w]
          rfl
        refine take_ (i := 2) (N := some 7) (v := ?_) (a' := ?_) #[true, false, true, false, false, false, false, false, false, false, false, false, false, false, false, false, false, false, false, false, false, false, false, false, false, false, false, false, false, false, false, false, false, false] rfl rfl (take_ofW HT_.out HW_.out (by kernel_rfl)) (fun _ _ _ h => h) (Or.inl ⟨by rfl, ?_⟩) hHeld ?_ ?_
        rotate_left
        · rintro w' ⟨s0, s1, s2, s3, s4, s5, s6, s7, s8, s9, s10, s11, s12, s13, s14, s15, s16, s17, s18, s19, s20, s21, s22, s23, s24, s25, s26, s27, s28, s29, s30, s31, s32, s33, s34, s35, s36, s37, s38, s39, s40, s41, s42, s43, s44, s45, s46, s47, s48, s49⟩
          first | (refine Eq.trans (head_Same.gx _ (by exact rfl) _ (by exact rfl) _ _ (by repeat (first | (apply head_Same.gxs; · assumption) | exact head_Same.gxn)) Try.underlying48 rfl (by kernel_rfl)) ?_; with_reducible rfl) | (go_simp; with_reducible rfl)
        rotate_left
        · simp only [Act.put, List.setIfInBounds_toArray, List.set_cons_zero, List.set_cons_succ, i64_w, i32_w]
          rfl
        refine one_ (i := 1) (N := some 6) #[true, true, true, false, false, false, false, false, false, false, false, false, false, false, false, false, false, false, false, false, false, false, false, false, false, false, false, false, false, false, false, false, false, false] rfl rfl (one_of HT_.out (by kernel_rfl)) (by decide) (fun K hK => ?_)
        refine goes_ Try.func83 (by kernel_rfl) rfl #[.agg #[.int .i64 a0_0, .bool a0_1, .bool a0_2, .int .i64 a0_3, .int .i64 a0_4, .string a0_5, .string a0_6, .bool a0_7, .int .i64 a0_8, .string a0_9, .bool a0_10, .string a0_11, .bool a0_12, .string a0_13, .bool a0_14, .string a0_15, .string a0_16, .int .i64 a0_17, .bool a0_18, .slice A0_19 l0_19.length c0_19, .bool a0_20, .int .i64 a0_21, .slice A0_22 l0_22.length c0_22, .slice A0_23 l0_23.length c0_23, .slice A0_24 l0_24.length c0_24]] (by rfl) rfl rfl (by (try simp only [List.map_toArray, List.map_cons, List.map_nil]); first | done | rfl | (simp only [List.length_drop, List.length_take]; rfl)) ?_
        with_reducible refine (head_strip.calls a0_0 a0_1 a0_2 a0_3 a0_4 a0_5 a0_6 a0_7 a0_8 a0_9 a0_10 a0_11 a0_12 a0_13 a0_14 a0_15 a0_16 a0_17 a0_18 _ _ l0_19 a0_20 a0_21 _ _ l0_22 _ _ l0_23 _ _ l0_24 t170 t171 t172 t173 t174 t175 t176 t177 t178 t179 t180 t181 t182 t183 t184 t185 t186 _ ?side1 ?side2 ?side3 ?side4 ?side5 ?side6 ?side7 ?side8 A3.out).mono ?_
        (case side1 => repeat (first | exact (Kd.C_below HR0_19.out HB.out) | (with_reducible refine Kd.C_alloc ?_ _) | (with_reducible refine Kd.C_drewN ?_ _) | (with_reducible refine Kd.C_drew ?_)))
        (case side2 => exact HC0_19.out)
        (case side3 => repeat (first | exact (Kd.C_below HR0_22.out HB.out) | (with_reducible refine Kd.C_alloc ?_ _) | (with_reducible refine Kd.C_drewN ?_ _) | (with_reducible refine Kd.C_drew ?_)))
        (case side4 => exact HC0_22.out)
        (case side5 => repeat (first | exact (Kd.C_below HR0_23.out HB.out) | (with_reducible refine Kd.C_alloc ?_ _) | (with_reducible refine Kd.C_drewN ?_ _) | (with_reducible refine Kd.C_drew ?_)))
        (case side6 => exact HC0_23.out)
        (case side7 => repeat (first | exact (Kd.C_below HR0_24.out HB.out) | (with_reducible refine Kd.C_alloc ?_ _) | (with_reducible refine Kd.C_drewN ?_ _) | (with_reducible refine Kd.C_drew ?_)))
        (case side8 => exact HC0_24.out)
        rintro e w31 ⟨rfl, hb⟩
        refine ⟨_, rfl, ?_⟩
        have n0_ := Aside0.mk (blk_below (g := gb168) (o := .cells #[.int .i64 a0_0, .bool a0_1, .bool a0_2, .int .i64 a0_3, .int .i64 a0_4, .string a0_5, .string a0_6, .bool a0_7, .int .i64 a0_8, .string a0_9, .bool a0_10, .string a0_11, .bool a0_12, .string a0_13, .bool a0_14, .string a0_15, .string a0_16, .int .i64 a0_17, .bool a0_18, .slice A0_19 l0_19.length c0_19, .bool a0_20, .int .i64 a0_21, .slice A0_22 l0_22.length c0_22, .slice A0_23 l0_23.length c0_23, .slice A0_24 l0_24.length c0_24] 48 (0, 0)) (by (with_reducible repeat (first | refine blk_drewN ?_ _ | refine blk_drew ?_ | refine blk_alloc ?_ _)); exact BK168.out) hb)
        have n1_ := Aside0.mk (blk_below (g := gb169) (o := .cells #[.int .i64 a1_0, .bool a1_1, .bool a1_2, .int .i64 a1_3, .int .i64 a1_4, .string a1_5, .string a1_6, .bool a1_7, .int .i64 a1_8, .string a1_9, .bool a1_10, .string a1_11, .bool a1_12, .string a1_13, .bool a1_14, .string a1_15, .string a1_16, .int .i64 a1_17, .bool a1_18, .slice A1_19 l1_19.length c1_19, .bool a1_20, .int .i64 a1_21, .slice A1_22 l1_22.length c1_22, .slice A1_23 l1_23.length c1_23, .slice A1_24 l1_24.length c1_24] 48 (0, 0)) (by (with_reducible repeat (first | refine blk_drewN ?_ _ | refine blk_drew ?_ | refine blk_alloc ?_ _)); exact BK169.out) hb)
        have n2_ := Aside0.mk (below_step (by repeat (first | (with_reducible first | exact HB.out | apply below_alloc | apply pw_below_drewN | apply below_drew1 | refine below_set ?_ GE168.out | refine below_set ?_ GE169.out) | exact HB.out)) hb)
        clear BK168
        clear BK169
        clear HB
        have BK168 := n0_
        have BK169 := n1_
        have HB := n2_
        clear n0_ n1_ n2_
        (try clear hb)
        (try clear hb2)
        (try clear hk)
        (try clear hi)
        refine hK.out _ _ ⟨(blk_cell BK168.out 0).trans rfl, (blk_cell BK168.out 1).trans rfl, (blk_cell BK168.out 2).trans rfl, (blk_cell BK168.out 3).trans rfl, (blk_cell BK168.out 4).trans rfl, (blk_cell BK168.out 5).trans rfl, (blk_cell BK168.out 6).trans rfl, (blk_cell BK168.out 7).trans rfl, (blk_cell BK168.out 8).trans rfl, (blk_cell BK168.out 9).trans rfl, (blk_cell BK168.out 10).trans rfl, (blk_cell BK168.out 11).trans rfl, (blk_cell BK168.out 12).trans rfl, (blk_cell BK168.out 13).trans rfl, (blk_cell BK168.out 14).trans rfl, (blk_cell BK168.out 15).trans rfl, (blk_cell BK168.out 16).trans rfl, (blk_cell BK168.out 17).trans rfl, (blk_cell BK168.out 18).trans rfl, (blk_cell BK168.out 19).trans rfl, (blk_cell BK168.out 20).trans rfl, (blk_cell BK168.out 21).trans rfl, (blk_cell BK168.out 22).trans rfl, (blk_cell BK168.out 23).trans rfl, (blk_cell BK168.out 24).trans rfl, (blk_cell BK169.out 0).trans rfl, (blk_cell BK169.out 1).trans rfl, (blk_cell BK169.out 2).trans rfl, (blk_cell BK169.out 3).trans rfl, (blk_cell BK169.out 4).trans rfl, (blk_cell BK169.out 5).trans rfl, (blk_cell BK169.out 6).trans rfl, (blk_cell BK169.out 7).trans rfl, (blk_cell BK169.out 8).trans rfl, (blk_cell BK169.out 9).trans rfl, (blk_cell BK169.out 10).trans rfl, (blk_cell BK169.out 11).trans rfl, (blk_cell BK169.out 12).trans rfl, (blk_cell BK169.out 13).trans rfl, (blk_cell BK169.out 14).trans rfl, (blk_cell BK169.out 15).trans rfl, (blk_cell BK169.out 16).trans rfl, (blk_cell BK169.out 17).trans rfl, (blk_cell BK169.out 18).trans rfl, (blk_cell BK169.out 19).trans rfl, (blk_cell BK169.out 20).trans rfl, (blk_cell BK169.out 21).trans rfl, (blk_cell BK169.out 22).trans rfl, (blk_cell BK169.out 23).trans rfl, (blk_cell BK169.out 24).trans rfl⟩ (fun hHeld => ?_)
        clear hK K
        refine norm_ (a' := ?_) ?_ ?_
        rotate_left
        · show Act.put _ (some 6) _ = _
          simp only [Act.put, List.setIfInBounds_toArray, List.set_cons_zero, List.set_cons_succ, i64_w, i32_w]
          rfl
        refine one_ (i := 3) (N := some 8) #[true, true, true, true, false, false, false, false, false, false, false, false, false, false, false, false, false, false, false, false, false, false, false, false, false, false, false, false, false, false, false, false, false, false] rfl rfl (one_of HT_.out (by kernel_rfl)) (by decide) (fun K hK => ?_)
        refine goes_ Try.func83 (by kernel_rfl) rfl #[.agg #[.int .i64 a1_0, .bool a1_1, .bool a1_2, .int .i64 a1_3, .int .i64 a1_4, .string a1_5, .string a1_6, .bool a1_7, .int .i64 a1_8, .string a1_9, .bool a1_10, .string a1_11, .bool a1_12, .string a1_13, .bool a1_14, .string a1_15, .string a1_16, .int .i64 a1_17, .bool a1_18, .slice A1_19 l1_19.length c1_19, .bool a1_20, .int .i64 a1_21, .slice A1_22 l1_22.length c1_22, .slice A1_23 l1_23.length c1_23, .slice A1_24 l1_24.length c1_24]] (by rfl) rfl rfl (by (try simp only [List.map_toArray, List.map_cons, List.map_nil]); first | done | rfl | (simp only [List.length_drop, List.length_take]; rfl)) ?_
        with_reducible refine (head_strip.calls a1_0 a1_1 a1_2 a1_3 a1_4 a1_5 a1_6 a1_7 a1_8 a1_9 a1_10 a1_11 a1_12 a1_13 a1_14 a1_15 a1_16 a1_17 a1_18 _ _ l1_19 a1_20 a1_21 _ _ l1_22 _ _ l1_23 _ _ l1_24 t187 t188 t189 t190 t191 t192 t193 t194 t195 t196 t197 t198 t199 t200 t201 t202 t203 _ ?side1 ?side2 ?side3 ?side4 ?side5 ?side6 ?side7 ?side8 A4.out).mono ?_
        (case side1 => repeat (first | exact (Kd.C_below HR1_19.out HB.out) | (with_reducible refine Kd.C_alloc ?_ _) | (with_reducible refine Kd.C_drewN ?_ _) | (with_reducible refine Kd.C_drew ?_)))
        (case side2 => exact HC1_19.out)
        (case side3 => repeat (first | exact (Kd.C_below HR1_22.out HB.out) | (with_reducible refine Kd.C_alloc ?_ _) | (with_reducible refine Kd.C_drewN ?_ _) | (with_reducible refine Kd.C_drew ?_)))
        (case side4 => exact HC1_22.out)
        (case side5 => repeat (first | exact (Kd.C_below HR1_23.out HB.out) | (with_reducible refine Kd.C_alloc ?_ _) | (with_reducible refine Kd.C_drewN ?_ _) | (with_reducible refine Kd.C_drew ?_)))
        (case side6 => exact HC1_23.out)
        (case side7 => repeat (first | exact (Kd.C_below HR1_24.out HB.out) | (with_reducible refine Kd.C_alloc ?_ _) | (with_reducible refine Kd.C_drewN ?_ _) | (with_reducible refine Kd.C_drew ?_)))
        (case side8 => exact HC1_24.out)
        rintro e w32 ⟨rfl, hb⟩
        refine ⟨_, rfl, ?_⟩
        have n0_ := Aside0.mk (blk_below (g := gb168) (o := .cells #[.int .i64 a0_0, .bool a0_1, .bool a0_2, .int .i64 a0_3, .int .i64 a0_4, .string a0_5, .string a0_6, .bool a0_7, .int .i64 a0_8, .string a0_9, .bool a0_10, .string a0_11, .bool a0_12, .string a0_13, .bool a0_14, .string a0_15, .string a0_16, .int .i64 a0_17, .bool a0_18, .slice A0_19 l0_19.length c0_19, .bool a0_20, .int .i64 a0_21, .slice A0_22 l0_22.length c0_22, .slice A0_23 l0_23.length c0_23, .slice A0_24 l0_24.length c0_24] 48 (0, 0)) (by (with_reducible repeat (first | refine blk_drewN ?_ _ | refine blk_drew ?_ | refine blk_alloc ?_ _)); exact BK168.out) hb)
        have n1_ := Aside0.mk (blk_below (g := gb169) (o := .cells #[.int .i64 a1_0, .bool a1_1, .bool a1_2, .int .i64 a1_3, .int .i64 a1_4, .string a1_5, .string a1_6, .bool a1_7, .int .i64 a1_8, .string a1_9, .bool a1_10, .string a1_11, .bool a1_12, .string a1_13, .bool a1_14, .string a1_15, .string a1_16, .int .i64 a1_17, .bool a1_18, .slice A1_19 l1_19.length c1_19, .bool a1_20, .int .i64 a1_21, .slice A1_22 l1_22.length c1_22, .slice A1_23 l1_23.length c1_23, .slice A1_24 l1_24.length c1_24] 48 (0, 0)) (by (with_reducible repeat (first | refine blk_drewN ?_ _ | refine blk_drew ?_ | refine blk_alloc ?_ _)); exact BK169.out) hb)
        have n2_ := Aside0.mk (below_step (by repeat (first | (with_reducible first | exact HB.out | apply below_alloc | apply pw_below_drewN | apply below_drew1 | refine below_set ?_ GE168.out | refine below_set ?_ GE169.out) | exact HB.out)) hb)
        clear BK168
        clear BK169
        clear HB
        have BK168 := n0_
        have BK169 := n1_
        have HB := n2_
        clear n0_ n1_ n2_
        (try clear hb)
        (try clear hb2)
        (try clear hk)
        (try clear hi)
        refine hK.out _ _ ⟨(blk_cell BK168.out 0).trans rfl, (blk_cell BK168.out 1).trans rfl, (blk_cell BK168.out 2).trans rfl, (blk_cell BK168.out 3).trans rfl, (blk_cell BK168.out 4).trans rfl, (blk_cell BK168.out 5).trans rfl, (blk_cell BK168.out 6).trans rfl, (blk_cell BK168.out 7).trans rfl, (blk_cell BK168.out 8).trans rfl, (blk_cell BK168.out 9).trans rfl, (blk_cell BK168.out 10).trans rfl, (blk_cell BK168.out 11).trans rfl, (blk_cell BK168.out 12).trans rfl, (blk_cell BK168.out 13).trans rfl, (blk_cell BK168.out 14).trans rfl, (blk_cell BK168.out 15).trans rfl, (blk_cell BK168.out 16).trans rfl, (blk_cell BK168.out 17).trans rfl, (blk_cell BK168.out 18).trans rfl, (blk_cell BK168.out 19).trans rfl, (blk_cell BK168.out 20).trans rfl, (blk_cell BK168.out 21).trans rfl, (blk_cell BK168.out 22).trans rfl, (blk_cell BK168.out 23).trans rfl, (blk_cell BK168.out 24).trans rfl, (blk_cell BK169.out 0).trans rfl, (blk_cell BK169.out 1).trans rfl, (blk_cell BK169.out 2).trans rfl, (blk_cell BK169.out 3).trans rfl, (blk_cell BK169.out 4).trans rfl, (blk_cell BK169.out 5).trans rfl, (blk_cell BK169.out 6).trans rfl, (blk_cell BK169.out 7).trans rfl, (blk_cell BK169.out 8).trans rfl, (blk_cell BK169.out 9).trans rfl, (blk_cell BK169.out 10).trans rfl, (blk_cell BK169.out 11).trans rfl, (blk_cell BK169.out 12).trans rfl, (blk_cell BK169.out 13).trans rfl, (blk_cell BK169.out 14).trans rfl, (blk_cell BK169.out 15).trans rfl, (blk_cell BK169.out 16).trans rfl, (blk_cell BK169.out 17).trans rfl, (blk_cell BK169.out 18).trans rfl, (blk_cell BK169.out 19).trans rfl, (blk_cell BK169.out 20).trans rfl, (blk_cell BK169.out 21).trans rfl, (blk_cell BK169.out 22).trans rfl, (blk_cell BK169.out 23).trans rfl, (blk_cell BK169.out 24).trans rfl⟩ (fun hHeld => ?_)
        clear hK K
        refine norm_ (a' := ?_) ?_ ?_
        rotate_left
        · show Act.put _ (some 8) _ = _
          simp only [Act.put, List.setIfInBounds_toArray, List.set_cons_zero, List.set_cons_succ, i64_w, i32_w]
          rfl
        refine pure_ (i := 4) (N := some 9) (v := ?_) (a' := ?_) #[true, true, true, true, true, false, false, false, false, false, false, false, false, false, false, false, false, false, false, false, false, false, false, false, false, false, false, false, false, false, false, false, false, false] rfl rfl (any_of HT_.out (by kernel_rfl)) (fun _ _ _ h => h) (Or.inl ⟨by rfl, ?_⟩) ?_ ?_
        rotate_left
        · intro w'
          go_simp
          with_reducible rfl
        rotate_left
        · simp only [Act.put, List.setIfInBounds_toArray, List.set_cons_zero, List.set_cons_succ, i64_w, i32_w]
          rfl
        refine pure_ (i := 5) (N := some 10) (v := ?_) (a' := ?_) #[true, true, true, true, true, true, false, false, false, false, false, false, false, false, false, false, false, false, false, false, false, false, false, false, false, false, false, false, false, false, false, false, false, false] rfl rfl (any_of HT_.out (by kernel_rfl)) (fun _ _ _ h => h) (Or.inl ⟨by rfl, ?_⟩) ?_ ?_
        rotate_left
        · intro w'
          go_simp
          with_reducible rfl
        rotate_left
        · simp only [Act.put, List.setIfInBounds_toArray, List.set_cons_zero, List.set_cons_succ, i64_w, i32_w]
          rfl
        refine pure_ (i := 6) (N := some 11) (v := ?_) (a' := ?_) #[true, true, true, true, true, true, true, false, false, false, false, false, false, false, false, false, false, false, false, false, false, false, false, false, false, false, false, false, false, false, false, false, false, false] rfl rfl (any_of HT_.out (by kernel_rfl)) (fun _ _ _ h => h) (Or.inl ⟨by rfl, ?_⟩) ?_ ?_
        rotate_left
        · intro w'
          go_simp
          with_reducible rfl
        rotate_left
        · simp only [Act.put, List.setIfInBounds_toArray, List.set_cons_zero, List.set_cons_succ, i64_w, i32_w]
          rfl
        refine pure_ (i := 8) (N := some 13) (v := ?_) (a' := ?_) #[true, true, true, true, true, true, true, false, true, false, false, false, false, false, false, false, false, false, false, false, false, false, false, false, false, false, false, false, false, false, false, false, false, false] rfl rfl (any_of HT_.out (by kernel_rfl)) (fun _ _ _ h => h) (Or.inl ⟨by rfl, ?_⟩) ?_ ?_
        rotate_left
        · intro w'
          go_simp
          with_reducible rfl
        rotate_left
        · simp only [Act.put, List.setIfInBounds_toArray, List.set_cons_zero, List.set_cons_succ, i64_w, i32_w]
          rfl
        refine take_ (i := 7) (N := some 12) (v := ?_) (a' := ?_) #[true, true, true, true, true, true, true, true, true, false, false, false, false, false, false, false, false, false, false, false, false, false, false, false, false, false, false, false, false, false, false, false, false, false] rfl rfl (take_ofW HT_.out HW_.out (by kernel_rfl)) (fun _ _ _ h => h) (Or.inl ⟨by rfl, ?_⟩) hHeld ?_ ?_
        rotate_left
        · rintro w' ⟨s0, s1, s2, s3, s4, s5, s6, s7, s8, s9, s10, s11, s12, s13, s14, s15, s16, s17, s18, s19, s20, s21, s22, s23, s24, s25, s26, s27, s28, s29, s30, s31, s32, s33, s34, s35, s36, s37, s38, s39, s40, s41, s42, s43, s44, s45, s46, s47, s48, s49⟩
          first | (refine Eq.trans (head_Same.gx _ (by exact rfl) _ (by exact rfl) _ _ (by repeat (first | (apply head_Same.gxs; · assumption) | exact head_Same.gxn)) Try.underlying48 rfl (by kernel_rfl)) ?_; with_reducible rfl) | (go_simp; with_reducible rfl)
        rotate_left
        · simp only [Act.put, List.setIfInBounds_toArray, List.set_cons_zero, List.set_cons_succ, i64_w, i32_w]
          rfl
        refine take_ (i := 9) (N := some 14) (v := ?_) (a' := ?_) #[true, true, true, true, true, true, true, true, true, true, false, false, false, false, false, false, false, false, false, false, false, false, false, false, false, false, false, false, false, false, false, false, false, false] rfl rfl (take_ofW HT_.out HW_.out (by kernel_rfl)) (fun _ _ _ h => h) (Or.inl ⟨by rfl, ?_⟩) hHeld ?_ ?_
        rotate_left
        · rintro w' ⟨s0, s1, s2, s3, s4, s5, s6, s7, s8, s9, s10, s11, s12, s13, s14, s15, s16, s17, s18, s19, s20, s21, s22, s23, s24, s25, s26, s27, s28, s29, s30, s31, s32, s33, s34, s35, s36, s37, s38, s39, s40, s41, s42, s43, s44, s45, s46, s47, s48, s49⟩
          first | (refine Eq.trans (head_Same.gx _ (by exact rfl) _ (by exact rfl) _ _ (by repeat (first | (apply head_Same.gxs; · assumption) | exact head_Same.gxn)) Try.underlying48 rfl (by kernel_rfl)) ?_; with_reducible rfl) | (go_simp; with_reducible rfl)
        rotate_left
        · simp only [Act.put, List.setIfInBounds_toArray, List.set_cons_zero, List.set_cons_succ, i64_w, i32_w]
          rfl
        refine one_ (i := 10) (N := some 15) #[true, true, true, true, true, true, true, true, true, true, true, false, false, false, false, false, false, false, false, false, false, false, false, false, false, false, false, false, false, false, false, false, false, false] rfl rfl (one_of HT_.out (by kernel_rfl)) (by decide) (fun K hK => ?_)
        refine goes_ Try.func84 (by kernel_rfl) rfl #[.agg #[.string a0_15, .string a0_16, .int .i64 a0_17, .bool a0_18, .slice A0_19 l0_19.length c0_19], .agg #[.string a1_15, .string a1_16, .int .i64 a1_17, .bool a1_18, .slice A1_19 l1_19.length c1_19]] (by rfl) rfl rfl (by (try simp only [List.map_toArray, List.map_cons, List.map_nil]); first | done | rfl | (simp only [List.length_drop, List.length_take]; rfl)) ?_
        with_reducible refine (head_sameWill.calls k a0_15 a0_16 a0_17 a0_18 _ _ l0_19 a1_15 a1_16 a1_17 a1_18 _ _ l1_19 true _ ?side1 ?side2 ?side3 ?side4 A6.out).mono ?_
        (case side1 => repeat (first | exact (Kd.C_below HR0_19.out HB.out) | (with_reducible refine Kd.C_alloc ?_ _) | (with_reducible refine Kd.C_drewN ?_ _) | (with_reducible refine Kd.C_drew ?_)))
        (case side2 => exact HC0_19.out)
        (case side3 => repeat (first | exact (Kd.C_below HR1_19.out HB.out) | (with_reducible refine Kd.C_alloc ?_ _) | (with_reducible refine Kd.C_drewN ?_ _) | (with_reducible refine Kd.C_drew ?_)))
        (case side4 => exact HC1_19.out)
        rintro e w33 ⟨rfl, hb⟩
        refine ⟨_, rfl, ?_⟩
        have n0_ := Aside0.mk (blk_below (g := gb168) (o := .cells #[.int .i64 a0_0, .bool a0_1, .bool a0_2, .int .i64 a0_3, .int .i64 a0_4, .string a0_5, .string a0_6, .bool a0_7, .int .i64 a0_8, .string a0_9, .bool a0_10, .string a0_11, .bool a0_12, .string a0_13, .bool a0_14, .string a0_15, .string a0_16, .int .i64 a0_17, .bool a0_18, .slice A0_19 l0_19.length c0_19, .bool a0_20, .int .i64 a0_21, .slice A0_22 l0_22.length c0_22, .slice A0_23 l0_23.length c0_23, .slice A0_24 l0_24.length c0_24] 48 (0, 0)) (by (with_reducible repeat (first | refine blk_drewN ?_ _ | refine blk_drew ?_ | refine blk_alloc ?_ _)); exact BK168.out) hb)
        have n1_ := Aside0.mk (blk_below (g := gb169) (o := .cells #[.int .i64 a1_0, .bool a1_1, .bool a1_2, .int .i64 a1_3, .int .i64 a1_4, .string a1_5, .string a1_6, .bool a1_7, .int .i64 a1_8, .string a1_9, .bool a1_10, .string a1_11, .bool a1_12, .string a1_13, .bool a1_14, .string a1_15, .string a1_16, .int .i64 a1_17, .bool a1_18, .slice A1_19 l1_19.length c1_19, .bool a1_20, .int .i64 a1_21, .slice A1_22 l1_22.length c1_22, .slice A1_23 l1_23.length c1_23, .slice A1_24 l1_24.length c1_24] 48 (0, 0)) (by (with_reducible repeat (first | refine blk_drewN ?_ _ | refine blk_drew ?_ | refine blk_alloc ?_ _)); exact BK169.out) hb)
        have n2_ := Aside0.mk (below_step (by repeat (first | (with_reducible first | exact HB.out | apply below_alloc | apply pw_below_drewN | apply below_drew1 | refine below_set ?_ GE168.out | refine below_set ?_ GE169.out) | exact HB.out)) hb)
        clear BK168
        clear BK169
        clear HB
        have BK168 := n0_
        have BK169 := n1_
        have HB := n2_
        clear n0_ n1_ n2_
        (try clear hb)
        (try clear hb2)
        (try clear hk)
        (try clear hi)
        refine hK.out _ _ ⟨(blk_cell BK168.out 0).trans rfl, (blk_cell BK168.out 1).trans rfl, (blk_cell BK168.out 2).trans rfl, (blk_cell BK168.out 3).trans rfl, (blk_cell BK168.out 4).trans rfl, (blk_cell BK168.out 5).trans rfl, (blk_cell BK168.out 6).trans rfl, (blk_cell BK168.out 7).trans rfl, (blk_cell BK168.out 8).trans rfl, (blk_cell BK168.out 9).trans rfl, (blk_cell BK168.out 10).trans rfl, (blk_cell BK168.out 11).trans rfl, (blk_cell BK168.out 12).trans rfl, (blk_cell BK168.out 13).trans rfl, (blk_cell BK168.out 14).trans rfl, (blk_cell BK168.out 15).trans rfl, (blk_cell BK168.out 16).trans rfl, (blk_cell BK168.out 17).trans rfl, (blk_cell BK168.out 18).trans rfl, (blk_cell BK168.out 19).trans rfl, (blk_cell BK168.out 20).trans rfl, (blk_cell BK168.out 21).trans rfl, (blk_cell BK168.out 22).trans rfl, (blk_cell BK168.out 23).trans rfl, (blk_cell BK168.out 24).trans rfl, (blk_cell BK169.out 0).trans rfl, (blk_cell BK169.out 1).trans rfl, (blk_cell BK169.out 2).trans rfl, (blk_cell BK169.out 3).trans rfl, (blk_cell BK169.out 4).trans rfl, (blk_cell BK169.out 5).trans rfl, (blk_cell BK169.out 6).trans rfl, (blk_cell BK169.out 7).trans rfl, (blk_cell BK169.out 8).trans rfl, (blk_cell BK169.out 9).trans rfl, (blk_cell BK169.out 10).trans rfl, (blk_cell BK169.out 11).trans rfl, (blk_cell BK169.out 12).trans rfl, (blk_cell BK169.out 13).trans rfl, (blk_cell BK169.out 14).trans rfl, (blk_cell BK169.out 15).trans rfl, (blk_cell BK169.out 16).trans rfl, (blk_cell BK169.out 17).trans rfl, (blk_cell BK169.out 18).trans rfl, (blk_cell BK169.out 19).trans rfl, (blk_cell BK169.out 20).trans rfl, (blk_cell BK169.out 21).trans rfl, (blk_cell BK169.out 22).trans rfl, (blk_cell BK169.out 23).trans rfl, (blk_cell BK169.out 24).trans rfl⟩ (fun hHeld => ?_)
        clear hK K
        refine norm_ (a' := ?_) ?_ ?_
        rotate_left
        · show Act.put _ (some 15) _ = _
          simp only [Act.put, List.setIfInBounds_toArray, List.set_cons_zero, List.set_cons_succ, i64_w, i32_w]
          rfl
        refine pure_ (i := 11) (N := some 16) (v := ?_) (a' := ?_) #[true, true, true, true, true, true, true, true, true, true, true, true, false, false, false, false, false, false, false, false, false, false, false, false, false, false, false, false, false, false, false, false, false, false] rfl rfl (any_of HT_.out (by kernel_rfl)) (fun _ _ _ h => h) (Or.inl ⟨by rfl, ?_⟩) ?_ ?_
        rotate_left
        · intro w'
          go_simp
          with_reducible rfl
        rotate_left
        · simp only [Act.put, List.setIfInBounds_toArray, List.set_cons_zero, List.set_cons_succ, i64_w, i32_w]
          rfl
        refine pure_ (i := 12) (N := some 17) (v := ?_) (a' := ?_) #[true, true, true, true, true, true, true, true, true, true, true, true, true, false, false, false, false, false, false, false, false, false, false, false, false, false, false, false, false, false, false, false, false, false] rfl rfl (any_of HT_.out (by kernel_rfl)) (fun _ _ _ h => h) (Or.inl ⟨by rfl, ?_⟩) ?_ ?_
        rotate_left
        · intro w'
          go_simp
          with_reducible rfl
        rotate_left
        · simp only [Act.put, List.setIfInBounds_toArray, List.set_cons_zero, List.set_cons_succ, i64_w, i32_w]
          rfl
        refine pure_ (i := 13) (N := some 18) (v := ?_) (a' := ?_) #[true, true, true, true, true, true, true, true, true, true, true, true, true, true, false, false, false, false, false, false, false, false, false, false, false, false, false, false, false, false, false, false, false, false] rfl rfl (any_of HT_.out (by kernel_rfl)) (fun _ _ _ h => h) (Or.inl ⟨by rfl, ?_⟩) ?_ ?_
        rotate_left
        · intro w'
          go_simp
          with_reducible rfl
        rotate_left
        · simp only [Act.put, List.setIfInBounds_toArray, List.set_cons_zero, List.set_cons_succ, i64_w, i32_w]
          rfl
        refine pure_ (i := 15) (N := some 20) (v := ?_) (a' := ?_) #[true, true, true, true, true, true, true, true, true, true, true, true, true, true, false, true, false, false, false, false, false, false, false, false, false, false, false, false, false, false, false, false, false, false] rfl rfl (any_of HT_.out (by kernel_rfl)) (fun _ _ _ h => h) (Or.inl ⟨by rfl, ?_⟩) ?_ ?_
        rotate_left
        · intro w'
          go_simp
          with_reducible rfl
        rotate_left
        · simp only [Act.put, List.setIfInBounds_toArray, List.set_cons_zero, List.set_cons_succ, i64_w, i32_w]
          rfl
        refine take_ (i := 14) (N := some 19) (v := ?_) (a' := ?_) #[true, true, true, true, true, true, true, true, true, true, true, true, true, true, true, true, false, false, false, false, false, false, false, false, false, false, false, false, false, false, false, false, false, false] rfl rfl (take_ofW HT_.out HW_.out (by kernel_rfl)) (fun _ _ _ h => h) (Or.inl ⟨by rfl, ?_⟩) hHeld ?_ ?_
        rotate_left
        · rintro w' ⟨s0, s1, s2, s3, s4, s5, s6, s7, s8, s9, s10, s11, s12, s13, s14, s15, s16, s17, s18, s19, s20, s21, s22, s23, s24, s25, s26, s27, s28, s29, s30, s31, s32, s33, s34, s35, s36, s37, s38, s39, s40, s41, s42, s43, s44, s45, s46, s47, s48, s49⟩
          first | (refine Eq.trans (head_Same.gx _ (by exact rfl) _ (by exact rfl) _ _ (by repeat (first | (apply head_Same.gxs; · assumption) | exact head_Same.gxn)) Try.underlying48 rfl (by kernel_rfl)) ?_; with_reducible rfl) | (go_simp; with_reducible rfl)
        rotate_left
        · simp only [Act.put, List.setIfInBounds_toArray, List.set_cons_zero, List.set_cons_succ, i64_w, i32_w]
          rfl
        refine take_ (i := 16) (N := some 21) (v := ?_) (a' := ?_) #[true, true, true, true, true, true, true, true, true, true, true, true, true, true, true, true, true, false, false, false, false, false, false, false, false, false, false, false, false, false, false, false, false, false] rfl rfl (take_ofW HT_.out HW_.out (by kernel_rfl)) (fun _ _ _ h => h) (Or.inl ⟨by rfl, ?_⟩) hHeld ?_ ?_
        rotate_left
        · rintro w' ⟨s0, s1, s2, s3, s4, s5, s6, s7, s8, s9, s10, s11, s12, s13, s14, s15, s16, s17, s18, s19, s20, s21, s22, s23, s24, s25, s26, s27, s28, s29, s30, s31, s32, s33, s34, s35, s36, s37, s38, s39, s40, s41, s42, s43, s44, s45, s46, s47, s48, s49⟩
          first | (refine Eq.trans (head_Same.gx _ (by exact rfl) _ (by exact rfl) _ _ (by repeat (first | (apply head_Same.gxs; · assumption) | exact head_Same.gxn)) Try.underlying48 rfl (by kernel_rfl)) ?_; with_reducible rfl) | (go_simp; with_reducible rfl)
        rotate_left
        · simp only [Act.put, List.setIfInBounds_toArray, List.set_cons_zero, List.set_cons_succ, i64_w, i32_w]
          rfl
        refine one_ (i := 17) (N := some 22) #[true, true, true, true, true, true, true, true, true, true, true, true, true, true, true, true, true, true, false, false, false, false, false, false, false, false, false, false, false, false, false, false, false, false] rfl rfl (one_of HT_.out (by kernel_rfl)) (by decide) (fun K hK => ?_)
        refine goes_ Try.func85 (by kernel_rfl) rfl #[.slice A0_22 l0_22.length c0_22, .slice A1_22 l1_22.length c1_22] (by rfl) rfl rfl (by (try simp only [List.map_toArray, List.map_cons, List.map_nil]); first | done | rfl | (simp only [List.length_drop, List.length_take]; rfl)) ?_
        with_reducible refine (head_list_int.calls k _ _ l0_22 _ _ l1_22 false _ ?side1 ?side2 ?side3 ?side4 A8.out).mono ?_
        (case side1 => repeat (first | exact (Kd.C_below HR0_22.out HB.out) | (with_reducible refine Kd.C_alloc ?_ _) | (with_reducible refine Kd.C_drewN ?_ _) | (with_reducible refine Kd.C_drew ?_)))
        (case side2 => exact HC0_22.out)
        (case side3 => repeat (first | exact (Kd.C_below HR1_22.out HB.out) | (with_reducible refine Kd.C_alloc ?_ _) | (with_reducible refine Kd.C_drewN ?_ _) | (with_reducible refine Kd.C_drew ?_)))
        (case side4 => exact HC1_22.out)
        rintro e w' ⟨rfl, ⟨nd, rfl⟩⟩
        refine ⟨_, rfl, ?_⟩
        refine hK.out _ _ ⟨(blk_cell BK168.out 0).trans rfl, (blk_cell BK168.out 1).trans rfl, (blk_cell BK168.out 2).trans rfl, (blk_cell BK168.out 3).trans rfl, (blk_cell BK168.out 4).trans rfl, (blk_cell BK168.out 5).trans rfl, (blk_cell BK168.out 6).trans rfl, (blk_cell BK168.out 7).trans rfl, (blk_cell BK168.out 8).trans rfl, (blk_cell BK168.out 9).trans rfl, (blk_cell BK168.out 10).trans rfl, (blk_cell BK168.out 11).trans rfl, (blk_cell BK168.out 12).trans rfl, (blk_cell BK168.out 13).trans rfl, (blk_cell BK168.out 14).trans rfl, (blk_cell BK168.out 15).trans rfl, (blk_cell BK168.out 16).trans rfl, (blk_cell BK168.out 17).trans rfl, (blk_cell BK168.out 18).trans rfl, (blk_cell BK168.out 19).trans rfl, (blk_cell BK168.out 20).trans rfl, (blk_cell BK168.out 21).trans rfl, (blk_cell BK168.out 22).trans rfl, (blk_cell BK168.out 23).trans rfl, (blk_cell BK168.out 24).trans rfl, (blk_cell BK169.out 0).trans rfl, (blk_cell BK169.out 1).trans rfl, (blk_cell BK169.out 2).trans rfl, (blk_cell BK169.out 3).trans rfl, (blk_cell BK169.out 4).trans rfl, (blk_cell BK169.out 5).trans rfl, (blk_cell BK169.out 6).trans rfl, (blk_cell BK169.out 7).trans rfl, (blk_cell BK169.out 8).trans rfl, (blk_cell BK169.out 9).trans rfl, (blk_cell BK169.out 10).trans rfl, (blk_cell BK169.out 11).trans rfl, (blk_cell BK169.out 12).trans rfl, (blk_cell BK169.out 13).trans rfl, (blk_cell BK169.out 14).trans rfl, (blk_cell BK169.out 15).trans rfl, (blk_cell BK169.out 16).trans rfl, (blk_cell BK169.out 17).trans rfl, (blk_cell BK169.out 18).trans rfl, (blk_cell BK169.out 19).trans rfl, (blk_cell BK169.out 20).trans rfl, (blk_cell BK169.out 21).trans rfl, (blk_cell BK169.out 22).trans rfl, (blk_cell BK169.out 23).trans rfl, (blk_cell BK169.out 24).trans rfl⟩ (fun hHeld => ?_)
        clear hK K
        refine norm_ (a' := ?_) ?_ ?_
        rotate_left
        · show Act.put _ (some 22) _ = _
          simp only [Act.put, List.setIfInBounds_toArray, List.set_cons_zero, List.set_cons_succ, i64_w, i32_w]
          rfl
        refine pure_ (i := 18) (N := some 23) (v := ?_) (a' := ?_) #[true, true, true, true, true, true, true, true, true, true, true, true, true, true, true, true, true, true, true, false, false, false, false, false, false, false, false, false, false, false, false, false, false, false] rfl rfl (any_of HT_.out (by kernel_rfl)) (fun _ _ _ h => h) (Or.inl ⟨by rfl, ?_⟩) ?_ ?_
        rotate_left
        · intro w'
          go_simp
          with_reducible rfl
        rotate_left
        · simp only [Act.put, List.setIfInBounds_toArray, List.set_cons_zero, List.set_cons_succ, i64_w, i32_w]
          rfl
        refine pure_ (i := 19) (N := some 24) (v := ?_) (a' := ?_) #[true, true, true, true, true, true, true, true, true, true, true, true, true, true, true, true, true, true, true, true, false, false, false, false, false, false, false, false, false, false, false, false, false, false] rfl rfl (any_of HT_.out (by kernel_rfl)) (fun _ _ _ h => h) (Or.inl ⟨by rfl, ?_⟩) ?_ ?_
        rotate_left
        · intro w'
          go_simp
          with_reducible rfl
        rotate_left
        · simp only [Act.put, List.setIfInBounds_toArray, List.set_cons_zero, List.set_cons_succ, i64_w, i32_w]
          rfl
        refine pure_ (i := 20) (N := some 25) (v := undef) (a' := ?_) #[true, true, true, true, true, true, true, true, true, true, true, true, true, true, true, true, true, true, true, true, true, false, false, false, false, false, false, false, false, false, false, false, false, false] rfl rfl (any_of HT_.out (by kernel_rfl)) (fun _ _ _ h => h) (Or.inr ⟨by rfl, rfl⟩) ?_ ?_
        rotate_left
        · simp only [Act.put, List.setIfInBounds_toArray, List.set_cons_zero, List.set_cons_succ, i64_w, i32_w]
          rfl
        refine pure_ (i := 21) (N := some 26) (v := undef) (a' := ?_) #[true, true, true, true, true, true, true, true, true, true, true, true, true, true, true, true, true, true, true, true, true, true, false, false, false, false, false, false, false, false, false, false, false, false] rfl rfl (any_of HT_.out (by kernel_rfl)) (fun _ _ _ h => h) (Or.inr ⟨by rfl, rfl⟩) ?_ ?_
        rotate_left
        · simp only [Act.put, List.setIfInBounds_toArray, List.set_cons_zero, List.set_cons_succ, i64_w, i32_w]
          rfl
        refine pure_ (i := 22) (N := some 27) (v := undef) (a' := ?_) #[true, true, true, true, true, true, true, true, true, true, true, true, true, true, true, true, true, true, true, true, true, true, true, false, false, false, false, false, false, false, false, false, false, false] rfl rfl (any_of HT_.out (by kernel_rfl)) (fun _ _ _ h => h) (Or.inr ⟨by rfl, rfl⟩) ?_ ?_
        rotate_left
        · simp only [Act.put, List.setIfInBounds_toArray, List.set_cons_zero, List.set_cons_succ, i64_w, i32_w]
          rfl
        refine pure_ (i := 23) (N := some 28) (v := undef) (a' := ?_) #[true, true, true, true, true, true, true, true, true, true, true, true, true, true, true, true, true, true, true, true, true, true, true, true, false, false, false, false, false, false, false, false, false, false] rfl rfl (any_of HT_.out (by kernel_rfl)) (fun _ _ _ h => h) (Or.inr ⟨by rfl, rfl⟩) ?_ ?_
        rotate_left
        · simp only [Act.put, List.setIfInBounds_toArray, List.set_cons_zero, List.set_cons_succ, i64_w, i32_w]
          rfl
        refine pure_ (i := 24) (N := some 29) (v := undef) (a' := ?_) #[true, true, true, true, true, true, true, true, true, true, true, true, true, true, true, true, true, true, true, true, true, true, true, true, true, false, false, false, false, false, false, false, false, false] rfl rfl (any_of HT_.out (by kernel_rfl)) (fun _ _ _ h => h) (Or.inr ⟨by rfl, rfl⟩) ?_ ?_
        rotate_left
        · simp only [Act.put, List.setIfInBounds_toArray, List.set_cons_zero, List.set_cons_succ, i64_w, i32_w]
          rfl
        refine pure_ (i := 25) (N := some 30) (v := ?_) (a' := ?_) #[true, true, true, true, true, true, true, true, true, true, true, true, true, true, true, true, true, true, true, true, true, true, true, true, true, true, false, false, false, false, false, false, false, false] rfl rfl (any_of HT_.out (by kernel_rfl)) (fun _ _ _ h => h) (Or.inl ⟨by rfl, ?_⟩) ?_ ?_
        rotate_left
        · intro w'
          go_simp
          with_reducible rfl
        rotate_left
        · simp only [Act.put, List.setIfInBounds_toArray, List.set_cons_zero, List.set_cons_succ, i64_w, i32_w]
          rfl
        refine pure_ (i := 26) (N := some 31) (v := ?_) (a' := ?_) #[true, true, true, true, true, true, true, true, true, true, true, true, true, true, true, true, true, true, true, true, true, true, true, true, true, true, true, false, false, false, false, false, false, false] rfl rfl (any_of HT_.out (by kernel_rfl)) (fun _ _ _ h => h) (Or.inl ⟨by rfl, ?_⟩) ?_ ?_
        rotate_left
        · intro w'
          go_simp
          with_reducible rfl
        rotate_left
        · simp only [Act.put, List.setIfInBounds_toArray, List.set_cons_zero, List.set_cons_succ, i64_w, i32_w]
          rfl
        refine pure_ (i := 27) (N := some 32) (v := undef) (a' := ?_) #[true, true, true, true, true, true, true, true, true, true, true, true, true, true, true, true, true, true, true, true, true, true, true, true, true, true, true, true, false, false, false, false, false, false] rfl rfl (any_of HT_.out (by kernel_rfl)) (fun _ _ _ h => h) (Or.inr ⟨by rfl, rfl⟩) ?_ ?_
        rotate_left
        · simp only [Act.put, List.setIfInBounds_toArray, List.set_cons_zero, List.set_cons_succ, i64_w, i32_w]
          rfl
        refine pure_ (i := 28) (N := some 33) (v := undef) (a' := ?_) #[true, true, true, true, true, true, true, true, true, true, true, true, true, true, true, true, true, true, true, true, true, true, true, true, true, true, true, true, true, false, false, false, false, false] rfl rfl (any_of HT_.out (by kernel_rfl)) (fun _ _ _ h => h) (Or.inr ⟨by rfl, rfl⟩) ?_ ?_
        rotate_left
        · simp only [Act.put, List.setIfInBounds_toArray, List.set_cons_zero, List.set_cons_succ, i64_w, i32_w]
          rfl
        refine pure_ (i := 29) (N := some 34) (v := undef) (a' := ?_) #[true, true, true, true, true, true, true, true, true, true, true, true, true, true, true, true, true, true, true, true, true, true, true, true, true, true, true, true, true, true, false, false, false, false] rfl rfl (any_of HT_.out (by kernel_rfl)) (fun _ _ _ h => h) (Or.inr ⟨by rfl, rfl⟩) ?_ ?_
        rotate_left
        · simp only [Act.put, List.setIfInBounds_toArray, List.set_cons_zero, List.set_cons_succ, i64_w, i32_w]
          rfl
        refine pure_ (i := 30) (N := some 35) (v := undef) (a' := ?_) #[true, true, true, true, true, true, true, true, true, true, true, true, true, true, true, true, true, true, true, true, true, true, true, true, true, true, true, true, true, true, true, false, false, false] rfl rfl (any_of HT_.out (by kernel_rfl)) (fun _ _ _ h => h) (Or.inr ⟨by rfl, rfl⟩) ?_ ?_
        rotate_left
        · simp only [Act.put, List.setIfInBounds_toArray, List.set_cons_zero, List.set_cons_succ, i64_w, i32_w]
          rfl
        refine pure_ (i := 31) (N := some 36) (v := undef) (a' := ?_) #[true, true, true, true, true, true, true, true, true, true, true, true, true, true, true, true, true, true, true, true, true, true, true, true, true, true, true, true, true, true, true, true, false, false] rfl rfl (any_of HT_.out (by kernel_rfl)) (fun _ _ _ h => h) (Or.inr ⟨by rfl, rfl⟩) ?_ ?_
        rotate_left
        · simp only [Act.put, List.setIfInBounds_toArray, List.set_cons_zero, List.set_cons_succ, i64_w, i32_w]
          rfl
        refine pure_ (i := 32) (N := some 37) (v := ?_) (a' := ?_) #[true, true, true, true, true, true, true, true, true, true, true, true, true, true, true, true, true, true, true, true, true, true, true, true, true, true, true, true, true, true, true, true, true, false] rfl rfl (any_of HT_.out (by kernel_rfl)) (fun _ _ _ h => h) (Or.inl ⟨by rfl, ?_⟩) ?_ ?_
        rotate_left
        · intro w'
          go_simp
          with_reducible rfl
        rotate_left
        · simp only [Act.put, List.setIfInBounds_toArray, List.set_cons_zero, List.set_cons_succ, i64_w, i32_w]
          rfl
        refine pure_ (i := 33) (N := some 4) (v := ?_) (a' := ?_) #[true, true, true, true, true, true, true, true, true, true, true, true, true, true, true, true, true, true, true, true, true, true, true, true, true, true, true, true, true, true, true, true, true, true] rfl rfl (any_of HT_.out (by kernel_rfl)) (fun _ _ _ h => h) (Or.inl ⟨by rfl, ?_⟩) ?_ ?_
        rotate_left
        · intro w'
          go_simp
          with_reducible rfl
        rotate_left
        · simp only [Act.put, List.setIfInBounds_toArray, List.set_cons_zero, List.set_cons_succ, i64_w, i32_w]
          rfl
        refine done_ (done_of HT_.out (by kernel_rfl)) ?_
        try go_wp2
        go_ret
        exact ⟨by first | rfl | (simp [errW_none, errW_some] <;> rfl) | (simp [*, errW_none, errW_some] <;> rfl), by repeat (first | (with_reducible first | exact HB.out | apply below_alloc | apply pw_below_drewN | apply below_drew1 | refine below_set ?_ GE168.out | refine below_set ?_ GE169.out) | exact HB.out)⟩
    · replace c7 := Bool.eq_false_iff.mpr c7
      subst c7
      have H1 : (some false) = some r := by rw [if_neg (show ¬ (false = true) by decide)] at H; exact H
      clear H
      have H := H1
      clear H1
      obtain rfl := Option.some.inj H
      go_enter Try.func70, Try.ntmps70
      try go_wp2_with (first | ((with_reducible refine head_Same.gl rfl ?_); (try (refine gate_guard (by first | rfl | (simp [*]; done) | fail) ?_; dsimp only)); refine wpList_load_row rfl 48 _ rfl _ (by rfl) 48 _ _ _ (by first | exact Aside0.out (by with_reducible assumption) | ((with_reducible repeat (first | refine blk_drewN ?_ _ | refine blk_drew ?_ | refine blk_alloc ?_ _)); exact Aside0.out (by with_reducible assumption)) | (refine blk_put (Aside0.out (by with_reducible assumption)) 24 _ ?_; simp only [List.setIfInBounds_toArray, List.set_cons_zero, List.set_cons_succ]; rfl) | (apply blk_put (i := 24); (case h => exact Aside0.out (by with_reducible assumption)); (case e => (simp only [List.setIfInBounds_toArray, List.set_cons_zero, List.set_cons_succ]; rfl)))) Try.underlying48 rfl (by kernel_rfl) ?_) | ((with_reducible refine gate_dst (N := 2) rfl ?_); refine box_event ?hg (N := 2) ?hd (cs := #[.int .i64 a0_0, .bool a0_1, .bool a0_2, .int .i64 a0_3, .int .i64 a0_4, .string a0_5, .string a0_6, .bool a0_7, .int .i64 a0_8, .string a0_9, .bool a0_10, .string a0_11, .bool a0_12, .string a0_13, .bool a0_14, .string a0_15, .string a0_16, .int .i64 a0_17, .bool a0_18, .slice A0_19 l0_19.length c0_19, .bool a0_20, .int .i64 a0_21, .slice A0_22 l0_22.length c0_22, .slice A0_23 l0_23.length c0_23, .slice A0_24 l0_24.length c0_24]) (t := 48) ?hr ?_; (case hd => rfl); (case hg => rfl); (case hr => first | (go_simp; done) | (go_simp; rfl)); intro gb168 hg w34 hbox hb; have n0_ := Aside0.mk (below_step (by repeat (first | (with_reducible first | exact HB.out | apply below_alloc | apply pw_below_drewN | apply below_drew1) | exact HB.out)) hb); have n1_ := Aside0.mk (hbox); have n2_ := Aside0.mk ((by rw [hg]; exact (below_size (by repeat (first | (with_reducible first | exact HB.out | apply below_alloc | apply pw_below_drewN | apply below_drew1) | exact HB.out))) : w.heap.size ≤ gb168)); have n3_ := Aside0.mk ((by rw [hg]; exact (below_size (by repeat (first | (with_reducible first | exact HB.out | apply below_alloc | apply pw_below_drewN | apply below_drew1) | exact HB.out))) : w.heap.size ≤ gb168)); clear HB; have HB := n0_; have BK168 := n1_; have GW168 := n2_; have GE168 := n3_; clear n0_ n1_ n2_ n3_; clear hb hbox hg) | ((with_reducible refine gate_dst (N := 3) rfl ?_); refine box_event ?hg (N := 3) ?hd (cs := #[.int .i64 a1_0, .bool a1_1, .bool a1_2, .int .i64 a1_3, .int .i64 a1_4, .string a1_5, .string a1_6, .bool a1_7, .int .i64 a1_8, .string a1_9, .bool a1_10, .string a1_11, .bool a1_12, .string a1_13, .bool a1_14, .string a1_15, .string a1_16, .int .i64 a1_17, .bool a1_18, .slice A1_19 l1_19.length c1_19, .bool a1_20, .int .i64 a1_21, .slice A1_22 l1_22.length c1_22, .slice A1_23 l1_23.length c1_23, .slice A1_24 l1_24.length c1_24]) (t := 48) ?hr ?_; (case hd => rfl); (case hg => rfl); (case hr => first | (go_simp; done) | (go_simp; rfl)); intro gb169 hg w35 hbox hb; have n0_ := Aside0.mk (blk_below (g := gb168) (o := .cells #[.int .i64 a0_0, .bool a0_1, .bool a0_2, .int .i64 a0_3, .int .i64 a0_4, .string a0_5, .string a0_6, .bool a0_7, .int .i64 a0_8, .string a0_9, .bool a0_10, .string a0_11, .bool a0_12, .string a0_13, .bool a0_14, .string a0_15, .string a0_16, .int .i64 a0_17, .bool a0_18, .slice A0_19 l0_19.length c0_19, .bool a0_20, .int .i64 a0_21, .slice A0_22 l0_22.length c0_22, .slice A0_23 l0_23.length c0_23, .slice A0_24 l0_24.length c0_24] 48 (0, 0)) (by (with_reducible repeat (first | refine blk_drewN ?_ _ | refine blk_drew ?_ | refine blk_alloc ?_ _)); exact BK168.out) hb); have n1_ := Aside0.mk (below_step (by repeat (first | (with_reducible first | exact HB.out | apply below_alloc | apply pw_below_drewN | apply below_drew1 | refine below_set ?_ GE168.out) | exact HB.out)) hb); have n2_ := Aside0.mk (hbox); have n3_ := Aside0.mk ((by rw [hg]; exact (below_size (by repeat (first | (with_reducible first | exact HB.out | apply below_alloc | apply pw_below_drewN | apply below_drew1 | refine below_set ?_ GE168.out) | exact HB.out))) : w.heap.size ≤ gb169)); have n4_ := Aside0.mk ((by rw [hg]; exact (below_size (by repeat (first | (with_reducible first | exact HB.out | apply below_alloc | apply pw_below_drewN | apply below_drew1 | refine below_set ?_ GE168.out) | exact HB.out))) : w.heap.size ≤ gb169)); have n5_ := Aside0.mk ((by rw [hg]; exact Nat.ne_of_lt (blk_lt (g := gb168) (o := .cells #[.int .i64 a0_0, .bool a0_1, .bool a0_2, .int .i64 a0_3, .int .i64 a0_4, .string a0_5, .string a0_6, .bool a0_7, .int .i64 a0_8, .string a0_9, .bool a0_10, .string a0_11, .bool a0_12, .string a0_13, .bool a0_14, .string a0_15, .string a0_16, .int .i64 a0_17, .bool a0_18, .slice A0_19 l0_19.length c0_19, .bool a0_20, .int .i64 a0_21, .slice A0_22 l0_22.length c0_22, .slice A0_23 l0_23.length c0_23, .slice A0_24 l0_24.length c0_24] 48 (0, 0)) (by (with_reducible repeat (first | refine blk_drewN ?_ _ | refine blk_drew ?_ | refine blk_alloc ?_ _)); exact BK168.out)) : gb168 ≠ gb169)); have n6_ := Aside0.mk ((by rw [hg]; exact Nat.ne_of_gt (blk_lt (g := gb168) (o := .cells #[.int .i64 a0_0, .bool a0_1, .bool a0_2, .int .i64 a0_3, .int .i64 a0_4, .string a0_5, .string a0_6, .bool a0_7, .int .i64 a0_8, .string a0_9, .bool a0_10, .string a0_11, .bool a0_12, .string a0_13, .bool a0_14, .string a0_15, .string a0_16, .int .i64 a0_17, .bool a0_18, .slice A0_19 l0_19.length c0_19, .bool a0_20, .int .i64 a0_21, .slice A0_22 l0_22.length c0_22, .slice A0_23 l0_23.length c0_23, .slice A0_24 l0_24.length c0_24] 48 (0, 0)) (by (with_reducible repeat (first | refine blk_drewN ?_ _ | refine blk_drew ?_ | refine blk_alloc ?_ _)); exact BK168.out)) : gb169 ≠ gb168)); clear BK168; clear HB; have BK168 := n0_; have HB := n1_; have BK169 := n2_; have GW169 := n3_; have GE169 := n4_; have NB168_169 := n5_; have NB169_168 := n6_; clear n0_ n1_ n2_ n3_ n4_ n5_ n6_; clear hb hbox hg))
      have n0_ := Aside0.mk (blk_drew BK168.out)
      have n1_ := Aside0.mk (blk_drew BK169.out)
      have n2_ := Aside0.mk (below_drew1 HB.out)
      clear BK168
      clear BK169
      clear HB
      have BK168 := n0_
      have BK169 := n1_
      have HB := n2_
      clear n0_ n1_ n2_
      refine start_ (n := 34) (S := fun w' => w'.cell? ⟨gb168, 0, none⟩ = some (.int .i64 a0_0) ∧ w'.cell? ⟨gb168, 1, none⟩ = some (.bool a0_1) ∧ w'.cell? ⟨gb168, 2, none⟩ = some (.bool a0_2) ∧ w'.cell? ⟨gb168, 3, none⟩ = some (.int .i64 a0_3) ∧ w'.cell? ⟨gb168, 4, none⟩ = some (.int .i64 a0_4) ∧ w'.cell? ⟨gb168, 5, none⟩ = some (.string a0_5) ∧ w'.cell? ⟨gb168, 6, none⟩ = some (.string a0_6) ∧ w'.cell? ⟨gb168, 7, none⟩ = some (.bool a0_7) ∧ w'.cell? ⟨gb168, 8, none⟩ = some (.int .i64 a0_8) ∧ w'.cell? ⟨gb168, 9, none⟩ = some (.string a0_9) ∧ w'.cell? ⟨gb168, 10, none⟩ = some (.bool a0_10) ∧ w'.cell? ⟨gb168, 11, none⟩ = some (.string a0_11) ∧ w'.cell? ⟨gb168, 12, none⟩ = some (.bool a0_12) ∧ w'.cell? ⟨gb168, 13, none⟩ = some (.string a0_13) ∧ w'.cell? ⟨gb168, 14, none⟩ = some (.bool a0_14) ∧ w'.cell? ⟨gb168, 15, none⟩ = some (.string a0_15) ∧ w'.cell? ⟨gb168, 16, none⟩ = some (.string a0_16) ∧ w'.cell? ⟨gb168, 17, none⟩ = some (.int .i64 a0_17) ∧ w'.cell? ⟨gb168, 18, none⟩ = some (.bool a0_18) ∧ w'.cell? ⟨gb168, 19, none⟩ = some (.slice A0_19 l0_19.length c0_19) ∧ w'.cell? ⟨gb168, 20, none⟩ = some (.bool a0_20) ∧ w'.cell? ⟨gb168, 21, none⟩ = some (.int .i64 a0_21) ∧ w'.cell? ⟨gb168, 22, none⟩ = some (.slice A0_22 l0_22.length c0_22) ∧ w'.cell? ⟨gb168, 23, none⟩ = some (.slice A0_23 l0_23.length c0_23) ∧ w'.cell? ⟨gb168, 24, none⟩ = some (.slice A0_24 l0_24.length c0_24) ∧ w'.cell? ⟨gb169, 0, none⟩ = some (.int .i64 a1_0) ∧ w'.cell? ⟨gb169, 1, none⟩ = some (.bool a1_1) ∧ w'.cell? ⟨gb169, 2, none⟩ = some (.bool a1_2) ∧ w'.cell? ⟨gb169, 3, none⟩ = some (.int .i64 a1_3) ∧ w'.cell? ⟨gb169, 4, none⟩ = some (.int .i64 a1_4) ∧ w'.cell? ⟨gb169, 5, none⟩ = some (.string a1_5) ∧ w'.cell? ⟨gb169, 6, none⟩ = some (.string a1_6) ∧ w'.cell? ⟨gb169, 7, none⟩ = some (.bool a1_7) ∧ w'.cell? ⟨gb169, 8, none⟩ = some (.int .i64 a1_8) ∧ w'.cell? ⟨gb169, 9, none⟩ = some (.string a1_9) ∧ w'.cell? ⟨gb169, 10, none⟩ = some (.bool a1_10) ∧ w'.cell? ⟨gb169, 11, none⟩ = some (.string a1_11) ∧ w'.cell? ⟨gb169, 12, none⟩ = some (.bool a1_12) ∧ w'.cell? ⟨gb169, 13, none⟩ = some (.string a1_13) ∧ w'.cell? ⟨gb169, 14, none⟩ = some (.bool a1_14) ∧ w'.cell? ⟨gb169, 15, none⟩ = some (.string a1_15) ∧ w'.cell? ⟨gb169, 16, none⟩ = some (.string a1_16) ∧ w'.cell? ⟨gb169, 17, none⟩ = some (.int .i64 a1_17) ∧ w'.cell? ⟨gb169, 18, none⟩ = some (.bool a1_18) ∧ w'.cell? ⟨gb169, 19, none⟩ = some (.slice A1_19 l1_19.length c1_19) ∧ w'.cell? ⟨gb169, 20, none⟩ = some (.bool a1_20) ∧ w'.cell? ⟨gb169, 21, none⟩ = some (.int .i64 a1_21) ∧ w'.cell? ⟨gb169, 22, none⟩ = some (.slice A1_22 l1_22.length c1_22) ∧ w'.cell? ⟨gb169, 23, none⟩ = some (.slice A1_23 l1_23.length c1_23) ∧ w'.cell? ⟨gb169, 24, none⟩ = some (.slice A1_24 l1_24.length c1_24)) (ds := []) #[false, false, false, false, false, false, false, false, false, false, false, false, false, false, false, false, false, false, false, false, false, false, false, false, false, false, false, false, false, false, false, false, false, false] (by kernel_rfl) rfl rfl ⟨(blk_cell BK168.out 0).trans rfl, (blk_cell BK168.out 1).trans rfl, (blk_cell BK168.out 2).trans rfl, (blk_cell BK168.out 3).trans rfl, (blk_cell BK168.out 4).trans rfl, (blk_cell BK168.out 5).trans rfl, (blk_cell BK168.out 6).trans rfl, (blk_cell BK168.out 7).trans rfl, (blk_cell BK168.out 8).trans rfl, (blk_cell BK168.out 9).trans rfl, (blk_cell BK168.out 10).trans rfl, (blk_cell BK168.out 11).trans rfl, (blk_cell BK168.out 12).trans rfl, (blk_cell BK168.out 13).trans rfl, (blk_cell BK168.out 14).trans rfl, (blk_cell BK168.out 15).trans rfl, (blk_cell BK168.out 16).trans rfl, (blk_cell BK168.out 17).trans rfl, (blk_cell BK168.out 18).trans rfl, (blk_cell BK168.out 19).trans rfl, (blk_cell BK168.out 20).trans rfl, (blk_cell BK168.out 21).trans rfl, (blk_cell BK168.out 22).trans rfl, (blk_cell BK168.out 23).trans rfl, (blk_cell BK168.out 24).trans rfl, (blk_cell BK169.out 0).trans rfl, (blk_cell BK169.out 1).trans rfl, (blk_cell BK169.out 2).trans rfl, (blk_cell BK169.out 3).trans rfl, (blk_cell BK169.out 4).trans rfl, (blk_cell BK169.out 5).trans rfl, (blk_cell BK169.out 6).trans rfl, (blk_cell BK169.out 7).trans rfl, (blk_cell BK169.out 8).trans rfl, (blk_cell BK169.out 9).trans rfl, (blk_cell BK169.out 10).trans rfl, (blk_cell BK169.out 11).trans rfl, (blk_cell BK169.out 12).trans rfl, (blk_cell BK169.out 13).trans rfl, (blk_cell BK169.out 14).trans rfl, (blk_cell BK169.out 15).trans rfl, (blk_cell BK169.out 16).trans rfl, (blk_cell BK169.out 17).trans rfl, (blk_cell BK169.out 18).trans rfl, (blk_cell BK169.out 19).trans rfl, (blk_cell BK169.out 20).trans rfl, (blk_cell BK169.out 21).trans rfl, (blk_cell BK169.out 22).trans rfl, (blk_cell BK169.out 23).trans rfl, (blk_cell BK169.out 24).trans rfl⟩ (fun hHeld => ?_); refine with_tabW head_Same.tab1 head_Same.bits1 (fun HT_ HW_ => ?_)
      generalize w35.drew = w36 at BK168 BK169 HB hHeld ⊢
      refine take_ (i := 0) (N := some 5) (v := ?_) (a' := ?_) #[true, false, false, false, false, false, false, false, false, false, false, false, false, false, false, false, false, false, false, false, false, false, false, false, false, false, false, false, false, false, false, false, false, false] rfl rfl (take_ofW HT_.out HW_.out (by kernel_rfl)) (fun _ _ _ h => h) (Or.inl ⟨by rfl, ?_⟩) hHeld ?_ ?_
      rotate_left
      · rintro w' ⟨s0, s1, s2, s3, s4, s5, s6, s7, s8, s9, s10, s11, s12, s13, s14, s15, s16, s17, s18, s19, s20, s21, s22, s23, s24, s25, s26, s27, s28, s29, s30, s31, s32, s33, s34, s35, s36, s37, s38, s39, s40, s41, s42, s43, s44, s45, s46, s47, s48, s49⟩
        first | (refine Eq.trans (head_Same.gx _ (by exact rfl) _ (by exact rfl) _ _ (by repeat (first | (apply head_Same.gxs; · assumption) | exact head_Same.gxn)) Try.underlying48 rfl (by kernel_rfl)) ?_; with_reducible rfl) | (go_simp; with_reducible rfl)
      rotate_left
      · simp only [Act.put, List.setIfInBounds_toArray, List.set_cons_zero, List.set_cons_succ, i64_w, i32_w]
        rfl
      refine take_ (i := 2) (N := some 7) (v := ?_) (a' := ?_) #[true, false, true, false, false, false, false, false, false, false, false, false, false, false, false, false, false, false, false, false, false, false, false, false, false, false, false, false, false, false, false, false, false, false] rfl rfl (take_ofW HT_.out HW_.out (by kernel_rfl)) (fun _ _ _ h => h) (Or.inl ⟨by rfl, ?_⟩) hHeld ?_ ?_
      rotate_left
      · rintro w' ⟨s0, s1, s2, s3, s4, s5, s6, s7, s8, s9, s10, s11, s12, s13, s14, s15, s16, s17, s18, s19, s20, s21, s22, s23, s24, s25, s26, s27, s28, s29, s30, s31, s32, s33, s34, s35, s36, s37, s38, s39, s40, s41, s42, s43, s44, s45, s46, s47, s48, s49⟩
        first | (refine Eq.trans (head_Same.gx _ (by exact rfl) _ (by exact rfl) _ _ (by repeat (first | (apply head_Same.gxs; · assumption) | exact head_Same.gxn)) Try.underlying48 rfl (by kernel_rfl)) ?_; with_reducible rfl) | (go_simp; with_reducible rfl)
      rotate_left
      · simp only [Act.put, List.setIfInBounds_toArray, List.set_cons_zero, List.set_cons_succ, i64_w, i32_w]
        rfl
      refine one_ (i := 1) (N := some 6) #[true, true, true, false, false, false, false, false, false, false, false, false, false, false, false, false, false, false, false, false, false, false, false, false, false, false, false, false, false, false, false, false, false, false] rfl rfl (one_of HT_.out (by kernel_rfl)) (by decide) (fun K hK => ?_)
      refine goes_ Try.func83 (by kernel_rfl) rfl #[.agg #[.int .i64 a0_0, .bool a0_1, .bool a0_2, .int .i64 a0_3, .int .i64 a0_4, .string a0_5, .string a0_6, .bool a0_7, .int .i64 a0_8, .string a0_9, .bool a0_10, .string a0_11, .bool a0_12, .string a0_13, .bool a0_14, .string a0_15, .string a0_16, .int .i64 a0_17, .bool a0_18, .slice A0_19 l0_19.length c0_19, .bool a0_20, .int .i64 a0_21, .slice A0_22 l0_22.length c0_22, .slice A0_23 l0_23.length c0_23, .slice A0_24 l0_24.length c0_24]] (by rfl) rfl rfl (by (try simp only [List.map_toArray, List.map_cons, List.map_nil]); first | done | rfl | (simp only [List.length_drop, List.length_take]; rfl)) ?_
      with_reducible refine (head_strip.calls a0_0 a0_1 a0_2 a0_3 a0_4 a0_5 a0_6 a0_7 a0_8 a0_9 a0_10 a0_11 a0_12 a0_13 a0_14 a0_15 a0_16 a0_17 a0_18 _ _ l0_19 a0_20 a0_21 _ _ l0_22 _ _ l0_23 _ _ l0_24 t170 t171 t172 t173 t174 t175 t176 t177 t178 t179 t180 t181 t182 t183 t184 t185 t186 _ ?side1 ?side2 ?side3 ?side4 ?side5 ?side6 ?side7 ?side8 A3.out).mono ?_
      (case side1 => repeat (first | exact (Kd.C_below HR0_19.out HB.out) | (with_reducible refine Kd.C_alloc ?_ _) | (with_reducible refine Kd.C_drewN ?_ _) | (with_reducible refine Kd.C_drew ?_)))
      (case side2 => exact HC0_19.out)
      (case side3 => repeat (first | exact (Kd.C_below HR0_22.out HB.out) | (with_reducible refine Kd.C_alloc ?_ _) | (with_reducible refine Kd.C_drewN ?_ _) | (with_reducible refine Kd.C_drew ?_)))
      (case side4 => exact HC0_22.out)
      (case side5 => repeat (first | exact (Kd.C_below HR0_23.out HB.out) | (with_reducible refine Kd.C_alloc ?_ _) | (with_reducible refine Kd.C_drewN ?_ _) | (with_reducible refine Kd.C_drew ?_)))
      (case side6 => exact HC0_23.out)
      (case side7 => repeat (first | exact (Kd.C_below HR0_24.out HB.out) | (with_reducible refine Kd.C_alloc ?_ _) | (with_reducible refine Kd.C_drewN ?_ _) | (with_reducible refine Kd.C_drew ?_)))
      (case side8 => exact HC0_24.out)
      rintro e w37 ⟨rfl, hb⟩
      refine ⟨_, rfl, ?_⟩
      have n0_ := Aside0.mk (blk_below (g := gb168) (o := .cells #[.int .i64 a0_0, .bool a0_1, .bool a0_2, .int .i64 a0_3, .int .i64 a0_4, .string a0_5, .string a0_6, .bool a0_7, .int .i64 a0_8, .string a0_9, .bool a0_10, .string a0_11, .bool a0_12, .string a0_13, .bool a0_14, .string a0_15, .string a0_16, .int .i64 a0_17, .bool a0_18, .slice A0_19 l0_19.length c0_19, .bool a0_20, .int .i64 a0_21, .slice A0_22 l0_22.length c0_22, .slice A0_23 l0_23.length c0_23, .slice A0_24 l0_24.length c0_24] 48 (0, 0)) (by (with_reducible repeat (first | refine blk_drewN ?_ _ | refine blk_drew ?_ | refine blk_alloc ?_ _)); exact BK168.out) hb)
      have n1_ := Aside0.mk (blk_below (g := gb169) (o := .cells #[.int .i64 a1_0, .bool a1_1, .bool a1_2, .int .i64 a1_3, .int .i64 a1_4, .string a1_5, .string a1_6, .bool a1_7, .int .i64 a1_8, .string a1_9, .bool a1_10, .string a1_11, .bool a1_12, .string a1_13, .bool a1_14, .string a1_15, .string a1_16, .int .i64 a1_17, .bool a1_18, .slice A1_19 l1_19.length c1_19, .bool a1_20, .int .i64 a1_21, .slice A1_22 l1_22.length c1_22, .slice A1_23 l1_23.length c1_23, .slice A1_24 l1_24.length c1_24] 48 (0, 0)) (by (with_reducible repeat (first | refine blk_drewN ?_ _ | refine blk_drew ?_ | refine blk_alloc ?_ _)); exact BK169.out) hb)
      have n2_ := Aside0.mk (below_step (by repeat (first | (with_reducible first | exact HB.out | apply below_alloc | apply pw_below_drewN | apply below_drew1 | refine below_set ?_ GE168.out | refine below_set ?_ GE169.out) | exact HB.out)) hb)
      clear BK168
      clear BK169
      clear HB
      have BK168 := n0_
      have BK169 := n1_
      have HB := n2_
      clear n0_ n1_ n2_
      (try clear hb)
      (try clear hb2)
      (try clear hk)
      (try clear hi)
      refine hK.out _ _ ⟨(blk_cell BK168.out 0).trans rfl, (blk_cell BK168.out 1).trans rfl, (blk_cell BK168.out 2).trans rfl, (blk_cell BK168.out 3).trans rfl, (blk_cell BK168.out 4).trans rfl, (blk_cell BK168.out 5).trans rfl, (blk_cell BK168.out 6).trans rfl, (blk_cell BK168.out 7).trans rfl, (blk_cell BK168.out 8).trans rfl, (blk_cell BK168.out 9).trans rfl, (blk_cell BK168.out 10).trans rfl, (blk_cell BK168.out 11).trans rfl, (blk_cell BK168.out 12).trans rfl, (blk_cell BK168.out 13).trans rfl, (blk_cell BK168.out 14).trans rfl, (blk_cell BK168.out 15).trans rfl, (blk_cell BK168.out 16).trans rfl, (blk_cell BK168.out 17).trans rfl, (blk_cell BK168.out 18).trans rfl, (blk_cell BK168.out 19).trans rfl, (blk_cell BK168.out 20).trans rfl, (blk_cell BK168.out 21).trans rfl, (blk_cell BK168.out 22).trans rfl, (blk_cell BK168.out 23).trans rfl, (blk_cell BK168.out 24).trans rfl, (blk_cell BK169.out 0).trans rfl, (blk_cell BK169.out 1).trans rfl, (blk_cell BK169.out 2).trans rfl, (blk_cell BK169.out 3).trans rfl, (blk_cell BK169.out 4).trans rfl, (blk_cell BK169.out 5).trans rfl, (blk_cell BK169.out 6).trans rfl, (blk_cell BK169.out 7).trans rfl, (blk_cell BK169.out 8).trans rfl, (blk_cell BK169.out 9).trans rfl, (blk_cell BK169.out 10).trans rfl, (blk_cell BK169.out 11).trans rfl, (blk_cell BK169.out 12).trans rfl, (blk_cell BK169.out 13).trans rfl, (blk_cell BK169.out 14).trans rfl, (blk_cell BK169.out 15).trans rfl, (blk_cell BK169.out 16).trans rfl, (blk_cell BK169.out 17).trans rfl, (blk_cell BK169.out 18).trans rfl, (blk_cell BK169.out 19).trans rfl, (blk_cell BK169.out 20).trans rfl, (blk_cell BK169.out 21).trans rfl, (blk_cell BK169.out 22).trans rfl, (blk_cell BK169.out 23).trans rfl, (blk_cell BK169.out 24).trans rfl⟩ (fun hHeld => ?_)
      clear hK K
      refine norm_ (a' := ?_) ?_ ?_
      rotate_left
      · show Act.put _ (some 6) _ = _
        simp only [Act.put, List.setIfInBounds_toArray, List.set_cons_zero, List.set_cons_succ, i64_w, i32_w]
        rfl
      refine one_ (i := 3) (N := some 8) #[true, true, true, true, false, false, false, false, false, false, false, false, false, false, false, false, false, false, false, false, false, false, false, false, false, false, false, false, false, false, false, false, false, false] rfl rfl (one_of HT_.out (by kernel_rfl)) (by decide) (fun K hK => ?_)
      refine goes_ Try.func83 (by kernel_rfl) rfl #[.agg #[.int .i64 a1_0, .bool a1_1, .bool a1_2, .int .i64 a1_3, .int .i64 a1_4, .string a1_5, .string a1_6, .bool a1_7, .int .i64 a1_8, .string a1_9, .bool a1_10, .string a1_11, .bool a1_12, .string a1_13, .bool a1_14, .string a1_15, .string a1_16, .int .i64 a1_17, .bool a1_18, .slice A1_19 l1_19.length c1_19, .bool a1_20, .int .i64 a1_21, .slice A1_22 l1_22.length c1_22, .slice A1_23 l1_23.length c1_23, .slice A1_24 l1_24.length c1_24]] (by rfl) rfl rfl (by (try simp only [List.map_toArray, List.map_cons, List.map_nil]); first | done | rfl | (simp only [List.length_drop, List.length_take]; rfl)) ?_
      with_reducible refine (head_strip.calls a1_0 a1_1 a1_2 a1_3 a1_4 a1_5 a1_6 a1_7 a1_8 a1_9 a1_10 a1_11 a1_12 a1_13 a1_14 a1_15 a1_16 a1_17 a1_18 _ _ l1_19 a1_20 a1_21 _ _ l1_22 _ _ l1_23 _ _ l1_24 t187 t188 t189 t190 t191 t192 t193 t194 t195 t196 t197 t198 t199 t200 t201 t202 t203 _ ?side1 ?side2 ?side3 ?side4 ?side5 ?side6 ?side7 ?side8 A4.out).mono ?_
      (case side1 => repeat (first | exact (Kd.C_below HR1_19.out HB.out) | (with_reducible refine Kd.C_alloc ?_ _) | (with_reducible refine Kd.C_drewN ?_ _) | (with_reducible refine Kd.C_drew ?_)))
      (case side2 => exact HC1_19.out)
      (case side3 => repeat (first | exact (Kd.C_below HR1_22.out HB.out) | (with_reducible refine Kd.C_alloc ?_ _) | (with_reducible refine Kd.C_drewN ?_ _) | (with_reducible refine Kd.C_drew ?_)))
      (case side4 => exact HC1_22.out)
      (case side5 => repeat (first | exact (Kd.C_below HR1_23.out HB.out) | (with_reducible refine Kd.C_alloc ?_ _) | (with_reducible refine Kd.C_drewN ?_ _) | (with_reducible refine Kd.C_drew ?_)))
      (case side6 => exact HC1_23.out)
      (case side7 => repeat (first | exact (Kd.C_below HR1_24.out HB.out) | (with_reducible refine Kd.C_alloc ?_ _) | (with_reducible refine Kd.C_drewN ?_ _) | (with_reducible refine Kd.C_drew ?_)))
      (case side8 => exact HC1_24.out)
      rintro e w38 ⟨rfl, hb⟩
      refine ⟨_, rfl, ?_⟩
      have n0_ := Aside0.mk (blk_below (g := gb168) (o := .cells #[.int .i64 a0_0, .bool a0_1, .bool a0_2, .int .i64 a0_3, .int .i64 a0_4, .string a0_5, .string a0_6, .bool a0_7, .int .i64 a0_8, .string a0_9, .bool a0_10, .string a0_11, .bool a0_12, .string a0_13, .bool a0_14, .string a0_15, .string a0_16, .int .i64 a0_17, .bool a0_18, .slice A0_19 l0_19.length c0_19, .bool a0_20, .int .i64 a0_21, .slice A0_22 l0_22.length c0_22, .slice A0_23 l0_23.length c0_23, .slice A0_24 l0_24.length c0_24] 48 (0, 0)) (by (with_reducible repeat (first | refine blk_drewN ?_ _ | refine blk_drew ?_ | refine blk_alloc ?_ _)); exact BK168.out) hb)
      have n1_ := Aside0.mk (blk_below (g := gb169) (o := .cells #[.int .i64 a1_0, .bool a1_1, .bool a1_2, .int .i64 a1_3, .int .i64 a1_4, .string a1_5, .string a1_6, .bool a1_7, .int .i64 a1_8, .string a1_9, .bool a1_10, .string a1_11, .bool a1_12, .string a1_13, .bool a1_14, .string a1_15, .string a1_16, .int .i64 a1_17, .bool a1_18, .slice A1_19 l1_19.length c1_19, .bool a1_20, .int .i64 a1_21, .slice A1_22 l1_22.length c1_22, .slice A1_23 l1_23.length c1_23, .slice A1_24 l1_24.length c1_24] 48 (0, 0)) (by (with_reducible repeat (first | refine blk_drewN ?_ _ | refine blk_drew ?_ | refine blk_alloc ?_ _)); exact BK169.out) hb)
      have n2_ := Aside0.mk (below_step (by repeat (first | (with_reducible first | exact HB.out | apply below_alloc | apply pw_below_drewN | apply below_drew1 | refine below_set ?_ GE168.out | refine below_set ?_ GE169.out) | exact HB.out)) hb)
      clear BK168
      clear BK169
      clear HB
      have BK168 := n0_
      have BK169 := n1_
      have HB := n2_
      clear n0_ n1_ n2_
      (try clear hb)
      (try clear hb2)
      (try clear hk)
      (try clear hi)
      refine hK.out _ _ ⟨(blk_cell BK168.out 0).trans rfl, (blk_cell BK168.out 1).trans rfl, (blk_cell BK168.out 2).trans rfl, (blk_cell BK168.out 3).trans rfl, (blk_cell BK168.out 4).trans rfl, (blk_cell BK168.out 5).trans rfl, (blk_cell BK168.out 6).trans rfl, (blk_cell BK168.out 7).trans rfl, (blk_cell BK168.out 8).trans rfl, (blk_cell BK168.out 9).trans rfl, (blk_cell BK168.out 10).trans rfl, (blk_cell BK168.out 11).trans rfl, (blk_cell BK168.out 12).trans rfl, (blk_cell BK168.out 13).trans rfl, (blk_cell BK168.out 14).trans rfl, (blk_cell BK168.out 15).trans rfl, (blk_cell BK168.out 16).trans rfl, (blk_cell BK168.out 17).trans rfl, (blk_cell BK168.out 18).trans rfl, (blk_cell BK168.out 19).trans rfl, (blk_cell BK168.out 20).trans rfl, (blk_cell BK168.out 21).trans rfl, (blk_cell BK168.out 22).trans rfl, (blk_cell BK168.out 23).trans rfl, (blk_cell BK168.out 24).trans rfl, (blk_cell BK169.out 0).trans rfl, (blk_cell BK169.out 1).trans rfl, (blk_cell BK169.out 2).trans rfl, (blk_cell BK169.out 3).trans rfl, (blk_cell BK169.out 4).trans rfl, (blk_cell BK169.out 5).trans rfl, (blk_cell BK169.out 6).trans rfl, (blk_cell BK169.out 7).trans rfl, (blk_cell BK169.out 8).trans rfl, (blk_cell BK169.out 9).trans rfl, (blk_cell BK169.out 10).trans rfl, (blk_cell BK169.out 11).trans rfl, (blk_cell BK169.out 12).trans rfl, (blk_cell BK169.out 13).trans rfl, (blk_cell BK169.out 14).trans rfl, (blk_cell BK169.out 15).trans rfl, (blk_cell BK169.out 16).trans rfl, (blk_cell BK169.out 17).trans rfl, (blk_cell BK169.out 18).trans rfl, (blk_cell BK169.out 19).trans rfl, (blk_cell BK169.out 20).trans rfl, (blk_cell BK169.out 21).trans rfl, (blk_cell BK169.out 22).trans rfl, (blk_cell BK169.out 23).trans rfl, (blk_cell BK169.out 24).trans rfl⟩ (fun hHeld => ?_)
      clear hK K
      refine norm_ (a' := ?_) ?_ ?_
      rotate_left
      · show Act.put _ (some 8) _ = _
        simp only [Act.put, List.setIfInBounds_toArray, List.set_cons_zero, List.set_cons_succ, i64_w, i32_w]
        rfl
      refine pure_ (i := 4) (N := some 9) (v := ?_) (a' := ?_) #[true, true, true, true, true, false, false, false, false, false, false, false, false, false, false, false, false, false, false, false, false, false, false, false, false, false, false, false, false, false, false, false, false, false] rfl rfl (any_of HT_.out (by kernel_rfl)) (fun _ _ _ h => h) (Or.inl ⟨by rfl, ?_⟩) ?_ ?_
      rotate_left
      · intro w'
        go_simp
        with_reducible rfl
      rotate_left
      · simp only [Act.put, List.setIfInBounds_toArray, List.set_cons_zero, List.set_cons_succ, i64_w, i32_w]
        rfl
      refine pure_ (i := 5) (N := some 10) (v := ?_) (a' := ?_) #[true, true, true, true, true, true, false, false, false, false, false, false, false, false, false, false, false, false, false, false, false, false, false, false, false, false, false, false, false, false, false, false, false, false] rfl rfl (any_of HT_.out (by kernel_rfl)) (fun _ _ _ h => h) (Or.inl ⟨by rfl, ?_⟩) ?_ ?_
      rotate_left
      · intro w'
        go_simp
        with_reducible rfl
      rotate_left
      · simp only [Act.put, List.setIfInBounds_toArray, List.set_cons_zero, List.set_cons_succ, i64_w, i32_w]
        rfl
      refine pure_ (i := 6) (N := some 11) (v := ?_) (a' := ?_) #[true, true, true, true, true, true, true, false, false, false, false, false, false, false, false, false, false, false, false, false, false, false, false, false, false, false, false, false, false, false, false, false, false, false] rfl rfl (any_of HT_.out (by kernel_rfl)) (fun _ _ _ h => h) (Or.inl ⟨by rfl, ?_⟩) ?_ ?_
      rotate_left
      · intro w'
        go_simp
        with_reducible rfl
      rotate_left
      · simp only [Act.put, List.setIfInBounds_toArray, List.set_cons_zero, List.set_cons_succ, i64_w, i32_w]
        rfl
      refine pure_ (i := 8) (N := some 13) (v := ?_) (a' := ?_) #[true, true, true, true, true, true, true, false, true, false, false, false, false, false, false, false, false, false, false, false, false, false, false, false, false, false, false, false, false, false, false, false, false, false] rfl rfl (any_of HT_.out (by kernel_rfl)) (fun _ _ _ h => h) (Or.inl ⟨by rfl, ?_⟩) ?_ ?_
      rotate_left
      · intro w'
        go_simp
        with_reducible rfl
      rotate_left
      · simp only [Act.put, List.setIfInBounds_toArray, List.set_cons_zero, List.set_cons_succ, i64_w, i32_w]
        rfl
      refine take_ (i := 7) (N := some 12) (v := ?_) (a' := ?_) #[true, true, true, true, true, true, true, true, true, false, false, false, false, false, false, false, false, false, false, false, false, false, false, false, false, false, false, false, false, false, false, false, false, false] rfl rfl (take_ofW HT_.out HW_.out (by kernel_rfl)) (fun _ _ _ h => h) (Or.inl ⟨by rfl, ?_⟩) hHeld ?_ ?_
      rotate_left
      · rintro w' ⟨s0, s1, s2, s3, s4, s5, s6, s7, s8, s9, s10, s11, s12, s13, s14, s15, s16, s17, s18, s19, s20, s21, s22, s23, s24, s25, s26, s27, s28, s29, s30, s31, s32, s33, s34, s35, s36, s37, s38, s39, s40, s41, s42, s43, s44, s45, s46, s47, s48, s49⟩
        first | (refine Eq.trans (head_Same.gx _ (by exact rfl) _ (by exact rfl) _ _ (by repeat (first | (apply head_Same.gxs; · assumption) | exact head_Same.gxn)) Try.underlying48 rfl (by kernel_rfl)) ?_; with_reducible rfl) | (go_simp; with_reducible rfl)
      rotate_left
      · simp only [Act.put, List.setIfInBounds_toArray, List.set_cons_zero, List.set_cons_succ, i64_w, i32_w]
        rfl
      refine take_ (i := 9) (N := some 14) (v := ?_) (a' := ?_) #[true, true, true, true, true, true, true, true, true, true, false, false, false, false, false, false, false, false, false, false, false, false, false, false, false, false, false, false, false, false, false, false, false, false] rfl rfl (take_ofW HT_.out HW_.out (by kernel_rfl)) (fun _ _ _ h => h) (Or.inl ⟨by rfl, ?_⟩) hHeld ?_ ?_
      rotate_left
      · rintro w' ⟨s0, s1, s2, s3, s4, s5, s6, s7, s8, s9, s10, s11, s12, s13, s14, s15, s16, s17, s18, s19, s20, s21, s22, s23, s24, s25, s26, s27, s28, s29, s30, s31, s32, s33, s34, s35, s36, s37, s38, s39, s40, s41, s42, s43, s44, s45, s46, s47, s48, s49⟩
        first | (refine Eq.trans (head_Same.gx _ (by exact rfl) _ (by exact rfl) _ _ (by repeat (first | (apply head_Same.gxs; · assumption) | exact head_Same.gxn)) Try.underlying48 rfl (by kernel_rfl)) ?_; with_reducible rfl) | (go_simp; with_reducible rfl)
      rotate_left
      · simp only [Act.put, List.setIfInBounds_toArray, List.set_cons_zero, List.set_cons_succ, i64_w, i32_w]
        rfl
      refine one_ (i := 10) (N := some 15) #[true, true, true, true, true, true, true, true, true, true, true, false, false, false, false, false, false, false, false, false, false, false, false, false, false, false, false, false, false, false, false, false, false, false] rfl rfl (one_of HT_.out (by kernel_rfl)) (by decide) (fun K hK => ?_)
      refine goes_ Try.func84 (by kernel_rfl) rfl #[.agg #[.string a0_15, .string a0_16, .int .i64 a0_17, .bool a0_18, .slice A0_19 l0_19.length c0_19], .agg #[.string a1_15, .string a1_16, .int .i64 a1_17, .bool a1_18, .slice A1_19 l1_19.length c1_19]] (by rfl) rfl rfl (by (try simp only [List.map_toArray, List.map_cons, List.map_nil]); first | done | rfl | (simp only [List.length_drop, List.length_take]; rfl)) ?_
      with_reducible refine (head_sameWill.calls k a0_15 a0_16 a0_17 a0_18 _ _ l0_19 a1_15 a1_16 a1_17 a1_18 _ _ l1_19 false _ ?side1 ?side2 ?side3 ?side4 A6.out).mono ?_
      (case side1 => repeat (first | exact (Kd.C_below HR0_19.out HB.out) | (with_reducible refine Kd.C_alloc ?_ _) | (with_reducible refine Kd.C_drewN ?_ _) | (with_reducible refine Kd.C_drew ?_)))
      (case side2 => exact HC0_19.out)
      (case side3 => repeat (first | exact (Kd.C_below HR1_19.out HB.out) | (with_reducible refine Kd.C_alloc ?_ _) | (with_reducible refine Kd.C_drewN ?_ _) | (with_reducible refine Kd.C_drew ?_)))
      (case side4 => exact HC1_19.out)
      rintro e w39 ⟨rfl, hb⟩
      refine ⟨_, rfl, ?_⟩
      have n0_ := Aside0.mk (blk_below (g := gb168) (o := .cells #[.int .i64 a0_0, .bool a0_1, .bool a0_2, .int .i64 a0_3, .int .i64 a0_4, .string a0_5, .string a0_6, .bool a0_7, .int .i64 a0_8, .string a0_9, .bool a0_10, .string a0_11, .bool a0_12, .string a0_13, .bool a0_14, .string a0_15, .string a0_16, .int .i64 a0_17, .bool a0_18, .slice A0_19 l0_19.length c0_19, .bool a0_20, .int .i64 a0_21, .slice A0_22 l0_22.length c0_22, .slice A0_23 l0_23.length c0_23, .slice A0_24 l0_24.length c0_24] 48 (0, 0)) (by (with_reducible repeat (first | refine blk_drewN ?_ _ | refine blk_drew ?_ | refine blk_alloc ?_ _)); exact BK168.out) hb)
      have n1_ := Aside0.mk (blk_below (g := gb169) (o := .cells #[.int .i64 a1_0, .bool a1_1, .bool a1_2, .int .i64 a1_3, .int .i64 a1_4, .string a1_5, .string a1_6, .bool a1_7, .int .i64 a1_8, .string a1_9, .bool a1_10, .string a1_11, .bool a1_12, .string a1_13, .bool a1_14, .string a1_15, .string a1_16, .int .i64 a1_17, .bool a1_18, .slice A1_19 l1_19.length c1_19, .bool a1_20, .int .i64 a1_21, .slice A1_22 l1_22.length c1_22, .slice A1_23 l1_23.length c1_23, .slice A1_24 l1_24.length c1_24] 48 (0, 0)) (by (with_reducible repeat (first | refine blk_drewN ?_ _ | refine blk_drew ?_ | refine blk_alloc ?_ _)); exact BK169.out) hb)
      have n2_ := Aside0.mk (below_step (by repeat (first | (with_reducible first | exact HB.out | apply below_alloc | apply pw_below_drewN | apply below_drew1 | refine below_set ?_ GE168.out | refine below_set ?_ GE169.out) | exact HB.out)) hb)
      clear BK168
      clear BK169
      clear HB
      have BK168 := n0_
      have BK169 := n1_
      have HB := n2_
      clear n0_ n1_ n2_
      (try clear hb)
      (try clear hb2)
      (try clear hk)
      (try clear hi)
      refine hK.out _ _ ⟨(blk_cell BK168.out 0).trans rfl, (blk_cell BK168.out 1).trans rfl, (blk_cell BK168.out 2).trans rfl, (blk_cell BK168.out 3).trans rfl, (blk_cell BK168.out 4).trans rfl, (blk_cell BK168.out 5).trans rfl, (blk_cell BK168.out 6).trans rfl, (blk_cell BK168.out 7).trans rfl, (blk_cell BK168.out 8).trans rfl, (blk_cell BK168.out 9).trans rfl, (blk_cell BK168.out 10).trans rfl, (blk_cell BK168.out 11).trans rfl, (blk_cell BK168.out 12).trans rfl, (blk_cell BK168.out 13).trans rfl, (blk_cell BK168.out 14).trans rfl, (blk_cell BK168.out 15).trans rfl, (blk_cell BK168.out 16).trans rfl, (blk_cell BK168.out 17).trans rfl, (blk_cell BK168.out 18).trans rfl, (blk_cell BK168.out 19).trans rfl, (blk_cell BK168.out 20).trans rfl, (blk_cell BK168.out 21).trans rfl, (blk_cell BK168.out 22).trans rfl, (blk_cell BK168.out 23).trans rfl, (blk_cell BK168.out 24).trans rfl, (blk_cell BK169.out 0).trans rfl, (blk_cell BK169.out 1).trans rfl, (blk_cell BK169.out 2).trans rfl, (blk_cell BK169.out 3).trans rfl, (blk_cell BK169.out 4).trans rfl, (blk_cell BK169.out 5).trans rfl, (blk_cell BK169.out 6).trans rfl, (blk_cell BK169.out 7).trans rfl, (blk_cell BK169.out 8).trans rfl, (blk_cell BK169.out 9).trans rfl, (blk_cell BK169.out 10).trans rfl, (blk_cell BK169.out 11).trans rfl, (blk_cell BK169.out 12).trans rfl, (blk_cell BK169.out 13).trans rfl, (blk_cell BK169.out 14).trans rfl, (blk_cell BK169.out 15).trans rfl, (blk_cell BK169.out 16).trans rfl, (blk_cell BK169.out 17).trans rfl, (blk_cell BK169.out 18).trans rfl, (blk_cell BK169.out 19).trans rfl, (blk_cell BK169.out 20).trans rfl, (blk_cell BK169.out 21).trans rfl, (blk_cell BK169.out 22).trans rfl, (blk_cell BK169.out 23).trans rfl, (blk_cell BK169.out 24).trans rfl⟩ (fun hHeld => ?_)
      clear hK K
      refine norm_ (a' := ?_) ?_ ?_
      rotate_left
      · show Act.put _ (some 15) _ = _
        simp only [Act.put, List.setIfInBounds_toArray, List.set_cons_zero, List.set_cons_succ, i64_w, i32_w]
        rfl
      refine pure_ (i := 11) (N := some 16) (v := ?_) (a' := ?_) #[true, true, true, true, true, true, true, true, true, true, true, true, false, false, false, false, false, false, false, false, false, false, false, false, false, false, false, false, false, false, false, false, false, false] rfl rfl (any_of HT_.out (by kernel_rfl)) (fun _ _ _ h => h) (Or.inl ⟨by rfl, ?_⟩) ?_ ?_
      rotate_left
      · intro w'
        go_simp
        with_reducible rfl
      rotate_left
      · simp only [Act.put, List.setIfInBounds_toArray, List.set_cons_zero, List.set_cons_succ, i64_w, i32_w]
        rfl
      refine pure_ (i := 12) (N := some 17) (v := ?_) (a' := ?_) #[true, true, true, true, true, true, true, true, true, true, true, true, true, false, false, false, false, false, false, false, false, false, false, false, false, false, false, false, false, false, false, false, false, false] rfl rfl (any_of HT_.out (by kernel_rfl)) (fun _ _ _ h => h) (Or.inl ⟨by rfl, ?_⟩) ?_ ?_
      rotate_left
      · intro w'
        go_simp
        with_reducible rfl
      rotate_left
      · simp only [Act.put, List.setIfInBounds_toArray, List.set_cons_zero, List.set_cons_succ, i64_w, i32_w]
        rfl
      refine pure_ (i := 13) (N := some 18) (v := undef) (a' := ?_) #[true, true, true, true, true, true, true, true, true, true, true, true, true, true, false, false, false, false, false, false, false, false, false, false, false, false, false, false, false, false, false, false, false, false] rfl rfl (any_of HT_.out (by kernel_rfl)) (fun _ _ _ h => h) (Or.inr ⟨by rfl, rfl⟩) ?_ ?_
      rotate_left
      · simp only [Act.put, List.setIfInBounds_toArray, List.set_cons_zero, List.set_cons_succ, i64_w, i32_w]
        rfl
      refine pure_ (i := 14) (N := some 19) (v := undef) (a' := ?_) #[true, true, true, true, true, true, true, true, true, true, true, true, true, true, true, false, false, false, false, false, false, false, false, false, false, false, false, false, false, false, false, false, false, false] rfl rfl (any_of HT_.out (by kernel_rfl)) (fun _ _ _ h => h) (Or.inr ⟨by rfl, rfl⟩) ?_ ?_
      rotate_left
      · simp only [Act.put, List.setIfInBounds_toArray, List.set_cons_zero, List.set_cons_succ, i64_w, i32_w]
        rfl
      refine pure_ (i := 15) (N := some 20) (v := undef) (a' := ?_) #[true, true, true, true, true, true, true, true, true, true, true, true, true, true, true, true, false, false, false, false, false, false, false, false, false, false, false, false, false, false, false, false, false, false] rfl rfl (any_of HT_.out (by kernel_rfl)) (fun _ _ _ h => h) (Or.inr ⟨by rfl, rfl⟩) ?_ ?_
      rotate_left
      · simp only [Act.put, List.setIfInBounds_toArray, List.set_cons_zero, List.set_cons_succ, i64_w, i32_w]
        rfl
      refine pure_ (i := 16) (N := some 21) (v := undef) (a' := ?_) #[true, true, true, true, true, true, true, true, true, true, true, true, true, true, true, true, true, false, false, false, false, false, false, false, false, false, false, false, false, false, false, false, false, false] rfl rfl (any_of HT_.out (by kernel_rfl)) (fun _ _ _ h => h) (Or.inr ⟨by rfl, rfl⟩) ?_ ?_
      rotate_left
      · simp only [Act.put, List.setIfInBounds_toArray, List.set_cons_zero, List.set_cons_succ, i64_w, i32_w]
        rfl
      refine pure_ (i := 17) (N := some 22) (v := undef) (a' := ?_) #[true, true, true, true, true, true, true, true, true, true, true, true, true, true, true, true, true, true, false, false, false, false, false, false, false, false, false, false, false, false, false, false, false, false] rfl rfl (any_of HT_.out (by kernel_rfl)) (fun _ _ _ h => h) (Or.inr ⟨by rfl, rfl⟩) ?_ ?_
      rotate_left
      · simp only [Act.put, List.setIfInBounds_toArray, List.set_cons_zero, List.set_cons_succ, i64_w, i32_w]
        rfl
      refine pure_ (i := 18) (N := some 23) (v := ?_) (a' := ?_) #[true, true, true, true, true, true, true, true, true, true, true, true, true, true, true, true, true, true, true, false, false, false, false, false, false, false, false, false, false, false, false, false, false, false] rfl rfl (any_of HT_.out (by kernel_rfl)) (fun _ _ _ h => h) (Or.inl ⟨by rfl, ?_⟩) ?_ ?_
      rotate_left
      · intro w'
        go_simp
        with_reducible rfl
      rotate_left
      · simp only [Act.put, List.setIfInBounds_toArray, List.set_cons_zero, List.set_cons_succ, i64_w, i32_w]
        rfl
      refine pure_ (i := 19) (N := some 24) (v := ?_) (a' := ?_) #[true, true, true, true, true, true, true, true, true, true, true, true, true, true, true, true, true, true, true, true, false, false, false, false, false, false, false, false, false, false, false, false, false, false] rfl rfl (any_of HT_.out (by kernel_rfl)) (fun _ _ _ h => h) (Or.inl ⟨by rfl, ?_⟩) ?_ ?_
      rotate_left
      · intro w'
        go_simp
        with_reducible rfl
      rotate_left
      · simp only [Act.put, List.setIfInBounds_toArray, List.set_cons_zero, List.set_cons_succ, i64_w, i32_w]
        rfl
      refine pure_ (i := 20) (N := some 25) (v := undef) (a' := ?_) #[true, true, true, true, true, true, true, true, true, true, true, true, true, true, true, true, true, true, true, true, true, false, false, false, false, false, false, false, false, false, false, false, false, false] rfl rfl (any_of HT_.out (by kernel_rfl)) (fun _ _ _ h => h) (Or.inr ⟨by rfl, rfl⟩) ?_ ?_
      rotate_left
      · simp only [Act.put, List.setIfInBounds_toArray, List.set_cons_zero, List.set_cons_succ, i64_w, i32_w]
        rfl
      refine pure_ (i := 21) (N := some 26) (v := undef) (a' := ?_) #[true, true, true, true, true, true, true, true, true, true, true, true, true, true, true, true, true, true, true, true, true, true, false, false, false, false, false, false, false, false, false, false, false, false] rfl rfl (any_of HT_.out (by kernel_rfl)) (fun _ _ _ h => h) (Or.inr ⟨by rfl, rfl⟩) ?_ ?_
      rotate_left
      · simp only [Act.put, List.setIfInBounds_toArray, List.set_cons_zero, List.set_cons_succ, i64_w, i32_w]
        rfl
      refine pure_ (i := 22) (N := some 27) (v := undef) (a' := ?_) #[true, true, true, true, true, true, true, true, true, true, true, true, true, true, true, true, true, true, true, true, true, true, true, false, false, false, false, false, false, false, false, false, false, false] rfl rfl (any_of HT_.out (by kernel_rfl)) (fun _ _ _ h => h) (Or.inr ⟨by rfl, rfl⟩) ?_ ?_
      rotate_left
      · simp only [Act.put, List.setIfInBounds_toArray, List.set_cons_zero, List.set_cons_succ, i64_w, i32_w]
        rfl
      refine pure_ (i := 23) (N := some 28) (v := undef) (a' := ?_) #[true, true, true, true, true, true, true, true, true, true, true, true, true, true, true, true, true, true, true, true, true, true, true, true, false, false, false, false, false, false, false, false, false, false] rfl rfl (any_of HT_.out (by kernel_rfl)) (fun _ _ _ h => h) (Or.inr ⟨by rfl, rfl⟩) ?_ ?_
      rotate_left
      · simp only [Act.put, List.setIfInBounds_toArray, List.set_cons_zero, List.set_cons_succ, i64_w, i32_w]
        rfl
      refine pure_ (i := 24) (N := some 29) (v := undef) (a' := ?_) #[true, true, true, true, true, true, true, true, true, true, true, true, true, true, true, true, true, true, true, true, true, true, true, true, true, false, false, false, false, false, false, false, false, false] rfl rfl (any_of HT_.out (by kernel_rfl)) (fun _ _ _ h => h) (Or.inr ⟨by rfl, rfl⟩) ?_ ?_
      rotate_left
      · simp only [Act.put, List.setIfInBounds_toArray, List.set_cons_zero, List.set_cons_succ, i64_w, i32_w]
        rfl
      refine pure_ (i := 25) (N := some 30) (v := ?_) (a' := ?_) #[true, true, true, true, true, true, true, true, true, true, true, true, true, true, true, true, true, true, true, true, true, true, true, true, true, true, false, false, false, false, false, false, false, false] rfl rfl (any_of HT_.out (by kernel_rfl)) (fun _ _ _ h => h) (Or.inl ⟨by rfl, ?_⟩) ?_ ?_
      rotate_left
      · intro w'
        go_simp
        with_reducible rfl
      rotate_left
      · simp only [Act.put, List.setIfInBounds_toArray, List.set_cons_zero, List.set_cons_succ, i64_w, i32_w]
        rfl
      refine pure_ (i := 26) (N := some 31) (v := ?_) (a' := ?_) #[true, true, true, true, true, true, true, true, true, true, true, true, true, true, true, true, true, true, true, true, true, true, true, true, true, true, true, false, false, false, false, false, false, false] rfl rfl (any_of HT_.out (by kernel_rfl)) (fun _ _ _ h => h) (Or.inl ⟨by rfl, ?_⟩) ?_ ?_
      rotate_left
      · intro w'
        go_simp
        with_reducible rfl
      rotate_left
      · simp only [Act.put, List.setIfInBounds_toArray, List.set_cons_zero, List.set_cons_succ, i64_w, i32_w]
        rfl
      refine pure_ (i := 27) (N := some 32) (v := undef) (a' := ?_) #[true, true, true, true, true, true, true, true, true, true, true, true, true, true, true, true, true, true, true, true, true, true, true, true, true, true, true, true, false, false, false, false, false, false] rfl rfl (any_of HT_.out (by kernel_rfl)) (fun _ _ _ h => h) (Or.inr ⟨by rfl, rfl⟩) ?_ ?_
      rotate_left
      · simp only [Act.put, List.setIfInBounds_toArray, List.set_cons_zero, List.set_cons_succ, i64_w, i32_w]
        rfl
      refine pure_ (i := 28) (N := some 33) (v := undef) (a' := ?_) #[true, true, true, true, true, true, true, true, true, true, true, true, true, true, true, true, true, true, true, true, true, true, true, true, true, true, true, true, true, false, false, false, false, false] rfl rfl (any_of HT_.out (by kernel_rfl)) (fun _ _ _ h => h) (Or.inr ⟨by rfl, rfl⟩) ?_ ?_
      rotate_left
      · simp only [Act.put, List.setIfInBounds_toArray, List.set_cons_zero, List.set_cons_succ, i64_w, i32_w]
        rfl
      refine pure_ (i := 29) (N := some 34) (v := undef) (a' := ?_) #[true, true, true, true, true, true, true, true, true, true, true, true, true, true, true, true, true, true, true, true, true, true, true, true, true, true, true, true, true, true, false, false, false, false] rfl rfl (any_of HT_.out (by kernel_rfl)) (fun _ _ _ h => h) (Or.inr ⟨by rfl, rfl⟩) ?_ ?_
      rotate_left
      · simp only [Act.put, List.setIfInBounds_toArray, List.set_cons_zero, List.set_cons_succ, i64_w, i32_w]
        rfl
      refine pure_ (i := 30) (N := some 35) (v := undef) (a' := ?_) #[true, true, true, true, true, true, true, true, true, true, true, true, true, true, true, true, true, true, true, true, true, true, true, true, true, true, true, true, true, true, true, false, false, false] rfl rfl (any_of HT_.out (by kernel_rfl)) (fun _ _ _ h => h) (Or.inr ⟨by rfl, rfl⟩) ?_ ?_
      rotate_left
      · simp only [Act.put, List.setIfInBounds_toArray, List.set_cons_zero, List.set_cons_succ, i64_w, i32_w]
        rfl
      refine pure_ (i := 31) (N := some 36) (v := undef) (a' := ?_) #[true, true, true, true, true, true, true, true, true, true, true, true, true, true, true, true, true, true, true, true, true, true, true, true, true, true, true, true, true, true, true, true, false, false] rfl rfl (any_of HT_.out (by kernel_rfl)) (fun _ _ _ h => h) (Or.inr ⟨by rfl, rfl⟩) ?_ ?_
      rotate_left
      · simp only [Act.put, List.setIfInBounds_toArray, List.set_cons_zero, List.set_cons_succ, i64_w, i32_w]
        rfl
      refine pure_ (i := 32) (N := some 37) (v := ?_) (a' := ?_) #[true, true, true, true, true, true, true, true, true, true, true, true, true, true, true, true, true, true, true, true, true, true, true, true, true, true, true, true, true, true, true, true, true, false] rfl rfl (any_of HT_.out (by kernel_rfl)) (fun _ _ _ h => h) (Or.inl ⟨by rfl, ?_⟩) ?_ ?_
      rotate_left
      · intro w'
        go_simp
        with_reducible rfl
      rotate_left
      · simp only [Act.put, List.setIfInBounds_toArray, List.set_cons_zero, List.set_cons_succ, i64_w, i32_w]
        rfl
      refine pure_ (i := 33) (N := some 4) (v := ?_) (a' := ?_) #[true, true, true, true, true, true, true, true, true, true, true, true, true, true, true, true, true, true, true, true, true, true, true, true, true, true, true, true, true, true, true, true, true, true] rfl rfl (any_of HT_.out (by kernel_rfl)) (fun _ _ _ h => h) (Or.inl ⟨by rfl, ?_⟩) ?_ ?_
      rotate_left
      · intro w'
        go_simp
        with_reducible rfl
      rotate_left
      · simp only [Act.put, List.setIfInBounds_toArray, List.set_cons_zero, List.set_cons_succ, i64_w, i32_w]
        rfl
      refine done_ (done_of HT_.out (by kernel_rfl)) ?_
      try go_wp2
      go_ret
      exact ⟨by first | rfl | (simp [errW_none, errW_some] <;> rfl) | (simp [*, errW_none, errW_some] <;> rfl), by repeat (first | (with_reducible first | exact HB.out | apply below_alloc | apply pw_below_drewN | apply below_drew1 | refine below_set ?_ GE168.out | refine below_set ?_ GE169.out) | exact HB.out)⟩
  · rw [if_neg c5] at H
    have c5b0 : (t170 == t187 && (t171 == t188 && (t172 == t189 && (t173 == t190 && (t174 == t191 && (t175 == t192 && (t176 == t193 && (t177 == t194 && (t178 == t195 && (t179 == t196 && (t180 == t197 && (t181 == t198 && (t182.toList == t199.toList && (t183.toList == t200.toList && (t184.toList == t201.toList && (t185.toList == t202.toList && (t186.toList == t203.toList))))))))))))))))) = false := by simpa using c5
    (try (have c5b1 : decide (t170 = t187 && (t171 == t188 && (t172 == t189 && (t173 == t190 && (t174 == t191 && (t175 == t192 && (t176 == t193 && (t177 == t194 && (t178 == t195 && (t179 == t196 && (t180 == t197 && (t181 == t198 && (t182.toList == t199.toList && (t183.toList == t200.toList && (t184.toList == t201.toList && (t185.toList == t202.toList && (t186.toList == t203.toList))))))))))))))))) = false := by simpa using c5))
    (try (have c5b2 : (t170 == t187 && (t171 == t188 && (t172 == t189 && (t173 == t190 && (t174 == t191 && (t175 == t192 && (t176 == t193 && (t177 == t194 && (t178 == t195 && (t179 == t196 && (t180 == t197 && (t181 == t198 && (t182.toList == t199.toList && (t183.toList == t200.toList && (t184.toList == t201.toList && (t185.toList == t202.toList && (t186.toList == t203.toList))))))))))))))))) = false := by simpa using c5))
    (try (have c5b3 : ¬ (t170 = t187 && (t171 == t188 && (t172 == t189 && (t173 == t190 && (t174 == t191 && (t175 == t192 && (t176 == t193 && (t177 == t194 && (t178 == t195 && (t179 == t196 && (t180 == t197 && (t181 == t198 && (t182.toList == t199.toList && (t183.toList == t200.toList && (t184.toList == t201.toList && (t185.toList == t202.toList && (t186.toList == t203.toList))))))))))))))))) := by simpa using c5))
    clear c5
    obtain rfl := Option.some.inj H
    go_enter Try.func70, Try.ntmps70
    try go_wp2_with (first | ((with_reducible refine head_Same.gl rfl ?_); (try (refine gate_guard (by first | rfl | (simp [*]; done) | fail) ?_; dsimp only)); refine wpList_load_row rfl 48 _ rfl _ (by rfl) 48 _ _ _ (by first | exact Aside0.out (by with_reducible assumption) | ((with_reducible repeat (first | refine blk_drewN ?_ _ | refine blk_drew ?_ | refine blk_alloc ?_ _)); exact Aside0.out (by with_reducible assumption)) | (refine blk_put (Aside0.out (by with_reducible assumption)) 24 _ ?_; simp only [List.setIfInBounds_toArray, List.set_cons_zero, List.set_cons_succ]; rfl) | (apply blk_put (i := 24); (case h => exact Aside0.out (by with_reducible assumption)); (case e => (simp only [List.setIfInBounds_toArray, List.set_cons_zero, List.set_cons_succ]; rfl)))) Try.underlying48 rfl (by kernel_rfl) ?_) | ((with_reducible refine gate_dst (N := 2) rfl ?_); refine box_event ?hg (N := 2) ?hd (cs := #[.int .i64 a0_0, .bool a0_1, .bool a0_2, .int .i64 a0_3, .int .i64 a0_4, .string a0_5, .string a0_6, .bool a0_7, .int .i64 a0_8, .string a0_9, .bool a0_10, .string a0_11, .bool a0_12, .string a0_13, .bool a0_14, .string a0_15, .string a0_16, .int .i64 a0_17, .bool a0_18, .slice A0_19 l0_19.length c0_19, .bool a0_20, .int .i64 a0_21, .slice A0_22 l0_22.length c0_22, .slice A0_23 l0_23.length c0_23, .slice A0_24 l0_24.length c0_24]) (t := 48) ?hr ?_; (case hd => rfl); (case hg => rfl); (case hr => first | (go_simp; done) | (go_simp; rfl)); intro gb168 hg w40 hbox hb; have n0_ := Aside0.mk (below_step (by repeat (first | (with_reducible first | exact HB.out | apply below_alloc | apply pw_below_drewN | apply below_drew1) | exact HB.out)) hb); have n1_ := Aside0.mk (hbox); have n2_ := Aside0.mk ((by rw [hg]; exact (below_size (by repeat (first | (with_reducible first | exact HB.out | apply below_alloc | apply pw_below_drewN | apply below_drew1) | exact HB.out))) : w.heap.size ≤ gb168)); have n3_ := Aside0.mk ((by rw [hg]; exact (below_size (by repeat (first | (with_reducible first | exact HB.out | apply below_alloc | apply pw_below_drewN | apply below_drew1) | exact HB.out))) : w.heap.size ≤ gb168)); clear HB; have HB := n0_; have BK168 := n1_; have GW168 := n2_; have GE168 := n3_; clear n0_ n1_ n2_ n3_; clear hb hbox hg) | ((with_reducible refine gate_dst (N := 3) rfl ?_); refine box_event ?hg (N := 3) ?hd (cs := #[.int .i64 a1_0, .bool a1_1, .bool a1_2, .int .i64 a1_3, .int .i64 a1_4, .string a1_5, .string a1_6, .bool a1_7, .int .i64 a1_8, .string a1_9, .bool a1_10, .string a1_11, .bool a1_12, .string a1_13, .bool a1_14, .string a1_15, .string a1_16, .int .i64 a1_17, .bool a1_18, .slice A1_19 l1_19.length c1_19, .bool a1_20, .int .i64 a1_21, .slice A1_22 l1_22.length c1_22, .slice A1_23 l1_23.length c1_23, .slice A1_24 l1_24.length c1_24]) (t := 48) ?hr ?_; (case hd => rfl); (case hg => rfl); (case hr => first | (go_simp; done) | (go_simp; rfl)); intro gb169 hg w41 hbox hb; have n0_ := Aside0.mk (blk_below (g := gb168) (o := .cells #[.int .i64 a0_0, .bool a0_1, .bool a0_2, .int .i64 a0_3, .int .i64 a0_4, .string a0_5, .string a0_6, .bool a0_7, .int .i64 a0_8, .string a0_9, .bool a0_10, .string a0_11, .bool a0_12, .string a0_13, .bool a0_14, .string a0_15, .string a0_16, .int .i64 a0_17, .bool a0_18, .slice A0_19 l0_19.length c0_19, .bool a0_20, .int .i64 a0_21, .slice A0_22 l0_22.length c0_22, .slice A0_23 l0_23.length c0_23, .slice A0_24 l0_24.length c0_24] 48 (0, 0)) (by (with_reducible repeat (first | refine blk_drewN ?_ _ | refine blk_drew ?_ | refine blk_alloc ?_ _)); exact BK168.out) hb); have n1_ := Aside0.mk (below_step (by repeat (first | (with_reducible first | exact HB.out | apply below_alloc | apply pw_below_drewN | apply below_drew1 | refine below_set ?_ GE168.out) | exact HB.out)) hb); have n2_ := Aside0.mk (hbox); have n3_ := Aside0.mk ((by rw [hg]; exact (below_size (by repeat (first | (with_reducible first | exact HB.out | apply below_alloc | apply pw_below_drewN | apply below_drew1 | refine below_set ?_ GE168.out) | exact HB.out))) : w.heap.size ≤ gb169)); have n4_ := Aside0.mk ((by rw [hg]; exact (below_size (by repeat (first | (with_reducible first | exact HB.out | apply below_alloc | apply pw_below_drewN | apply below_drew1 | refine below_set ?_ GE168.out) | exact HB.out))) : w.heap.size ≤ gb169)); have n5_ := Aside0.mk ((by rw [hg]; exact Nat.ne_of_lt (blk_lt (g := gb168) (o := .cells #[.int .i64 a0_0, .bool a0_1, .bool a0_2, .int .i64 a0_3, .int .i64 a0_4, .string a0_5, .string a0_6, .bool a0_7, .int .i64 a0_8, .string a0_9, .bool a0_10, .string a0_11, .bool a0_12, .string a0_13, .bool a0_14, .string a0_15, .string a0_16, .int .i64 a0_17, .bool a0_18, .slice A0_19 l0_19.length c0_19, .bool a0_20, .int .i64 a0_21, .slice A0_22 l0_22.length c0_22, .slice A0_23 l0_23.length c0_23, .slice A0_24 l0_24.length c0_24] 48 (0, 0)) (by (with_reducible repeat (first | refine blk_drewN ?_ _ | refine blk_drew ?_ | refine blk_alloc ?_ _)); exact BK168.out)) : gb168 ≠ gb169)); have n6_ := Aside0.mk ((by rw [hg]; exact Nat.ne_of_gt (blk_lt (g := gb168) (o := .cells #[.int .i64 a0_0, .bool a0_1, .bool a0_2, .int .i64 a0_3, .int .i64 a0_4, .string a0_5, .string a0_6, .bool a0_7, .int .i64 a0_8, .string a0_9, .bool a0_10, .string a0_11, .bool a0_12, .string a0_13, .bool a0_14, .string a0_15, .string a0_16, .int .i64 a0_17, .bool a0_18, .slice A0_19 l0_19.length c0_19, .bool a0_20, .int .i64 a0_21, .slice A0_22 l0_22.length c0_22, .slice A0_23 l0_23.length c0_23, .slice A0_24 l0_24.length c0_24] 48 (0, 0)) (by (with_reducible repeat (first | refine blk_drewN ?_ _ | refine blk_drew ?_ | refine blk_alloc ?_ _)); exact BK168.out)) : gb169 ≠ gb168)); clear BK168; clear HB; have BK168 := n0_; have HB := n1_; have BK169 := n2_; have GW169 := n3_; have GE169 := n4_; have NB168_169 := n5_; have NB169_168 := n6_; clear n0_ n1_ n2_ n3_ n4_ n5_ n6_; clear hb hbox hg))
    have n0_ := Aside0.mk (blk_drew BK168.out)
    have n1_ := Aside0.mk (blk_drew BK169.out)
    have n2_ := Aside0.mk (below_drew1 HB.out)
    clear BK168
    clear BK169
    clear HB
    have BK168 := n0_
    have BK169 := n1_
    have HB := n2_
    clear n0_ n1_ n2_
    refine start_ (n := 34) (S := fun w' => w'.cell? ⟨gb168, 0, none⟩ = some (.int .i64 a0_0) ∧ w'.cell? ⟨gb168, 1, none⟩ = some (.bool a0_1) ∧ w'.cell? ⟨gb168, 2, none⟩ = some (.bool a0_2) ∧ w'.cell? ⟨gb168, 3, none⟩ = some (.int .i64 a0_3) ∧ w'.cell? ⟨gb168, 4, none⟩ = some (.int .i64 a0_4) ∧ w'.cell? ⟨gb168, 5, none⟩ = some (.string a0_5) ∧ w'.cell? ⟨gb168, 6, none⟩ = some (.string a0_6) ∧ w'.cell? ⟨gb168, 7, none⟩ = some (.bool a0_7) ∧ w'.cell? ⟨gb168, 8, none⟩ = some (.int .i64 a0_8) ∧ w'.cell? ⟨gb168, 9, none⟩ = some (.string a0_9) ∧ w'.cell? ⟨gb168, 10, none⟩ = some (.bool a0_10) ∧ w'.cell? ⟨gb168, 11, none⟩ = some (.string a0_11) ∧ w'.cell? ⟨gb168, 12, none⟩ = some (.bool a0_12) ∧ w'.cell? ⟨gb168, 13, none⟩ = some (.string a0_13) ∧ w'.cell? ⟨gb168, 14, none⟩ = some (.bool a0_14) ∧ w'.cell? ⟨gb168, 15, none⟩ = some (.string a0_15) ∧ w'.cell? ⟨gb168, 16, none⟩ = some (.string a0_16) ∧ w'.cell? ⟨gb168, 17, none⟩ = some (.int .i64 a0_17) ∧ w'.cell? ⟨gb168, 18, none⟩ = some (.bool a0_18) ∧ w'.cell? ⟨gb168, 19, none⟩ = some (.slice A0_19 l0_19.length c0_19) ∧ w'.cell? ⟨gb168, 20, none⟩ = some (.bool a0_20) ∧ w'.cell? ⟨gb168, 21, none⟩ = some (.int .i64 a0_21) ∧ w'.cell? ⟨gb168, 22, none⟩ = some (.slice A0_22 l0_22.length c0_22) ∧ w'.cell? ⟨gb168, 23, none⟩ = some (.slice A0_23 l0_23.length c0_23) ∧ w'.cell? ⟨gb168, 24, none⟩ = some (.slice A0_24 l0_24.length c0_24) ∧ w'.cell? ⟨gb169, 0, none⟩ = some (.int .i64 a1_0) ∧ w'.cell? ⟨gb169, 1, none⟩ = some (.bool a1_1) ∧ w'.cell? ⟨gb169, 2, none⟩ = some (.bool a1_2) ∧ w'.cell? ⟨gb169, 3, none⟩ = some (.int .i64 a1_3) ∧ w'.cell? ⟨gb169, 4, none⟩ = some (.int .i64 a1_4) ∧ w'.cell? ⟨gb169, 5, none⟩ = some (.string a1_5) ∧ w'.cell? ⟨gb169, 6, none⟩ = some (.string a1_6) ∧ w'.cell? ⟨gb169, 7, none⟩ = some (.bool a1_7) ∧ w'.cell? ⟨gb169, 8, none⟩ = some (.int .i64 a1_8) ∧ w'.cell? ⟨gb169, 9, none⟩ = some (.string a1_9) ∧ w'.cell? ⟨gb169, 10, none⟩ = some (.bool a1_10) ∧ w'.cell? ⟨gb169, 11, none⟩ = some (.string a1_11) ∧ w'.cell? ⟨gb169, 12, none⟩ = some (.bool a1_12) ∧ w'.cell? ⟨gb169, 13, none⟩ = some (.string a1_13) ∧ w'.cell? ⟨gb169, 14, none⟩ = some (.bool a1_14) ∧ w'.cell? ⟨gb169, 15, none⟩ = some (.string a1_15) ∧ w'.cell? ⟨gb169, 16, none⟩ = some (.string a1_16) ∧ w'.cell? ⟨gb169, 17, none⟩ = some (.int .i64 a1_17) ∧ w'.cell? ⟨gb169, 18, none⟩ = some (.bool a1_18) ∧ w'.cell? ⟨gb169, 19, none⟩ = some (.slice A1_19 l1_19.length c1_19) ∧ w'.cell? ⟨gb169, 20, none⟩ = some (.bool a1_20) ∧ w'.cell? ⟨gb169, 21, none⟩ = some (.int .i64 a1_21) ∧ w'.cell? ⟨gb169, 22, none⟩ = some (.slice A1_22 l1_22.length c1_22) ∧ w'.cell? ⟨gb169, 23, none⟩ = some (.slice A1_23 l1_23.length c1_23) ∧ w'.cell? ⟨gb169, 24, none⟩ = some (.slice A1_24 l1_24.length c1_24)) (ds := []) #[false, false, false, false, false, false, false, false, false, false, false, false, false, false, false, false, false, false, false, false, false, false, false, false, false, false, false, false, false, false, false, false, false, false] (by kernel_rfl) rfl rfl ⟨(blk_cell BK168.out 0).trans rfl, (blk_cell BK168.out 1).trans rfl, (blk_cell BK168.out 2).trans rfl, (blk_cell BK168.out 3).trans rfl, (blk_cell BK168.out 4).trans rfl, (blk_cell BK168.out 5).trans rfl, (blk_cell BK168.out 6).trans rfl, (blk_cell BK168.out 7).trans rfl, (blk_cell BK168.out 8).trans rfl, (blk_cell BK168.out 9).trans rfl, (blk_cell BK168.out 10).trans rfl, (blk_cell BK168.out 11).trans rfl, (blk_cell BK168.out 12).trans rfl, (blk_cell BK168.out 13).trans rfl, (blk_cell BK168.out 14).trans rfl, (blk_cell BK168.out 15).trans rfl, (blk_cell BK168.out 16).trans rfl, (blk_cell BK168.out 17).trans rfl, (blk_cell BK168.out 18).trans rfl, (blk_cell BK168.out 19).trans rfl, (blk_cell BK168.out 20).trans rfl, (blk_cell BK168.out 21).trans rfl, (blk_cell BK168.out 22).trans rfl, (blk_cell BK168.out 23).trans rfl, (blk_cell BK168.out 24).trans rfl, (blk_cell BK169.out 0).trans rfl, (blk_cell BK169.out 1).trans rfl, (blk_cell BK169.out 2).trans rfl, (blk_cell BK169.out 3).trans rfl, (blk_cell BK169.out 4).trans rfl, (blk_cell BK169.out 5).trans rfl, (blk_cell BK169.out 6).trans rfl, (blk_cell BK169.out 7).trans rfl, (blk_cell BK169.out 8).trans rfl, (blk_cell BK169.out 9).trans rfl, (blk_cell BK169.out 10).trans rfl, (blk_cell BK169.out 11).trans rfl, (blk_cell BK169.out 12).trans rfl, (blk_cell BK169.out 13).trans rfl, (blk_cell BK169.out 14).trans rfl, (blk_cell BK169.out 15).trans rfl, (blk_cell BK169.out 16).trans rfl, (blk_cell BK169.out 17).trans rfl, (blk_cell BK169.out 18).trans rfl, (blk_cell BK169.out 19).trans rfl, (blk_cell BK169.out 20).trans rfl, (blk_cell BK169.out 21).trans rfl, (blk_cell BK169.out 22).trans rfl, (blk_cell BK169.out 23).trans rfl, (blk_cell BK169.out 24).trans rfl⟩ (fun hHeld => ?_); refine with_tabW head_Same.tab1 head_Same.bits1 (fun HT_ HW_ => ?_)
    generalize w41.drew = w42 at BK168 BK169 HB hHeld ⊢
    refine take_ (i := 0) (N := some 5) (v := ?_) (a' := ?_) #[true, false, false, false, false, false, false, false, false, false, false, false, false, false, false, false, false, false, false, false, false, false, false, false, false, false, false, false, false, false, false, false, false, false] rfl rfl (take_ofW HT_.out HW_.out (by kernel_rfl)) (fun _ _ _ h => h) (Or.inl ⟨by rfl, ?_⟩) hHeld ?_ ?_
    rotate_left
    · rintro w' ⟨s0, s1, s2, s3, s4, s5, s6, s7, s8, s9, s10, s11, s12, s13, s14, s15, s16, s17, s18, s19, s20, s21, s22, s23, s24, s25, s26, s27, s28, s29, s30, s31, s32, s33, s34, s35, s36, s37, s38, s39, s40, s41, s42, s43, s44, s45, s46, s47, s48, s49⟩
      first | (refine Eq.trans (head_Same.gx _ (by exact rfl) _ (by exact rfl) _ _ (by repeat (first | (apply head_Same.gxs; · assumption) | exact head_Same.gxn)) Try.underlying48 rfl (by kernel_rfl)) ?_; with_reducible rfl) | (go_simp; with_reducible rfl)
    rotate_left
    · simp only [Act.put, List.setIfInBounds_toArray, List.set_cons_zero, List.set_cons_succ, i64_w, i32_w]
      rfl
    refine take_ (i := 2) (N := some 7) (v := ?_) (a' := ?_) #[true, false, true, false, false, false, false, false, false, false, false, false, false, false, false, false, false, false, false, false, false, false, false, false, false, false, false, false, false, false, false, false, false, false] rfl rfl (take_ofW HT_.out HW_.out (by kernel_rfl)) (fun _ _ _ h => h) (Or.inl ⟨by rfl, ?_⟩) hHeld ?_ ?_
    rotate_left
    · rintro w' ⟨s0, s1, s2, s3, s4, s5, s6, s7, s8, s9, s10, s11, s12, s13, s14, s15, s16, s17, s18, s19, s20, s21, s22, s23, s24, s25, s26, s27, s28, s29, s30, s31, s32, s33, s34, s35, s36, s37, s38, s39, s40, s41, s42, s43, s44, s45, s46, s47, s48, s49⟩
      first | (refine Eq.trans (head_Same.gx _ (by exact rfl) _ (by exact rfl) _ _ (by repeat (first | (apply head_Same.gxs; · assumption) | exact head_Same.gxn)) Try.underlying48 rfl (by kernel_rfl)) ?_; with_reducible rfl) | (go_simp; with_reducible rfl)
    rotate_left
    · simp only [Act.put, List.setIfInBounds_toArray, List.set_cons_zero, List.set_cons_succ, i64_w, i32_w]
      rfl
    refine one_ (i := 1) (N := some 6) #[true, true, true, false, false, false, false, false, false, false, false, false, false, false, false, false, false, false, false, false, false, false, false, false, false, false, false, false, false, false, false, false, false, false] rfl rfl (one_of HT_.out (by kernel_rfl)) (by decide) (fun K hK => ?_)
    refine goes_ Try.func83 (by kernel_rfl) rfl #[.agg #[.int .i64 a0_0, .bool a0_1, .bool a0_2, .int .i64 a0_3, .int .i64 a0_4, .string a0_5, .string a0_6, .bool a0_7, .int .i64 a0_8, .string a0_9, .bool a0_10, .string a0_11, .bool a0_12, .string a0_13, .bool a0_14, .string a0_15, .string a0_16, .int .i64 a0_17, .bool a0_18, .slice A0_19 l0_19.length c0_19, .bool a0_20, .int .i64 a0_21, .slice A0_22 l0_22.length c0_22, .slice A0_23 l0_23.length c0_23, .slice A0_24 l0_24.length c0_24]] (by rfl) rfl rfl (by (try simp only [List.map_toArray, List.map_cons, List.map_nil]); first | done | rfl | (simp only [List.length_drop, List.length_take]; rfl)) ?_
    with_reducible refine (head_strip.calls a0_0 a0_1 a0_2 a0_3 a0_4 a0_5 a0_6 a0_7 a0_8 a0_9 a0_10 a0_11 a0_12 a0_13 a0_14 a0_15 a0_16 a0_17 a0_18 _ _ l0_19 a0_20 a0_21 _ _ l0_22 _ _ l0_23 _ _ l0_24 t170 t171 t172 t173 t174 t175 t176 t177 t178 t179 t180 t181 t182 t183 t184 t185 t186 _ ?side1 ?side2 ?side3 ?side4 ?side5 ?side6 ?side7 ?side8 A3.out).mono ?_
    (case side1 => repeat (first | exact (Kd.C_below HR0_19.out HB.out) | (with_reducible refine Kd.C_alloc ?_ _) | (with_reducible refine Kd.C_drewN ?_ _) | (with_reducible refine Kd.C_drew ?_)))
    (case side2 => exact HC0_19.out)
    (case side3 => repeat (first | exact (Kd.C_below HR0_22.out HB.out) | (with_reducible refine Kd.C_alloc ?_ _) | (with_reducible refine Kd.C_drewN ?_ _) | (with_reducible refine Kd.C_drew ?_)))
    (case side4 => exact HC0_22.out)
    (case side5 => repeat (first | exact (Kd.C_below HR0_23.out HB.out) | (with_reducible refine Kd.C_alloc ?_ _) | (with_reducible refine Kd.C_drewN ?_ _) | (with_reducible refine Kd.C_drew ?_)))
    (case side6 => exact HC0_23.out)
    (case side7 => repeat (first | exact (Kd.C_below HR0_24.out HB.out) | (with_reducible refine Kd.C_alloc ?_ _) | (with_reducible refine Kd.C_drewN ?_ _) | (with_reducible refine Kd.C_drew ?_)))
    (case side8 => exact HC0_24.out)
    rintro e w43 ⟨rfl, hb⟩
    refine ⟨_, rfl, ?_⟩
    have n0_ := Aside0.mk (blk_below (g := gb168) (o := .cells #[.int .i64 a0_0, .bool a0_1, .bool a0_2, .int .i64 a0_3, .int .i64 a0_4, .string a0_5, .string a0_6, .bool a0_7, .int .i64 a0_8, .string a0_9, .bool a0_10, .string a0_11, .bool a0_12, .string a0_13, .bool a0_14, .string a0_15, .string a0_16, .int .i64 a0_17, .bool a0_18, .slice A0_19 l0_19.length c0_19, .bool a0_20, .int .i64 a0_21, .slice A0_22 l0_22.length c0_22, .slice A0_23 l0_23.length c0_23, .slice A0_24 l0_24.length c0_24] 48 (0, 0)) (by (with_reducible repeat (first | refine blk_drewN ?_ _ | refine blk_drew ?_ | refine blk_alloc ?_ _)); exact BK168.out) hb)
    have n1_ := Aside0.mk (blk_below (g := gb169) (o := .cells #[.int .i64 a1_0, .bool a1_1, .bool a1_2, .int .i64 a1_3, .int .i64 a1_4, .string a1_5, .string a1_6, .bool a1_7, .int .i64 a1_8, .string a1_9, .bool a1_10, .string a1_11, .bool a1_12, .string a1_13, .bool a1_14, .string a1_15, .string a1_16, .int .i64 a1_17, .bool a1_18, .slice A1_19 l1_19.length c1_19, .bool a1_20, .int .i64 a1_21, .slice A1_22 l1_22.length c1_22, .slice A1_23 l1_23.length c1_23, .slice A1_24 l1_24.length c1_24] 48 (0, 0)) (by (with_reducible repeat (first | refine blk_drewN ?_ _ | refine blk_drew ?_ | refine blk_alloc ?_ _)); exact BK169.out) hb)
    have n2_ := Aside0.mk (below_step (by repeat (first | (with_reducible first | exact HB.out | apply below_alloc | apply pw_below_drewN | apply below_drew1 | refine below_set ?_ GE168.out | refine below_set ?_ GE169.out) | exact HB.out)) hb)
    clear BK168
    clear BK169
    clear HB
    have BK168 := n0_
    have BK169 := n1_
    have HB := n2_
    clear n0_ n1_ n2_
    (try clear hb)
    (try clear hb2)
    (try clear hk)
    (try clear hi)
    refine hK.out _ _ ⟨(blk_cell BK168.out 0).trans rfl, (blk_cell BK168.out 1).trans rfl, (blk_cell BK168.out 2).trans rfl, (blk_cell BK168.out 3).trans rfl, (blk_cell BK168.out 4).trans rfl, (blk_cell BK168.out 5).trans rfl, (blk_cell BK168.out 6).trans rfl, (blk_cell BK168.out 7).trans rfl, (blk_cell BK168.out 8).trans rfl, (blk_cell BK168.out 9).trans rfl, (blk_cell BK168.out 10).trans rfl, (blk_cell BK168.out 11).trans rfl, (blk_cell BK168.out 12).trans rfl, (blk_cell BK168.out 13).trans rfl, (blk_cell BK168.out 14).trans rfl, (blk_cell BK168.out 15).trans rfl, (blk_cell BK168.out 16).trans rfl, (blk_cell BK168.out 17).trans rfl, (blk_cell BK168.out 18).trans rfl, (blk_cell BK168.out 19).trans rfl, (blk_cell BK168.out 20).trans rfl, (blk_cell BK168.out 21).trans rfl, (blk_cell BK168.out 22).trans rfl, (blk_cell BK168.out 23).trans rfl, (blk_cell BK168.out 24).trans rfl, (blk_cell BK169.out 0).trans rfl, (blk_cell BK169.out 1).trans rfl, (blk_cell BK169.out 2).trans rfl, (blk_cell BK169.out 3).trans rfl, (blk_cell BK169.out 4).trans rfl, (blk_cell BK169.out 5).trans rfl, (blk_cell BK169.out 6).trans rfl, (blk_cell BK169.out 7).trans rfl, (blk_cell BK169.out 8).trans rfl, (blk_cell BK169.out 9).trans rfl, (blk_cell BK169.out 10).trans rfl, (blk_cell BK169.out 11).trans rfl, (blk_cell BK169.out 12).trans rfl, (blk_cell BK169.out 13).trans rfl, (blk_cell BK169.out 14).trans rfl, (blk_cell BK169.out 15).trans rfl, (blk_cell BK169.out 16).trans rfl, (blk_cell BK169.out 17).trans rfl, (blk_cell BK169.out 18).trans rfl, (blk_cell BK169.out 19).trans rfl, (blk_cell BK169.out 20).trans rfl, (blk_cell BK169.out 21).trans rfl, (blk_cell BK169.out 22).trans rfl, (blk_cell BK169.out 23).trans rfl, (blk_cell BK169.out 24).trans rfl⟩ (fun hHeld => ?_)
    clear hK K
    refine norm_ (a' := ?_) ?_ ?_
    rotate_left
    · show Act.put _ (some 6) _ = _
      simp only [Act.put, List.setIfInBounds_toArray, List.set_cons_zero, List.set_cons_succ, i64_w, i32_w]
      rfl
    refine one_ (i := 3) (N := some 8) #[true, true, true, true, false, false, false, false, false, false, false, false, false, false, false, false, false, false, false, false, false, false, false, false, false, false, false, false, false, false, false, false, false, false] rfl rfl (one_of HT_.out (by kernel_rfl)) (by decide) (fun K hK => ?_)
    refine goes_ Try.func83 (by kernel_rfl) rfl #[.agg #[.int .i64 a1_0, .bool a1_1, .bool a1_2, .int .i64 a1_3, .int .i64 a1_4, .string a1_5, .string a1_6, .bool a1_7, .int .i64 a1_8, .string a1_9, .bool a1_10, .string a1_11, .bool a1_12, .string a1_13, .bool a1_14, .string a1_15, .string a1_16, .int .i64 a1_17, .bool a1_18, .slice A1_19 l1_19.length c1_19, .bool a1_20, .int .i64 a1_21, .slice A1_22 l1_22.length c1_22, .slice A1_23 l1_23.length c1_23, .slice A1_24 l1_24.length c1_24]] (by rfl) rfl rfl (by (try simp only [List.map_toArray, List.map_cons, List.map_nil]); first | done | rfl | (simp only [List.length_drop, List.length_take]; rfl)) ?_
    with_reducible refine (head_strip.calls a1_0 a1_1 a1_2 a1_3 a1_4 a1_5 a1_6 a1_7 a1_8 a1_9 a1_10 a1_11 a1_12 a1_13 a1_14 a1_15 a1_16 a1_17 a1_18 _ _ l1_19 a1_20 a1_21 _ _ l1_22 _ _ l1_23 _ _ l1_24 t187 t188 t189 t190 t191 t192 t193 t194 t195 t196 t197 t198 t199 t200 t201 t202 t203 _ ?side1 ?side2 ?side3 ?side4 ?side5 ?side6 ?side7 ?side8 A4.out).mono ?_
    (case side1 => repeat (first | exact (Kd.C_below HR1_19.out HB.out) | (with_reducible refine Kd.C_alloc ?_ _) | (with_reducible refine Kd.C_drewN ?_ _) | (with_reducible refine Kd.C_drew ?_)))
    (case side2 => exact HC1_19.out)
    (case side3 => repeat (first | exact (Kd.C_below HR1_22.out HB.out) | (with_reducible refine Kd.C_alloc ?_ _) | (with_reducible refine Kd.C_drewN ?_ _) | (with_reducible refine Kd.C_drew ?_)))
    (case side4 => exact HC1_22.out)
    (case side5 => repeat (first | exact (Kd.C_below HR1_23.out HB.out) | (with_reducible refine Kd.C_alloc ?_ _) | (with_reducible refine Kd.C_drewN ?_ _) | (with_reducible refine Kd.C_drew ?_)))
    (case side6 => exact HC1_23.out)
    (case side7 => repeat (first | exact (Kd.C_below HR1_24.out HB.out) | (with_reducible refine Kd.C_alloc ?_ _) | (with_reducible refine Kd.C_drewN ?_ _) | (with_reducible refine Kd.C_drew ?_)))
    (case side8 => exact HC1_24.out)
    rintro e w44 ⟨rfl, hb⟩
    refine ⟨_, rfl, ?_⟩
    have n0_ := Aside0.mk (blk_below (g := gb168) (o := .cells #[.int .i64 a0_0, .bool a0_1, .bool a0_2, .int .i64 a0_3, .int .i64 a0_4, .string a0_5, .string a0_6, .bool a0_7, .int .i64 a0_8, .string a0_9, .bool a0_10, .string a0_11, .bool a0_12, .string a0_13, .bool a0_14, .string a0_15, .string a0_16, .int .i64 a0_17, .bool a0_18, .slice A0_19 l0_19.length c0_19, .bool a0_20, .int .i64 a0_21, .slice A0_22 l0_22.length c0_22, .slice A0_23 l0_23.length c0_23, .slice A0_24 l0_24.length c0_24] 48 (0, 0)) (by (with_reducible repeat (first | refine blk_drewN ?_ _ | refine blk_drew ?_ | refine blk_alloc ?_ _)); exact BK168.out) hb)
    have n1_ := Aside0.mk (blk_below (g := gb169) (o := .cells #[.int .i64 a1_0, .bool a1_1, .bool a1_2, .int .i64 a1_3, .int .i64 a1_4, .string a1_5, .string a1_6, .bool a1_7, .int .i64 a1_8, .string a1_9, .bool a1_10, .string a1_11, .bool a1_12, .string a1_13, .bool a1_14, .string a1_15, .string a1_16, .int .i64 a1_17, .bool a1_18, .slice A1_19 l1_19.length c1_19, .bool a1_20, .int .i64 a1_21, .slice A1_22 l1_22.length c1_22, .slice A1_23 l1_23.length c1_23, .slice A1_24 l1_24.length c1_24] 48 (0, 0)) (by (with_reducible repeat (first | refine blk_drewN ?_ _ | refine blk_drew ?_ | refine blk_alloc ?_ _)); exact BK169.out) hb)
    have n2_ := Aside0.mk (below_step (by repeat (first | (with_reducible first | exact HB.out | apply below_alloc | apply pw_below_drewN | apply below_drew1 | refine below_set ?_ GE168.out | refine below_set ?_ GE169.out) | exact HB.out)) hb)
    clear BK168
    clear BK169
    clear HB
    have BK168 := n0_
    have BK169 := n1_
    have HB := n2_
    clear n0_ n1_ n2_
    (try clear hb)
    (try clear hb2)
    (try clear hk)
    (try clear hi)
    refine hK.out _ _ ⟨(blk_cell BK168.out 0).trans rfl, (blk_cell BK168.out 1).trans rfl, (blk_cell BK168.out 2).trans rfl, (blk_cell BK168.out 3).trans rfl, (blk_cell BK168.out 4).trans rfl, (blk_cell BK168.out 5).trans rfl, (blk_cell BK168.out 6).trans rfl, (blk_cell BK168.out 7).trans rfl, (blk_cell BK168.out 8).trans rfl, (blk_cell BK168.out 9).trans rfl, (blk_cell BK168.out 10).trans rfl, (blk_cell BK168.out 11).trans rfl, (blk_cell BK168.out 12).trans rfl, (blk_cell BK168.out 13).trans rfl, (blk_cell BK168.out 14).trans rfl, (blk_cell BK168.out 15).trans rfl, (blk_cell BK168.out 16).trans rfl, (blk_cell BK168.out 17).trans rfl, (blk_cell BK168.out 18).trans rfl, (blk_cell BK168.out 19).trans rfl, (blk_cell BK168.out 20).trans rfl, (blk_cell BK168.out 21).trans rfl, (blk_cell BK168.out 22).trans rfl, (blk_cell BK168.out 23).trans rfl, (blk_cell BK168.out 24).trans rfl, (blk_cell BK169.out 0).trans rfl, (blk_cell BK169.out 1).trans rfl, (blk_cell BK169.out 2).trans rfl, (blk_cell BK169.out 3).trans rfl, (blk_cell BK169.out 4).trans rfl, (blk_cell BK169.out 5).trans rfl, (blk_cell BK169.out 6).trans rfl, (blk_cell BK169.out 7).trans rfl, (blk_cell BK169.out 8).trans rfl, (blk_cell BK169.out 9).trans rfl, (blk_cell BK169.out 10).trans rfl, (blk_cell BK169.out 11).trans rfl, (blk_cell BK169.out 12).trans rfl, (blk_cell BK169.out 13).trans rfl, (blk_cell BK169.out 14).trans rfl, (blk_cell BK169.out 15).trans rfl, (blk_cell BK169.out 16).trans rfl, (blk_cell BK169.out 17).trans rfl, (blk_cell BK169.out 18).trans rfl, (blk_cell BK169.out 19).trans rfl, (blk_cell BK169.out 20).trans rfl, (blk_cell BK169.out 21).trans rfl, (blk_cell BK169.out 22).trans rfl, (blk_cell BK169.out 23).trans rfl, (blk_cell BK169.out 24).trans rfl⟩ (fun hHeld => ?_)
    clear hK K
    refine norm_ (a' := ?_) ?_ ?_
    rotate_left
    · show Act.put _ (some 8) _ = _
      simp only [Act.put, List.setIfInBounds_toArray, List.set_cons_zero, List.set_cons_succ, i64_w, i32_w]
      rfl
    refine pure_ (i := 4) (N := some 9) (v := ?_) (a' := ?_) #[true, true, true, true, true, false, false, false, false, false, false, false, false, false, false, false, false, false, false, false, false, false, false, false, false, false, false, false, false, false, false, false, false, false] rfl rfl (any_of HT_.out (by kernel_rfl)) (fun _ _ _ h => h) (Or.inl ⟨by rfl, ?_⟩) ?_ ?_
    rotate_left
    · intro w'
      go_simp
      with_reducible rfl
    rotate_left
    · simp only [Act.put, List.setIfInBounds_toArray, List.set_cons_zero, List.set_cons_succ, i64_w, i32_w]
      rfl
    refine pure_ (i := 5) (N := some 10) (v := ?_) (a' := ?_) #[true, true, true, true, true, true, false, false, false, false, false, false, false, false, false, false, false, false, false, false, false, false, false, false, false, false, false, false, false, false, false, false, false, false] rfl rfl (any_of HT_.out (by kernel_rfl)) (fun _ _ _ h => h) (Or.inl ⟨by rfl, ?_⟩) ?_ ?_
    rotate_left
    · intro w'
      go_simp
      with_reducible rfl
    rotate_left
    · simp only [Act.put, List.setIfInBounds_toArray, List.set_cons_zero, List.set_cons_succ, i64_w, i32_w]
      rfl
    refine pure_ (i := 6) (N := some 11) (v := undef) (a' := ?_) #[true, true, true, true, true, true, true, false, false, false, false, false, false, false, false, false, false, false, false, false, false, false, false, false, false, false, false, false, false, false, false, false, false, false] rfl rfl (any_of HT_.out (by kernel_rfl)) (fun _ _ _ h => h) (Or.inr ⟨by rfl, rfl⟩) ?_ ?_
    rotate_left
    · simp only [Act.put, List.setIfInBounds_toArray, List.set_cons_zero, List.set_cons_succ, i64_w, i32_w]
      rfl
    refine pure_ (i := 7) (N := some 12) (v := undef) (a' := ?_) #[true, true, true, true, true, true, true, true, false, false, false, false, false, false, false, false, false, false, false, false, false, false, false, false, false, false, false, false, false, false, false, false, false, false] rfl rfl (any_of HT_.out (by kernel_rfl)) (fun _ _ _ h => h) (Or.inr ⟨by rfl, rfl⟩) ?_ ?_
    rotate_left
    · simp only [Act.put, List.setIfInBounds_toArray, List.set_cons_zero, List.set_cons_succ, i64_w, i32_w]
      rfl
    refine pure_ (i := 8) (N := some 13) (v := undef) (a' := ?_) #[true, true, true, true, true, true, true, true, true, false, false, false, false, false, false, false, false, false, false, false, false, false, false, false, false, false, false, false, false, false, false, false, false, false] rfl rfl (any_of HT_.out (by kernel_rfl)) (fun _ _ _ h => h) (Or.inr ⟨by rfl, rfl⟩) ?_ ?_
    rotate_left
    · simp only [Act.put, List.setIfInBounds_toArray, List.set_cons_zero, List.set_cons_succ, i64_w, i32_w]
      rfl
    refine pure_ (i := 9) (N := some 14) (v := undef) (a' := ?_) #[true, true, true, true, true, true, true, true, true, true, false, false, false, false, false, false, false, false, false, false, false, false, false, false, false, false, false, false, false, false, false, false, false, false] rfl rfl (any_of HT_.out (by kernel_rfl)) (fun _ _ _ h => h) (Or.inr ⟨by rfl, rfl⟩) ?_ ?_
    rotate_left
    · simp only [Act.put, List.setIfInBounds_toArray, List.set_cons_zero, List.set_cons_succ, i64_w, i32_w]
      rfl
    refine pure_ (i := 10) (N := some 15) (v := undef) (a' := ?_) #[true, true, true, true, true, true, true, true, true, true, true, false, false, false, false, false, false, false, false, false, false, false, false, false, false, false, false, false, false, false, false, false, false, false] rfl rfl (any_of HT_.out (by kernel_rfl)) (fun _ _ _ h => h) (Or.inr ⟨by rfl, rfl⟩) ?_ ?_
    rotate_left
    · simp only [Act.put, List.setIfInBounds_toArray, List.set_cons_zero, List.set_cons_succ, i64_w, i32_w]
      rfl
    refine pure_ (i := 11) (N := some 16) (v := ?_) (a' := ?_) #[true, true, true, true, true, true, true, true, true, true, true, true, false, false, false, false, false, false, false, false, false, false, false, false, false, false, false, false, false, false, false, false, false, false] rfl rfl (any_of HT_.out (by kernel_rfl)) (fun _ _ _ h => h) (Or.inl ⟨by rfl, ?_⟩) ?_ ?_
    rotate_left
    · intro w'
      go_simp
      with_reducible rfl
    rotate_left
    · simp only [Act.put, List.setIfInBounds_toArray, List.set_cons_zero, List.set_cons_succ, i64_w, i32_w]
      rfl
    refine pure_ (i := 12) (N := some 17) (v := ?_) (a' := ?_) #[true, true, true, true, true, true, true, true, true, true, true, true, true, false, false, false, false, false, false, false, false, false, false, false, false, false, false, false, false, false, false, false, false, false] rfl rfl (any_of HT_.out (by kernel_rfl)) (fun _ _ _ h => h) (Or.inl ⟨by rfl, ?_⟩) ?_ ?_
    rotate_left
    · intro w'
      go_simp
      with_reducible rfl
    rotate_left
    · simp only [Act.put, List.setIfInBounds_toArray, List.set_cons_zero, List.set_cons_succ, i64_w, i32_w]
      rfl
    refine pure_ (i := 13) (N := some 18) (v := undef) (a' := ?_) #[true, true, true, true, true, true, true, true, true, true, true, true, true, true, false, false, false, false, false, false, false, false, false, false, false, false, false, false, false, false, false, false, false, false] rfl rfl (any_of HT_.out (by kernel_rfl)) (fun _ _ _ h => h) (Or.inr ⟨by rfl, rfl⟩) ?_ ?_
    rotate_left
    · simp only [Act.put, List.setIfInBounds_toArray, List.set_cons_zero, List.set_cons_succ, i64_w, i32_w]
      rfl
    refine pure_ (i := 14) (N := some 19) (v := undef) (a' := ?_) #[true, true, true, true, true, true, true, true, true, true, true, true, true, true, true, false, false, false, false, false, false, false, false, false, false, false, false, false, false, false, false, false, false, false] rfl rfl (any_of HT_.out (by kernel_rfl)) (fun _ _ _ h => h) (Or.inr ⟨by rfl, rfl⟩) ?_ ?_
    rotate_left
    · simp only [Act.put, List.setIfInBounds_toArray, List.set_cons_zero, List.set_cons_succ, i64_w, i32_w]
      rfl
    refine pure_ (i := 15) (N := some 20) (v := undef) (a' := ?_) #[true, true, true, true, true, true, true, true, true, true, true, true, true, true, true, true, false, false, false, false, false, false, false, false, false, false, false, false, false, false, false, false, false, false] rfl rfl (any_of HT_.out (by kernel_rfl)) (fun _ _ _ h => h) (Or.inr ⟨by rfl, rfl⟩) ?_ ?_
    rotate_left
    · simp only [Act.put, List.setIfInBounds_toArray, List.set_cons_zero, List.set_cons_succ, i64_w, i32_w]
      rfl
    refine pure_ (i := 16) (N := some 21) (v := undef) (a' := ?_) #[true, true, true, true, true, true, true, true, true, true, true, true, true, true, true, true, true, false, false, false, false, false, false, false, false, false, false, false, false, false, false, false, false, false] rfl rfl (any_of HT_.out (by kernel_rfl)) (fun _ _ _ h => h) (Or.inr ⟨by rfl, rfl⟩) ?_ ?_
    rotate_left
    · simp only [Act.put, List.setIfInBounds_toArray, List.set_cons_zero, List.set_cons_succ, i64_w, i32_w]
      rfl
    refine pure_ (i := 17) (N := some 22) (v := undef) (a' := ?_) #[true, true, true, true, true, true, true, true, true, true, true, true, true, true, true, true, true, true, false, false, false, false, false, false, false, false, false, false, false, false, false, false, false, false] rfl rfl (any_of HT_.out (by kernel_rfl)) (fun _ _ _ h => h) (Or.inr ⟨by rfl, rfl⟩) ?_ ?_
    rotate_left
    · simp only [Act.put, List.setIfInBounds_toArray, List.set_cons_zero, List.set_cons_succ, i64_w, i32_w]
      rfl
    refine pure_ (i := 18) (N := some 23) (v := ?_) (a' := ?_) #[true, true, true, true, true, true, true, true, true, true, true, true, true, true, true, true, true, true, true, false, false, false, false, false, false, false, false, false, false, false, false, false, false, false] rfl rfl (any_of HT_.out (by kernel_rfl)) (fun _ _ _ h => h) (Or.inl ⟨by rfl, ?_⟩) ?_ ?_
    rotate_left
    · intro w'
      go_simp
      with_reducible rfl
    rotate_left
    · simp only [Act.put, List.setIfInBounds_toArray, List.set_cons_zero, List.set_cons_succ, i64_w, i32_w]
      rfl
    refine pure_ (i := 19) (N := some 24) (v := ?_) (a' := ?_) #[true, true, true, true, true, true, true, true, true, true, true, true, true, true, true, true, true, true, true, true, false, false, false, false, false, false, false, false, false, false, false, false, false, false] rfl rfl (any_of HT_.out (by kernel_rfl)) (fun _ _ _ h => h) (Or.inl ⟨by rfl, ?_⟩) ?_ ?_
    rotate_left
    · intro w'
      go_simp
      with_reducible rfl
    rotate_left
    · simp only [Act.put, List.setIfInBounds_toArray, List.set_cons_zero, List.set_cons_succ, i64_w, i32_w]
      rfl
    refine pure_ (i := 20) (N := some 25) (v := undef) (a' := ?_) #[true, true, true, true, true, true, true, true, true, true, true, true, true, true, true, true, true, true, true, true, true, false, false, false, false, false, false, false, false, false, false, false, false, false] rfl rfl (any_of HT_.out (by kernel_rfl)) (fun _ _ _ h => h) (Or.inr ⟨by rfl, rfl⟩) ?_ ?_
    rotate_left
    · simp only [Act.put, List.setIfInBounds_toArray, List.set_cons_zero, List.set_cons_succ, i64_w, i32_w]
      rfl
    refine pure_ (i := 21) (N := some 26) (v := undef) (a' := ?_) #[true, true, true, true, true, true, true, true, true, true, true, true, true, true, true, true, true, true, true, true, true, true, false, false, false, false, false, false, false, false, false, false, false, false] rfl rfl (any_of HT_.out (by kernel_rfl)) (fun _ _ _ h => h) (Or.inr ⟨by rfl, rfl⟩) ?_ ?_
    rotate_left
    · simp only [Act.put, List.setIfInBounds_toArray, List.set_cons_zero, List.set_cons_succ, i64_w, i32_w]
      rfl
    refine pure_ (i := 22) (N := some 27) (v := undef) (a' := ?_) #[true, true, true, true, true, true, true, true, true, true, true, true, true, true, true, true, true, true, true, true, true, true, true, false, false, false, false, false, false, false, false, false, false, false] rfl rfl (any_of HT_.out (by kernel_rfl)) (fun _ _ _ h => h) (Or.inr ⟨by rfl, rfl⟩) ?_ ?_
    rotate_left
    · simp only [Act.put, List.setIfInBounds_toArray, List.set_cons_zero, List.set_cons_succ, i64_w, i32_w]
      rfl
    refine pure_ (i := 23) (N := some 28) (v := undef) (a' := ?_) #[true, true, true, true, true, true, true, true, true, true, true, true, true, true, true, true, true, true, true, true, true, true, true, true, false, false, false, false, false, false, false, false, false, false] rfl rfl (any_of HT_.out (by kernel_rfl)) (fun _ _ _ h => h) (Or.inr ⟨by rfl, rfl⟩) ?_ ?_
    rotate_left
    · simp only [Act.put, List.setIfInBounds_toArray, List.set_cons_zero, List.set_cons_succ, i64_w, i32_w]
      rfl
    refine pure_ (i := 24) (N := some 29) (v := undef) (a' := ?_) #[true, true, true, true, true, true, true, true, true, true, true, true, true, true, true, true, true, true, true, true, true, true, true, true, true, false, false, false, false, false, false, false, false, false] rfl rfl (any_of HT_.out (by kernel_rfl)) (fun _ _ _ h => h) (Or.inr ⟨by rfl, rfl⟩) ?_ ?_
    rotate_left
    · simp only [Act.put, List.setIfInBounds_toArray, List.set_cons_zero, List.set_cons_succ, i64_w, i32_w]
      rfl
    refine pure_ (i := 25) (N := some 30) (v := ?_) (a' := ?_) #[true, true, true, true, true, true, true, true, true, true, true, true, true, true, true, true, true, true, true, true, true, true, true, true, true, true, false, false, false, false, false, false, false, false] rfl rfl (any_of HT_.out (by kernel_rfl)) (fun _ _ _ h => h) (Or.inl ⟨by rfl, ?_⟩) ?_ ?_
    rotate_left
    · intro w'
      go_simp
      with_reducible rfl
    rotate_left
    · simp only [Act.put, List.setIfInBounds_toArray, List.set_cons_zero, List.set_cons_succ, i64_w, i32_w]
      rfl
    refine pure_ (i := 26) (N := some 31) (v := ?_) (a' := ?_) #[true, true, true, true, true, true, true, true, true, true, true, true, true, true, true, true, true, true, true, true, true, true, true, true, true, true, true, false, false, false, false, false, false, false] rfl rfl (any_of HT_.out (by kernel_rfl)) (fun _ _ _ h => h) (Or.inl ⟨by rfl, ?_⟩) ?_ ?_
    rotate_left
    · intro w'
      go_simp
      with_reducible rfl
    rotate_left
    · simp only [Act.put, List.setIfInBounds_toArray, List.set_cons_zero, List.set_cons_succ, i64_w, i32_w]
      rfl
    refine pure_ (i := 27) (N := some 32) (v := undef) (a' := ?_) #[true, true, true, true, true, true, true, true, true, true, true, true, true, true, true, true, true, true, true, true, true, true, true, true, true, true, true, true, false, false, false, false, false, false] rfl rfl (any_of HT_.out (by kernel_rfl)) (fun _ _ _ h => h) (Or.inr ⟨by rfl, rfl⟩) ?_ ?_
    rotate_left
    · simp only [Act.put, List.setIfInBounds_toArray, List.set_cons_zero, List.set_cons_succ, i64_w, i32_w]
      rfl
    refine pure_ (i := 28) (N := some 33) (v := undef) (a' := ?_) #[true, true, true, true, true, true, true, true, true, true, true, true, true, true, true, true, true, true, true, true, true, true, true, true, true, true, true, true, true, false, false, false, false, false] rfl rfl (any_of HT_.out (by kernel_rfl)) (fun _ _ _ h => h) (Or.inr ⟨by rfl, rfl⟩) ?_ ?_
    rotate_left
    · simp only [Act.put, List.setIfInBounds_toArray, List.set_cons_zero, List.set_cons_succ, i64_w, i32_w]
      rfl
    refine pure_ (i := 29) (N := some 34) (v := undef) (a' := ?_) #[true, true, true, true, true, true, true, true, true, true, true, true, true, true, true, true, true, true, true, true, true, true, true, true, true, true, true, true, true, true, false, false, false, false] rfl rfl (any_of HT_.out (by kernel_rfl)) (fun _ _ _ h => h) (Or.inr ⟨by rfl, rfl⟩) ?_ ?_
    rotate_left
    · simp only [Act.put, List.setIfInBounds_toArray, List.set_cons_zero, List.set_cons_succ, i64_w, i32_w]
      rfl
    refine pure_ (i := 30) (N := some 35) (v := undef) (a' := ?_) #[true, true, true, true, true, true, true, true, true, true, true, true, true, true, true, true, true, true, true, true, true, true, true, true, true, true, true, true, true, true, true, false, false, false] rfl rfl (any_of HT_.out (by kernel_rfl)) (fun _ _ _ h => h) (Or.inr ⟨by rfl, rfl⟩) ?_ ?_
    rotate_left
    · simp only [Act.put, List.setIfInBounds_toArray, List.set_cons_zero, List.set_cons_succ, i64_w, i32_w]
      rfl
    refine pure_ (i := 31) (N := some 36) (v := undef) (a' := ?_) #[true, true, true, true, true, true, true, true, true, true, true, true, true, true, true, true, true, true, true, true, true, true, true, true, true, true, true, true, true, true, true, true, false, false] rfl rfl (any_of HT_.out (by kernel_rfl)) (fun _ _ _ h => h) (Or.inr ⟨by rfl, rfl⟩) ?_ ?_
    rotate_left
    · simp only [Act.put, List.setIfInBounds_toArray, List.set_cons_zero, List.set_cons_succ, i64_w, i32_w]
      rfl
    refine pure_ (i := 32) (N := some 37) (v := ?_) (a' := ?_) #[true, true, true, true, true, true, true, true, true, true, true, true, true, true, true, true, true, true, true, true, true, true, true, true, true, true, true, true, true, true, true, true, true, false] rfl rfl (any_of HT_.out (by kernel_rfl)) (fun _ _ _ h => h) (Or.inl ⟨by rfl, ?_⟩) ?_ ?_
    rotate_left
    · intro w'
      go_simp
      with_reducible rfl
    rotate_left
    · simp only [Act.put, List.setIfInBounds_toArray, List.set_cons_zero, List.set_cons_succ, i64_w, i32_w]
      rfl
    refine pure_ (i := 33) (N := some 4) (v := ?_) (a' := ?_) #[true, true, true, true, true, true, true, true, true, true, true, true, true, true, true, true, true, true, true, true, true, true, true, true, true, true, true, true, true, true, true, true, true, true] rfl rfl (any_of HT_.out (by kernel_rfl)) (fun _ _ _ h => h) (Or.inl ⟨by rfl, ?_⟩) ?_ ?_
    rotate_left
    · intro w'
      go_simp
      with_reducible rfl
    rotate_left
    · simp only [Act.put, List.setIfInBounds_toArray, List.set_cons_zero, List.set_cons_succ, i64_w, i32_w]
      rfl
    refine done_ (done_of HT_.out (by kernel_rfl)) ?_
    try go_wp2
    go_ret
    exact ⟨by first | rfl | (simp [errW_none, errW_some] <;> rfl) | (simp [*, errW_none, errW_some] <;> rfl), by repeat (first | (with_reducible first | exact HB.out | apply below_alloc | apply pw_below_drewN | apply below_drew1 | refine below_set ?_ GE168.out | refine below_set ?_ GE169.out) | exact HB.out)⟩

end Go.Proofs.Ytngmipfobcaojaa.HA
end
