-- Printed by this session's own program (not print.sh's)
import Derived.Test.YtccchkjbcokfnaaDoorPDutyAllx0
import Derived.Test.YtccchkjbcokfnaaDoorPDutyAllx1
import Derived.Test.YtccchkjbcokfnaaDoorPDutyAllx2
namespace Go.Proofs.YtccchkjbcokfnaaDoor.PDutyAll
open Go.RowKit Go.Proofs.YtccchkjbcokfnaaDoorW.PrintWords Go.Proofs.YtccchkjbcokfnaaDoorW.PrintLast Go.Proofs.YtccchkjbcokfnaaDoorW.PrintMore
attribute [local go_sem] max2_int min2_int max_two min_two max_three min_three max_four min_four   -- for this text's walks alone
set_option linter.unusedVariables false
set_option linter.unusedSimpArgs false

attribute [local go_sem high] eqA42
/-! ### duty_Plan: function 16, by hand -/
theorem wrap_in (x : Int) (h0 : -9223372036854775808 ≤ x) (h1 : x ≤ 9223372036854775807) : wrap64 x = x := by
  unfold wrap64
  omega
def checksB (hi : Int) : Int → List Int → Bool
  | _, [] => true
  | last, t :: l => decide (last < t) && decide (t ≤ hi) && checksB hi t l
def validB (a0 a1 a2 a3 : Int) (l : List Int) : Bool :=
  decide (1 ≤ a0) && decide (a0 ≤ 16) && decide (1 ≤ a1) && decide (a1 ≤ 16) && decide (a0 ≠ a1) && decide (0 ≤ a2) && decide (1 ≤ a3) && decide (a3 ≤ 16) && decide (a2 + a3 ≤ 16) && checksB (a2 + a3) a2 l
theorem duty_Valid_loop (a0 a1 a2 a3 : Int) (l : List Int) (hl : l.length ≤ 9223372036854775807) (hs : -9223372036854775808 ≤ a2 + a3) (hs1 : a2 + a3 ≤ 9223372036854775807) (d : Nat) : ∀ (k i : Nat) (last : Int), i + d = l.length → d < k →
    duty_Valid.l0 k last l (l.length : Int) (i : Int) a0 a1 a2 a3 l = some (checksB (a2 + a3) last (l.drop i)) := by
  induction d with
  | zero =>
    intro k i last hi hk
    obtain ⟨k, rfl⟩ : ∃ m, k = m + 1 := ⟨k - 1, by omega⟩
    simp only [duty_Valid.l0]
    rw [if_neg (by omega), List.drop_of_length_le (by omega)]
    rfl
  | succ d ih =>
    intro k i last hi hk
    obtain ⟨k, rfl⟩ : ∃ m, k = m + 1 := ⟨k - 1, by omega⟩
    simp only [duty_Valid.l0]
    have hlt : i < l.length := by omega
    rw [if_pos (by omega), if_pos (by omega), if_pos (by omega), wrap_in (a2 + a3) hs hs1, List.drop_eq_getElem_cons hlt]
    have hr : rd l (i : Int) = l[i] := by simp [rd, List.getD_eq_getElem?_getD, hlt]
    rw [hr]
    simp only [checksB]
    by_cases h1 : l[i] ≤ last
    · rw [if_pos h1, decide_eq_false (show ¬ last < l[i] by omega)]
      rfl
    · rw [if_neg h1, decide_eq_true (show last < l[i] by omega)]
      by_cases h2 : l[i] > a2 + a3
      · rw [if_pos h2, decide_eq_false (show ¬ l[i] ≤ a2 + a3 by omega)]
        rfl
      · rw [if_neg h2, decide_eq_true (show l[i] ≤ a2 + a3 by omega), wrap_in ((i : Int) + 1) (by omega) (by omega)]
        have := ih k (i + 1) l[i] (by omega) (by omega)
        rw [show ((i : Int) + 1) = ((i + 1 : Nat) : Int) by omega, this]
        rfl
theorem duty_person_eq (a : Int) : duty_person.f a = some (decide (1 ≤ a) && decide (a ≤ 16)) := by
  unfold duty_person.f
  by_cases h : a ≥ 1
  · rw [if_pos h, decide_eq_true (show 1 ≤ a from h)]
    rfl
  · rw [if_neg h, decide_eq_false (show ¬ 1 ≤ a from h)]
    rfl
theorem duty_Valid_eq (a0 a1 a2 a3 : Int) (l : List Int) (hl : l.length ≤ 9223372036854775807) : duty_Valid.f (l.length + 3) a0 a1 a2 a3 l = some (validB a0 a1 a2 a3 l) := by
  unfold duty_Valid.f validB
  rw [duty_person_eq, duty_person_eq]
  simp only [Option.bind_some]
  have jt : ∀ x, duty_Valid.j0 (l.length + 3) true x a1 a2 a3 l = some false := fun _ => rfl
  have jf : ∀ x y, duty_Valid.j0 (l.length + 3) false x y a2 a3 l = duty_Valid.l0 (l.length + 2) a2 l (l.length : Int) 0 x y a2 a3 l := fun _ _ => rfl
  by_cases p1 : 1 ≤ a0
  · by_cases p2 : a0 ≤ 16
    · by_cases p3 : 1 ≤ a1
      · by_cases p4 : a1 ≤ 16
        · by_cases p5 : a0 = a1
          · simp [p1, p2, p3, p4, p5, jt]
          · by_cases p6 : a2 < 0
            · simp [p1, p2, p3, p4, p5, p6, jt, show ¬ 0 ≤ a2 by omega]
            · by_cases p7 : a3 < 1
              · simp [p1, p2, p3, p4, p5, p6, p7, jt, show ¬ 1 ≤ a3 by omega]
              · by_cases p8 : a3 > 16
                · simp [p1, p2, p3, p4, p5, p6, p7, p8, jt, show ¬ a3 ≤ 16 by omega]
                · rw [wrap_in (16 - a3) (by omega) (by omega)]
                  by_cases p9 : a2 > 16 - a3
                  · simp [p1, p2, p3, p4, p5, p6, p7, p8, p9, jt, show ¬ a2 + a3 ≤ 16 by omega]
                  · have := duty_Valid_loop a0 a1 a2 a3 l hl (by omega) (by omega) l.length (l.length + 2) 0 a2 (by omega) (by omega)
                    rw [if_pos (by simp [p1, p2]), if_pos (by simp [p3, p4]), if_neg p5, if_neg p6, if_neg p7, if_neg p8, decide_eq_false p9, jf, show (0 : Int) = ((0 : Nat) : Int) from rfl, this]
                    simp [p1, p2, p3, p4, p5, show 0 ≤ a2 by omega, show 1 ≤ a3 by omega, show a3 ≤ 16 by omega, show a2 + a3 ≤ 16 by omega]
        · simp [p1, p2, p3, p4, jt]
      · simp [p1, p2, p3, jt]
    · simp [p1, p2, jt]
  · simp [p1, jt]
theorem slices_Index_loop (l : List Int) (x : Int) (hl : l.length ≤ 9223372036854775807) (d : Nat) : ∀ (k i : Nat), i + d = l.length → d < k →
    ∃ r, slices_Index_int_int.l0 k l x (l.length : Int) (i : Int) = some r ∧ decide (r ≥ 0) = (l.drop i).contains x := by
  induction d with
  | zero =>
    intro k i hi hk
    obtain ⟨k, rfl⟩ : ∃ m, k = m + 1 := ⟨k - 1, by omega⟩
    simp only [slices_Index_int_int.l0]
    rw [if_neg (by omega), List.drop_of_length_le (by omega)]
    exact ⟨_, rfl, by simp⟩
  | succ d ih =>
    intro k i hi hk
    obtain ⟨k, rfl⟩ : ∃ m, k = m + 1 := ⟨k - 1, by omega⟩
    simp only [slices_Index_int_int.l0]
    have hlt : i < l.length := by omega
    have hr : rd l (i : Int) = l[i] := by simp [rd, List.getD_eq_getElem?_getD, hlt]
    rw [if_pos (by omega), if_pos (by omega), if_pos (by omega), hr, List.drop_eq_getElem_cons hlt]
    by_cases h : x = l[i]
    · rw [if_pos h]
      refine ⟨_, rfl, ?_⟩
      rw [decide_eq_true (show (i : Int) ≥ 0 by omega), h, List.contains_cons, beq_self_eq_true, Bool.true_or]
    · rw [if_neg h, wrap_in ((i : Int) + 1) (by omega) (by omega), show ((i : Int) + 1) = ((i + 1 : Nat) : Int) by omega]
      obtain ⟨r, h1, h2⟩ := ih k (i + 1) (by omega) (by omega)
      exact ⟨r, h1, by rw [h2, List.contains_cons, beq_false_of_ne h, Bool.false_or]⟩
theorem slices_Contains_eq (l : List Int) (x : Int) (hl : l.length ≤ 9223372036854775807) : slices_Contains_int_int.f (l.length + 1) l x = some (l.contains x) := by
  unfold slices_Contains_int_int.f slices_Index_int_int.f
  obtain ⟨r, h1, h2⟩ := slices_Index_loop l x hl l.length (l.length + 1) 0 (by omega) (by omega)
  have h3 : slices_Index_int_int.l0 (l.length + 1) l x (l.length : Int) 0 = some r := h1
  rw [h3]
  simp only [Option.bind_some]
  rw [h2]
  rfl
def duty_PlanStep (first second slot : Int) (l : List Int) (t : Int) : List S42 := duty_both first second slot t 5 ++ (if l.contains t then duty_both first second slot t 6 else [])
/-- The duties of n ticks from t on. -/
def duty_PlanMid (first second slot : Int) (l : List Int) : Nat → Int → List S42
  | 0, _ => []
  | n + 1, t => duty_PlanStep first second slot l t ++ duty_PlanMid first second slot l n (t + 1)
theorem duty_PlanMid_succ (first second slot : Int) (l : List Int) (n : Nat) : ∀ t, duty_PlanMid first second slot l (n + 1) t = duty_PlanMid first second slot l n t ++ duty_PlanStep first second slot l (t + n) := by
  induction n with
  | zero => intro t; simp [duty_PlanMid]
  | succ n ih =>
    intro t
    rw [duty_PlanMid, ih (t + 1), duty_PlanMid, List.append_assoc, show t + 1 + (n : Int) = t + ((n + 1 : Nat) : Int) by omega]
theorem duty_PlanStep_length (first second slot : Int) (l : List Int) (t : Int) : (duty_PlanStep first second slot l t).length ≤ 4 := by
  unfold duty_PlanStep
  split <;> simp [duty_both]
theorem duty_PlanMid_length (first second slot : Int) (l : List Int) (n : Nat) : ∀ t, (duty_PlanMid first second slot l n t).length ≤ 4 * n := by
  induction n with
  | zero => intro t; simp [duty_PlanMid]
  | succ n ih =>
    intro t
    have := ih (t + 1)
    have := duty_PlanStep_length first second slot l t
    rw [duty_PlanMid, List.length_append]
    omega
def duty_PlanHead (first second slot start : Int) : List S42 := [1, 2, 3, 4].flatMap (duty_both first second slot start)
def duty_PlanOf (first second start term : Int) (l : List Int) (slot : Int) (settle : Bool) : List S42 :=
  duty_PlanHead first second slot start ++ duty_PlanMid first second slot l term.toNat (start + 1) ++ (if settle = true then duty_both first second slot (start + term + 1) 7 else [])
def duty_Plan.f (a0_0 : Int) (a0_1 : Int) (a0_2 : Int) (a0_3 : Int) (l0_4 : List Int) (a1 : Int) (a2 : Bool) : Option (List (S42) × Int) :=
  if a1 < 0 ∨ 6 ≤ a1 then some ([], 1) else if validB a0_0 a0_1 a0_2 a0_3 l0_4 = false then some ([], 44) else some (duty_PlanOf a0_0 a0_1 a0_2 a0_3 l0_4 a1 a2, 0)
theorem duty_PlanSt.alloc {w0 W : World} {ba bs bo : Nat} {first second start term : Int} {v4 : Value} {slot : Int} {v : Value} {xs : List S42} (h : duty_PlanSt w0 W ba bs bo first second start term v4 slot v xs) (o : Obj) :
    duty_PlanSt w0 (W.alloc o) ba bs bo first second start term v4 slot v xs := ⟨h.below.alloc h.below.size o, h.ga, blk_alloc h.a o, blk_alloc h.s o, blk_alloc h.o o, Kd.R_alloc h.r o⟩
theorem duty_PlanSt.drewN {w0 W : World} {ba bs bo : Nat} {first second start term : Int} {v4 : Value} {slot : Int} {v : Value} {xs : List S42} (h : duty_PlanSt w0 W ba bs bo first second start term v4 slot v xs) (n : Nat) :
    duty_PlanSt w0 (W.drewN n) ba bs bo first second start term v4 slot v xs := ⟨pw_below_drewN h.below n, h.ga, h.a, h.s, h.o, Kd.R_drewN h.r n⟩
theorem duty_PlanSt.first {w w1 : World} {first second start term : Int} {v4 : Value} (slot : Int) (hB : Below w.heap.size w w)
    (hb : Below ((w.alloc (.cells #[.int .i64 first, .int .i64 second, .int .i64 start, .int .i64 term, v4] 34)).alloc (.cells #[.int .i64 slot] 3)).heap.size ((w.alloc (.cells #[.int .i64 first, .int .i64 second, .int .i64 start, .int .i64 term, v4] 34)).alloc (.cells #[.int .i64 slot] 3)) w1) :
    duty_PlanSt w (w1.alloc (.cells #[.slice none 0 0] 28)) w.heap.size (w.heap.size + 1) w1.heap.size first second start term v4 slot (.slice none 0 0) [] := by
  have h0 := below_alloc (below_alloc hB (.cells #[.int .i64 first, .int .i64 second, .int .i64 start, .int .i64 term, v4] 34)) (.cells #[.int .i64 slot] 3)
  have h1 := below_then h0 h0.size hb
  have ha : ((w.alloc (.cells #[.int .i64 first, .int .i64 second, .int .i64 start, .int .i64 term, v4] 34)).alloc (.cells #[.int .i64 slot] 3)).heap[w.heap.size]? = some (.cells #[.int .i64 first, .int .i64 second, .int .i64 start, .int .i64 term, v4] 34 (0, 0)) := blk_alloc (heap_alloc_new w _) _
  have hs : ((w.alloc (.cells #[.int .i64 first, .int .i64 second, .int .i64 start, .int .i64 term, v4] 34)).alloc (.cells #[.int .i64 slot] 3)).heap[w.heap.size + 1]? = some (.cells #[.int .i64 slot] 3 (0, 0)) := by
    have := heap_alloc_new (w.alloc (.cells #[.int .i64 first, .int .i64 second, .int .i64 start, .int .i64 term, v4] 34)) (.cells #[.int .i64 slot] 3)
    simpa using this
  exact ⟨below_alloc h1 _, h1.size, blk_alloc ((hb.block _ (blk_lt ha)).trans ha) _, blk_alloc ((hb.block _ (blk_lt hs)).trans hs) _, heap_alloc_new w1 _, Kd.R_nil _ _ _ _ _⟩
set_option maxHeartbeats 4000000 in
set_option maxRecDepth 100000 in
theorem duty_Plan.calls (a0_0 : Int) (a0_1 : Int) (a0_2 : Int) (a0_3 : Int) (A0_4 : Option Addr) (c0_4 : Nat) (l0_4 : List Int) (a1 : Int) (a2 : Bool) (r1 : List (S42)) (r2 : Int) (w : World) (hr0_4 : Kd.C (Kd.int .i64) w A0_4 l0_4.length l0_4) (hc0_4 : l0_4.length ≤ c0_4) (h : duty_Plan.f a0_0 a0_1 a0_2 a0_3 l0_4 a1 a2 = some (r1, r2)) :
    Calls Tryd.prog 16 #[.agg #[.int .i64 a0_0, .int .i64 a0_1, .int .i64 a0_2, .int .i64 a0_3, .slice A0_4 l0_4.length c0_4], .int .i64 a1, .bool a2] w fun e w' => ∃ v0_ : Value, e = .returned (.tuple #[v0_, .int .i64 r2]) ∧ Kd.R k42 42 w' w.heap.size (fun _ => True) v0_ r1 ∧ Below w.heap.size w w' := by
  have hu34 := Tryd.underlying34
  have hu42 := Tryd.underlying42
  have HR := Aside0.mk hr0_4
  have HC := Aside0.mk hc0_4
  have HB := Aside0.mk (Below.refl w.heap.size w)
  clear hr0_4 hc0_4
  unfold duty_Plan.f at h
  by_cases c1 : a1 < 0 ∨ 6 ≤ a1
  · rw [if_pos c1] at h
    obtain ⟨rfl, rfl⟩ := Prod.mk.inj (Option.some.inj h)
    clear h
    rcases c1 with c1 | c1
    · have d1 : decide (a1 < 0) = true := decide_eq_true c1
      clear c1
      go_enter Tryd.func16, Tryd.ntmps16
      go_wp2
      go_ret2
      exact ⟨_, rfl, Kd.R_nil _ _ _ _ _, below_alloc (below_alloc HB.out _) _⟩
    · have d1 : decide (a1 < 0) = false := decide_eq_false (by omega)
      have d2 : decide (6 ≤ a1) = true := decide_eq_true c1
      clear c1
      go_enter Tryd.func16, Tryd.ntmps16
      go_wp2
      go_ret2
      exact ⟨_, rfl, Kd.R_nil _ _ _ _ _, below_alloc (below_alloc HB.out _) _⟩
  · rw [if_neg c1] at h
    have d1 : decide (a1 < 0) = false := decide_eq_false (by omega)
    have d2 : decide (6 ≤ a1) = false := decide_eq_false (by omega)
    clear c1
    have hm : l0_4.length ≤ 9223372036854775807 := Kd.C_max HR.out
    have HV := Aside0.mk (duty_Valid_eq a0_0 a0_1 a0_2 a0_3 l0_4 hm)
    have HM := Aside0.mk hm
    clear hm
    by_cases c2 : validB a0_0 a0_1 a0_2 a0_3 l0_4 = false
    · rw [if_pos c2] at h
      obtain ⟨rfl, rfl⟩ := Prod.mk.inj (Option.some.inj h)
      clear h
      rw [c2] at HV
      clear c2
      go_enter Tryd.func16, Tryd.ntmps16
      go_wp2_with (first | (go_at_call 27; refine (duty_Valid.calls (l0_4.length + 3) a0_0 a0_1 a0_2 a0_3 A0_4 c0_4 l0_4 false _ (Kd.C_alloc (Kd.C_alloc HR.out _) _) HC.out HV.out).mono ?_; rintro e w1 ⟨rfl, hb⟩; have HB1 := Aside0.mk (below_then (below_alloc (below_alloc HB.out _) _) (below_alloc (below_alloc HB.out _) _).size hb); clear hb))
      go_ret2
      exact ⟨_, rfl, Kd.R_nil _ _ _ _ _, HB1.out⟩
    · rw [if_neg c2] at h
      obtain ⟨rfl, rfl⟩ := Prod.mk.inj (Option.some.inj h)
      clear h
      have hvt : validB a0_0 a0_1 a0_2 a0_3 l0_4 = true := by simpa using c2
      rw [hvt] at HV
      obtain ⟨g0, g1, g2, g3⟩ : 0 ≤ a0_2 ∧ 1 ≤ a0_3 ∧ a0_3 ≤ 16 ∧ a0_2 + a0_3 ≤ 16 := by
        unfold validB at hvt
        simp only [Bool.and_eq_true, decide_eq_true_eq] at hvt
        omega
      clear c2 hvt
      go_enter Tryd.func16, Tryd.ntmps16
      go_wp2_with fail
      refine (duty_Valid.calls (l0_4.length + 3) a0_0 a0_1 a0_2 a0_3 A0_4 c0_4 l0_4 true _ (Kd.C_alloc (Kd.C_alloc HR.out _) _) HC.out HV.out).mono ?_
      rintro e w1 ⟨rfl, hb⟩
      have HA := Aside0.mk (duty_PlanSt.first a1 HB.out hb)
      have hsz : w.heap.size + 1 < w1.heap.size := (by have := hb.size; simp at this; omega)
      have ha2 : (w1.alloc (.cells #[.slice none 0 0] 28)).cell? ⟨w.heap.size, 2, none⟩ = some (.int .i64 a0_2) := (blk_cell HA.out.a 2).trans rfl
      clear hb
      have hb1 := Below.refl w1.heap.size w1
      go_wp2_with fail
      refine (duty_Plan_1.calls a0_0 a0_1 a0_2 a0_3 a1 a0_2 (.slice A0_4 l0_4.length c0_4) w.heap.size (w.heap.size + 1) w1.heap.size (w1.heap.size + 1) 4 4 [1, 2, 3, 4] [] (.slice none 0 0) w _ rfl (HA.out.alloc _) (by have := heap_alloc_new (w1.alloc (.cells #[.slice none 0 0] 28)) (.cells (nums .i64 [1, 2, 3, 4]).toArray 3); simpa [nums] using this) (by decide)).mono ?_
      rintro e w2 ⟨rfl, v2, hS2⟩
      have HS := Aside0.mk (show duty_PlanSt w w2 w.heap.size (w.heap.size + 1) w1.heap.size a0_0 a0_1 a0_2 a0_3 (.slice A0_4 l0_4.length c0_4) a1 v2 (duty_PlanHead a0_0 a0_1 a1 a0_2) from hS2)
      clear hS2 HA ha2 hb1
      have ha2 : w2.cell? ⟨w.heap.size, 2, none⟩ = some (.int .i64 a0_2) := (blk_cell HS.out.a 2).trans rfl
      have ha3 : w2.cell? ⟨w.heap.size, 3, none⟩ = some (.int .i64 a0_3) := (blk_cell HS.out.a 3).trans rfl
      have ha4 : w2.cell? ⟨w.heap.size, 4, none⟩ = some (.slice A0_4 l0_4.length c0_4) := (blk_cell HS.out.a 4).trans rfl
      obtain ⟨n, hn⟩ : ∃ n : Nat, a0_3 = n := ⟨a0_3.toNat, by omega⟩
      subst hn
      go_wp2
      go_loopw [10] (fun s10 wr => ∃ (i : Nat) (v : Value), i ≤ n ∧ s10 = .int .i64 (a0_2 + 1 + i) ∧ Aside0 (duty_PlanSt w wr w.heap.size (w.heap.size + 1) w1.heap.size a0_0 a0_1 a0_2 n (.slice A0_4 l0_4.length c0_4) a1 v (duty_PlanHead a0_0 a0_1 a1 a0_2 ++ duty_PlanMid a0_0 a0_1 a1 l0_4 i (a0_2 + 1)))) (fun s10 _ => (a0_2 + 1 + n - intOf s10).toNat)
      case atStart => exact ⟨0, v2, Nat.zero_le _, by simp, ⟨by simpa [duty_PlanMid] using HS.out⟩⟩
      case round =>
        clear HS ha2 ha3 ha4
        obtain ⟨i, v, hi, rfl, HS⟩ := hrel
        by_cases hlt : i < n
        · have hq : decide (a0_2 + 1 + (i : Int) ≤ a0_2 + (n : Int)) = true := decide_eq_true (by omega)
          have ha2 : wr.cell? ⟨w.heap.size, 2, none⟩ = some (.int .i64 a0_2) := (blk_cell HS.out.a 2).trans rfl
          have ha3 : wr.cell? ⟨w.heap.size, 3, none⟩ = some (.int .i64 (n : Int)) := (blk_cell HS.out.a 3).trans rfl
          have ha4 : wr.cell? ⟨w.heap.size, 4, none⟩ = some (.slice A0_4 l0_4.length c0_4) := (blk_cell HS.out.a 4).trans rfl
          go_wp2_with fail
          refine (duty_Plan_1.calls a0_0 a0_1 a0_2 n a1 (a0_2 + 1 + i) (.slice A0_4 l0_4.length c0_4) w.heap.size (w.heap.size + 1) w1.heap.size wr.heap.size 1 1 [5] _ v w _ rfl (HS.out.alloc _) (by have := heap_alloc_new wr (.cells (nums .i64 [5]).toArray 3); simpa [nums] using this) (by have := duty_PlanMid_length a0_0 a0_1 a1 l0_4 i (a0_2 + 1); simp [duty_PlanHead, duty_both]; omega)).mono ?_
          rintro e w3 ⟨rfl, v3, hS3⟩
          have HS3 := Aside0.mk hS3
          clear hS3 HS ha2 ha3 ha4
          have ha4 : w3.cell? ⟨w.heap.size, 4, none⟩ = some (.slice A0_4 l0_4.length c0_4) := (blk_cell HS3.out.a 4).trans rfl
          by_cases ht : l0_4.contains (a0_2 + 1 + (i : Int)) = true
          · skip
            have HT := Aside0.mk ht
            have he := slices_Contains_eq l0_4 (a0_2 + 1 + (i : Int)) HM.out
            rw [ht] at he
            have HE := Aside0.mk he
            clear he ht
            go_wp2_with fail
            refine (slices_Contains_int_int.calls (l0_4.length + 1) A0_4 c0_4 l0_4 (a0_2 + 1 + (i : Int)) true w3 (Kd.C_below HR.out HS3.out.below) HC.out HE.out).mono ?_
            rintro e w4 ⟨rfl, ⟨m, rfl⟩⟩
            go_wp2_with fail
            refine (duty_Plan_1.calls a0_0 a0_1 a0_2 n a1 (a0_2 + 1 + i) (.slice A0_4 l0_4.length c0_4) w.heap.size (w.heap.size + 1) w1.heap.size (w3.drewN m).heap.size 1 1 [6] _ v3 w _ rfl ((HS3.out.drewN m).alloc _) (by have := heap_alloc_new (w3.drewN m) (.cells (nums .i64 [6]).toArray 3); simpa [nums] using this) (by have := duty_PlanMid_length a0_0 a0_1 a1 l0_4 i (a0_2 + 1); simp [duty_PlanHead, duty_both]; omega)).mono ?_
            rintro e w5 ⟨rfl, v5, hS5⟩
            have HS5 := Aside0.mk hS5
            clear hS5 HS3 ha4
            go_wp2
            go_roundw
            case measure => simp [intOf]; omega
            case rel =>
              refine ⟨i + 1, v5, by omega, by go_num, ⟨?_⟩⟩
              have h := HS5.out
              rw [duty_PlanMid_succ]
              simp only [duty_PlanStep, HT.out, if_true]
              simpa [duty_both, List.append_assoc] using h
          · replace ht : l0_4.contains (a0_2 + 1 + (i : Int)) = false := by simpa using ht
            have HT := Aside0.mk ht
            have he := slices_Contains_eq l0_4 (a0_2 + 1 + (i : Int)) HM.out
            rw [ht] at he
            have HE := Aside0.mk he
            clear he ht
            go_wp2_with fail
            refine (slices_Contains_int_int.calls (l0_4.length + 1) A0_4 c0_4 l0_4 (a0_2 + 1 + (i : Int)) false w3 (Kd.C_below HR.out HS3.out.below) HC.out HE.out).mono ?_
            rintro e w4 ⟨rfl, ⟨m, rfl⟩⟩
            have HS4 := Aside0.mk (HS3.out.drewN m)
            clear HS3 ha4
            go_wp2
            go_roundw
            case measure => simp [intOf]; omega
            case rel =>
              refine ⟨i + 1, v3, by omega, by go_num, ⟨?_⟩⟩
              have h := HS4.out
              rw [duty_PlanMid_succ]
              simp only [duty_PlanStep, HT.out]
              simpa [duty_both, List.append_assoc] using h
        · obtain rfl : i = n := by omega
          have hq : decide (a0_2 + 1 + (i : Int) ≤ a0_2 + (i : Int)) = false := decide_eq_false (by omega)
          have ha2 : wr.cell? ⟨w.heap.size, 2, none⟩ = some (.int .i64 a0_2) := (blk_cell HS.out.a 2).trans rfl
          have ha3 : wr.cell? ⟨w.heap.size, 3, none⟩ = some (.int .i64 (i : Int)) := (blk_cell HS.out.a 3).trans rfl
          have ho : wr.cell? ⟨w1.heap.size, 0, none⟩ = some v := (blk_cell HS.out.o 0).trans rfl
          have HN : Aside0 ((i : Int).toNat = i) := ⟨by simp⟩
          cases a2 with
          | true =>
            go_wp2_with fail
            refine (duty_Plan_1.calls a0_0 a0_1 a0_2 i a1 (a0_2 + i + 1) (.slice A0_4 l0_4.length c0_4) w.heap.size (w.heap.size + 1) w1.heap.size wr.heap.size 1 1 [7] _ v w _ rfl (HS.out.alloc _) (by have := heap_alloc_new wr (.cells (nums .i64 [7]).toArray 3); simpa [nums] using this) (by have := duty_PlanMid_length a0_0 a0_1 a1 l0_4 i (a0_2 + 1); simp [duty_PlanHead, duty_both]; omega)).mono ?_
            rintro e w3 ⟨rfl, v3, hS3⟩
            have HS3 := Aside0.mk hS3
            clear hS3 HS ha2 ha3 ho
            have ho : w3.cell? ⟨w1.heap.size, 0, none⟩ = some v3 := (blk_cell HS3.out.o 0).trans rfl
            go_wp2
            go_ret2
            refine ⟨v3, rfl, ?_, HS3.out.below⟩
            have h := HS3.out.r
            unfold duty_PlanOf
            rw [HN.out]
            simpa [duty_both] using h
          | false =>
            go_wp2
            go_ret2
            refine ⟨v, rfl, ?_, HS.out.below⟩
            have h := HS.out.r
            unfold duty_PlanOf
            rw [HN.out]
            simpa using h

/-! ### duty_Cost: function 18, by hand -/
def duty_Cost.f (a0 : Int) : Option Int := if a0 < 0 then some 0 else if a0 ≥ 8 then some 0 else some (rd [0, 8, 8, 1, 2, 1, 1, 8] a0)
set_option maxHeartbeats 1600000 in
theorem duty_Cost.calls (a0 : Int) (r : Int) (w : World) (hG : GOK w) (h : duty_Cost.f a0 = some r) :
    Calls Tryd.prog 18 #[.int .i64 a0] w fun e w' => e = .returned (.int .i64 r) ∧ Drawn0 w w' := by
  unfold duty_Cost.f at h
  have g0 := hG.c0_0
  have g1 := hG.c0_1
  have g2 := hG.c0_2
  have g3 := hG.c0_3
  have g4 := hG.c0_4
  have g5 := hG.c0_5
  have g6 := hG.c0_6
  have g7 := hG.c0_7
  clear hG
  by_cases h0 : a0 < 0
  · rw [if_pos h0] at h
    obtain rfl := Option.some.inj h
    have d0 : decide (a0 < 0) = true := decide_eq_true h0
    clear h0 h
    go_enter Tryd.func18, Tryd.ntmps18
    go_wp2
    go_ret
    exact ⟨rfl, Drawn0.refl _⟩
  · rw [if_neg h0] at h
    have d0 : decide (a0 < 0) = false := decide_eq_false h0
    by_cases h8 : a0 ≥ 8
    · rw [if_pos h8] at h
      obtain rfl := Option.some.inj h
      have d8 : decide (8 ≤ a0) = true := decide_eq_true h8
      clear h0 h h8
      go_enter Tryd.func18, Tryd.ntmps18
      go_wp2
      go_ret
      exact ⟨rfl, Drawn0.refl _⟩
    · rw [if_neg h8] at h
      obtain rfl := Option.some.inj h
      clear h d0
      obtain rfl | rfl | rfl | rfl | rfl | rfl | rfl | rfl : a0 = 0 ∨ a0 = 1 ∨ a0 = 2 ∨ a0 = 3 ∨ a0 = 4 ∨ a0 = 5 ∨ a0 = 6 ∨ a0 = 7 := by omega
      all_goals
        clear h0 h8
        go_enter Tryd.func18, Tryd.ntmps18
        go_wp2
        go_ret
        exact ⟨rfl, Drawn0.refl _⟩

/-! ### duty_Total: function 17 -/
def duty_Total.l0 : Nat → Int → Int → List (S42) → Int → Int → Option (Int)
  | 0, _, _, _, _, _ => none
  | k + 1, x1, x5, x8, x9, x10 => if x10 < x9 then (if 0 ≤ x10 then (if x10 < (x8.length : Int) then (if ((rd_T42 x8 x10).f2) = x1 then ((duty_Cost.f ((rd_T42 x8 x10).f3)).bind fun t109 => (duty_Total.l0 k x1 (wrap64 (x5 + t109)) x8 x9 (wrap64 (x10 + 1)))) else (duty_Total.l0 k x1 x5 x8 x9 (wrap64 (x10 + 1)))) else (none)) else (none)) else (some x5)
def duty_Total.f (k : Nat) (l0 : List (S42)) (a1 : Int) : Option (Int) := duty_Total.l0 k a1 0 l0 (l0.length : Int) 0
theorem duty_Total.mono_l : ∀ k, (∀ y0 y1 y2 y3 y4, LeO (duty_Total.l0 k y0 y1 y2 y3 y4) (duty_Total.l0 (k + 1) y0 y1 y2 y3 y4))
  | 0 => fun _ _ _ _ _ r h => by simp [duty_Total.l0] at h
  | k + 1 => by
    have ih0 := duty_Total.mono_l k
    · intro y0 y1 y2 y3 y4
      unfold duty_Total.l0
      repeat' first
      | (with_reducible exact ih0 _ _ _ _ _)
      | (with_reducible exact LeO.refl _)
      | (with_reducible exact LeO.none _)
      | (with_reducible refine LeO.ite ?_ ?_)
      | (with_reducible refine LeO.bind ?_ (fun _ => ?_))
      | exact ih0 _ _ _ _ _
      | exact LeO.none _
      | refine LeO.ite ?_ ?_
      | refine LeO.bind ?_ (fun _ => ?_)
theorem duty_Total.mono : ∀ a0 a1 k, LeO (duty_Total.f k a0 a1) (duty_Total.f (k + 1) a0 a1) := by
  intro a0 a1 k
  have ih0 := duty_Total.mono_l k
  unfold duty_Total.f
  repeat' first
      | (with_reducible exact ih0 _ _ _ _ _)
      | (with_reducible exact LeO.refl _)
      | (with_reducible exact LeO.none _)
      | (with_reducible refine LeO.ite ?_ ?_)
      | (with_reducible refine LeO.bind ?_ (fun _ => ?_))
      | exact ih0 _ _ _ _ _
      | exact LeO.none _
      | refine LeO.ite ?_ ?_
      | refine LeO.bind ?_ (fun _ => ?_)
set_option maxHeartbeats 8000000 in
set_option maxRecDepth 100000 in
theorem duty_Total.calls (k : Nat) (A0 : Option Addr) (c0 : Nat) (l0 : List (S42)) (a1 : Int) (r : Int) (w : World) (hr0 : Kd.C k42 w A0 l0.length l0) (hc0 : l0.length ≤ c0) (hG : GOK w) (h : duty_Total.f k l0 a1 = some r) :
    Calls Tryd.prog 17 #[.slice A0 l0.length c0, .int .i64 a1] w fun e w' => e = .returned (.int .i64 r) ∧ Below w.heap.size w w' := by
  have hu42 := Tryd.underlying42
  have HR0 := Aside0.mk hr0
  have HC0 := Aside0.mk hc0
  clear hr0 hc0
  have HGOK := Aside0.mk hG
  clear hG
  have HB := Aside0.mk (Below.refl w.heap.size w)
  have H : (duty_Total.l0 k a1 0 l0 (l0.length : Int) 0) = some r := h
  clear h
  have H' := Aside0.mk H
  clear H
  go_enter Tryd.func17, Tryd.ntmps17
  go_wp2
  go_loopg [5, 10] k (fun kq v5 v10 w' => ∃ (x5_1 : Int) (x10_1 : Int), v5 = .int .i64 x5_1 ∧ v10 = .int .i64 x10_1 ∧ Aside0 (duty_Total.l0 kq a1 x5_1 l0 (l0.length : Int) x10_1 = some r) ∧ Aside0 (kq ≤ k) ∧ Aside0 (Below w.heap.size w w'))
  case atStart => exact ⟨(0), (0), (by first | rfl | (simp; done) | (simp [*]; done)), (by first | rfl | (simp; done) | (simp [*]; done)), H', ⟨Nat.le_refl _⟩, ⟨by repeat (first | (with_reducible first | exact HB.out | apply below_alloc | apply pw_below_drewN | apply below_drew1) | exact HB.out)⟩⟩
  case round =>
   clear H'
   try clear c1
   try clear p2
   obtain ⟨x5_1, x10_1, rfl, rfl, HA, HK1, HB⟩ := hrel
   cases gk with
   | zero => exact absurd HA.out (by simp [duty_Total.l0])
   | succ k1 =>
    have H := HA.out
    clear HA
    simp only [duty_Total.l0] at H
    by_cases c3 : x10_1 < (l0.length : Int)
    ·rw [if_pos c3] at H
     have c3b0 : decide (x10_1 < (l0.length : Int)) = true := decide_eq_true c3
     clear c3
     by_cases c4 : 0 ≤ x10_1
     ·rw [if_pos c4] at H
      have c4b0 : decide (0 ≤ x10_1) = true := decide_eq_true c4
      clear c4
      by_cases c5 : x10_1 < (l0.length : Int)
      ·rw [if_pos c5] at H
       have c5b0 : decide (x10_1 < (l0.length : Int)) = true := decide_eq_true c5
       clear c5
       by_cases c6 : ((rd_T42 l0 x10_1).f2) = a1
       ·rw [if_pos c6] at H
        have c6b0 : (((rd_T42 l0 x10_1).f2) == a1) = true := beq_iff_eq.mpr c6
        have c6b1 : (((rd_T42 l0 x10_1).f2) != a1) = false := bne_eq_false_iff_eq.mpr c6
        clear c6
        replace H := Option.bind_eq_some_iff.mp H
        obtain ⟨t109, A70, H⟩ := H
        replace H : (duty_Total.l0 k1 a1 (wrap64 (x5_1 + t109)) l0 (l0.length : Int) (wrap64 (x10_1 + 1))) = some r := H
        have A7 := Aside0.mk A70
        clear A70
        have H' := Aside0.mk H
        clear H
        have p107 : 0 ≤ (x10_1 : Int) := of_decide_eq_true (by first | (with_reducible assumption) | assumption)
        have q107 : x10_1 < (l0.length : Int) := of_decide_eq_true (by first | (with_reducible assumption) | assumption)
        obtain ⟨ad107, e107, hx107_0, hx107_1, hx107_2, hx107_3⟩ := at_T42 HR0.out x10_1 p107 q107
        cases e107
        replace hx107_0 := (HB.out.cell (World.block_lt_of_cell? w _ hx107_0)).trans hx107_0
        replace hx107_1 := (HB.out.cell (World.block_lt_of_cell? w _ hx107_1)).trans hx107_1
        replace hx107_2 := (HB.out.cell (World.block_lt_of_cell? w _ hx107_2)).trans hx107_2
        replace hx107_3 := (HB.out.cell (World.block_lt_of_cell? w _ hx107_3)).trans hx107_3
        replace p107 := eq_true p107
        replace q107 := eq_true q107
        go_wp2_with (first | ((with_reducible refine gate_dst (N := 7) rfl ?_); refine box_event ?hg (N := 7) ?hd (cs := #[.int .i64 0, .int .i64 0, .int .i64 0, .int .i64 0]) (t := 42) ?hr ?_; (case hd => rfl); (case hg => rfl); (case hr => first | (go_simp; done) | (go_simp; rfl)); intro gb108 hg w8 hbox hb; have n0_ := Aside0.mk (below_step (by repeat (first | (with_reducible first | exact HB.out | apply below_alloc | apply pw_below_drewN | apply below_drew1) | exact HB.out)) hb); have n1_ := Aside0.mk (hbox); have n2_ := Aside0.mk ((by rw [hg]; exact (below_size (by repeat (first | (with_reducible first | exact HB.out | apply below_alloc | apply pw_below_drewN | apply below_drew1) | exact HB.out))) : w.heap.size ≤ gb108)); have n3_ := Aside0.mk ((by rw [hg]; exact (below_size (by repeat (first | (with_reducible first | exact HB.out | apply below_alloc | apply pw_below_drewN | apply below_drew1) | exact HB.out))) : w.heap.size ≤ gb108)); clear HB; have HB := n0_; have BK108 := n1_; have GW108 := n2_; have GE108 := n3_; clear n0_ n1_ n2_ n3_; clear hb hbox hg; have hcz9_0 : w8.cell? ⟨gb108, 0, none⟩ = some (.int .i64 0) := (blk_cell BK108.out 0).trans rfl; have hcz9_1 : w8.cell? ⟨gb108, 1, none⟩ = some (.int .i64 0) := (blk_cell BK108.out 1).trans rfl; have hcz9_2 : w8.cell? ⟨gb108, 2, none⟩ = some (.int .i64 0) := (blk_cell BK108.out 2).trans rfl; have hcz9_3 : w8.cell? ⟨gb108, 3, none⟩ = some (.int .i64 0) := (blk_cell BK108.out 3).trans rfl; have hfz9_0 := blk_frozen BK108.out 0; have hfz9_1 := blk_frozen BK108.out 1; have hfz9_2 := blk_frozen BK108.out 2; have hfz9_3 := blk_frozen BK108.out 3) | ((with_reducible refine gate_callee (f := 18) rfl ?_); refine goesL_ (some 21) rfl rfl Tryd.func18 (by kernel_rfl) rfl #[.int .i64 ((rd_T42 l0 x10_1).f3)] rfl (by (try simp only [List.map_toArray, List.map_cons, List.map_nil]); first | done | rfl | (simp only [List.length_drop, List.length_take]; rfl)) ?_; (with_reducible refine (duty_Cost.calls ((rd_T42 l0 x10_1).f3) t109 _ ?side1 A7.out).mono ?_); (case side1 => exact GOK.below HGOK.out (by repeat (first | (with_reducible first | exact HB.out | apply below_alloc | apply pw_below_drewN | apply below_drew1 | refine below_set ?_ GE108.out) | exact HB.out))); rintro e w' ⟨rfl, ⟨nd, rfl⟩⟩; refine ⟨_, rfl, ?_⟩))
        go_roundg k1
        case measure => have := HK1.out; omega
        case rel => exact ⟨(wrap64 (x5_1 + t109)), (wrap64 (x10_1 + 1)), (by first | rfl | (simp; done) | (simp [*]; done)), (by first | rfl | (simp; done) | (simp [*]; done)), H', ⟨by have := HK1.out; omega⟩, ⟨by repeat (first | (with_reducible first | exact HB.out | apply below_alloc | apply pw_below_drewN | apply below_drew1 | refine below_set ?_ GE108.out) | exact HB.out)⟩⟩
       ·rw [if_neg c6] at H
        have c6b0 : (((rd_T42 l0 x10_1).f2) == a1) = false := beq_eq_false_iff_ne.mpr c6
        have c6b1 : (((rd_T42 l0 x10_1).f2) != a1) = true := bne_iff_ne.mpr c6
        have H' := Aside0.mk H
        clear H
        have p107 : 0 ≤ (x10_1 : Int) := of_decide_eq_true (by first | (with_reducible assumption) | assumption)
        have q107 : x10_1 < (l0.length : Int) := of_decide_eq_true (by first | (with_reducible assumption) | assumption)
        obtain ⟨ad107, e107, hx107_0, hx107_1, hx107_2, hx107_3⟩ := at_T42 HR0.out x10_1 p107 q107
        cases e107
        replace hx107_0 := (HB.out.cell (World.block_lt_of_cell? w _ hx107_0)).trans hx107_0
        replace hx107_1 := (HB.out.cell (World.block_lt_of_cell? w _ hx107_1)).trans hx107_1
        replace hx107_2 := (HB.out.cell (World.block_lt_of_cell? w _ hx107_2)).trans hx107_2
        replace hx107_3 := (HB.out.cell (World.block_lt_of_cell? w _ hx107_3)).trans hx107_3
        replace p107 := eq_true p107
        replace q107 := eq_true q107
        go_wp2_with (first | ((with_reducible refine gate_dst (N := 7) rfl ?_); refine box_event ?hg (N := 7) ?hd (cs := #[.int .i64 0, .int .i64 0, .int .i64 0, .int .i64 0]) (t := 42) ?hr ?_; (case hd => rfl); (case hg => rfl); (case hr => first | (go_simp; done) | (go_simp; rfl)); intro gb108 hg w10 hbox hb; have n0_ := Aside0.mk (below_step (by repeat (first | (with_reducible first | exact HB.out | apply below_alloc | apply pw_below_drewN | apply below_drew1) | exact HB.out)) hb); have n1_ := Aside0.mk (hbox); have n2_ := Aside0.mk ((by rw [hg]; exact (below_size (by repeat (first | (with_reducible first | exact HB.out | apply below_alloc | apply pw_below_drewN | apply below_drew1) | exact HB.out))) : w.heap.size ≤ gb108)); have n3_ := Aside0.mk ((by rw [hg]; exact (below_size (by repeat (first | (with_reducible first | exact HB.out | apply below_alloc | apply pw_below_drewN | apply below_drew1) | exact HB.out))) : w.heap.size ≤ gb108)); clear HB; have HB := n0_; have BK108 := n1_; have GW108 := n2_; have GE108 := n3_; clear n0_ n1_ n2_ n3_; clear hb hbox hg; have hcz11_0 : w10.cell? ⟨gb108, 0, none⟩ = some (.int .i64 0) := (blk_cell BK108.out 0).trans rfl; have hcz11_1 : w10.cell? ⟨gb108, 1, none⟩ = some (.int .i64 0) := (blk_cell BK108.out 1).trans rfl; have hcz11_2 : w10.cell? ⟨gb108, 2, none⟩ = some (.int .i64 0) := (blk_cell BK108.out 2).trans rfl; have hcz11_3 : w10.cell? ⟨gb108, 3, none⟩ = some (.int .i64 0) := (blk_cell BK108.out 3).trans rfl; have hfz11_0 := blk_frozen BK108.out 0; have hfz11_1 := blk_frozen BK108.out 1; have hfz11_2 := blk_frozen BK108.out 2; have hfz11_3 := blk_frozen BK108.out 3))
        go_roundg k1
        case measure => have := HK1.out; omega
        case rel => exact ⟨(x5_1), (wrap64 (x10_1 + 1)), (by first | rfl | (simp; done) | (simp [*]; done)), (by first | rfl | (simp; done) | (simp [*]; done)), H', ⟨by have := HK1.out; omega⟩, ⟨by repeat (first | (with_reducible first | exact HB.out | apply below_alloc | apply pw_below_drewN | apply below_drew1 | refine below_set ?_ GE108.out) | exact HB.out)⟩⟩
      ·rw [if_neg c5] at H
       exact absurd H (by simp)
     ·rw [if_neg c4] at H
      exact absurd H (by simp)
    ·rw [if_neg c3] at H
     have c3b0 : decide (x10_1 < (l0.length : Int)) = false := decide_eq_false c3
     clear c3
     obtain rfl := Option.some.inj H
     go_wp2
     go_ret
     exact ⟨by first | rfl | (simp [errW_none, errW_some] <;> rfl) | (simp [*, errW_none, errW_some] <;> rfl), by repeat (first | (with_reducible first | exact HB.out | apply below_alloc | apply pw_below_drewN | apply below_drew1) | exact HB.out)⟩

/-! ### storagebarterlaw28_sane: function 5 -/
def storagebarterlaw28_sane.f (k : Nat)  : Option (Bool) := (duty_Plan.f 1 2 0 2 (([1] : List Int)) 0 true).bind fun bt113 => (if bt113.2 = 0 then (if (bt113.1.length : Int) = 16 then (if 0 < (bt113.1.length : Int) then (if (((rd_T42 bt113.1 0).f0) == 0 && (((rd_T42 bt113.1 0).f1) == 0 && (((rd_T42 bt113.1 0).f2) == 1 && (((rd_T42 bt113.1 0).f3) == 1)))) = true then (if 15 < (bt113.1.length : Int) then (if (((rd_T42 bt113.1 15).f0) == 3 && (((rd_T42 bt113.1 15).f1) == 0 && (((rd_T42 bt113.1 15).f2) == 2 && (((rd_T42 bt113.1 15).f3) == 7)))) = true then ((duty_Total.f k bt113.1 1).bind fun t119 => (if t119 = 30 then ((duty_Cost.f 4).bind fun t120 => (some (t120 == 2))) else (some false))) else (some false)) else (none)) else (some false)) else (none)) else (some false)) else (some false))
theorem storagebarterlaw28_sane.mono : ∀ k, LeO (storagebarterlaw28_sane.f k ) (storagebarterlaw28_sane.f (k + 1) ) := by
  intro  k
  unfold storagebarterlaw28_sane.f
  repeat' first
      | (with_reducible exact duty_Total.mono _ _ _)
      | (with_reducible exact LeO.refl _)
      | (with_reducible exact LeO.none _)
      | (with_reducible refine LeO.ite ?_ ?_)
      | (with_reducible refine LeO.bind ?_ (fun _ => ?_))
      | exact duty_Total.mono _ _ _
      | exact LeO.none _
      | refine LeO.ite ?_ ?_
      | refine LeO.bind ?_ (fun _ => ?_)
set_option maxHeartbeats 8000000 in
set_option maxRecDepth 100000 in
theorem storagebarterlaw28_sane.calls (k : Nat)  (r : Bool) (w : World) (hG : GOK w) (h : storagebarterlaw28_sane.f k  = some r) :
    Calls Tryd.prog 5 #[] w fun e w' => e = .returned (.bool r) ∧ Below w.heap.size w w' := by
  have hu34 := Tryd.underlying34
  have hu42 := Tryd.underlying42
  have HGOK := Aside0.mk hG
  clear hG
  have HB := Aside0.mk (Below.refl w.heap.size w)
  have H : ((duty_Plan.f 1 2 0 2 (([1] : List Int)) 0 true).bind fun bt113 => (if bt113.2 = 0 then (if (bt113.1.length : Int) = 16 then (if 0 < (bt113.1.length : Int) then (if (((rd_T42 bt113.1 0).f0) == 0 && (((rd_T42 bt113.1 0).f1) == 0 && (((rd_T42 bt113.1 0).f2) == 1 && (((rd_T42 bt113.1 0).f3) == 1)))) = true then (if 15 < (bt113.1.length : Int) then (if (((rd_T42 bt113.1 15).f0) == 3 && (((rd_T42 bt113.1 15).f1) == 0 && (((rd_T42 bt113.1 15).f2) == 2 && (((rd_T42 bt113.1 15).f3) == 7)))) = true then ((duty_Total.f k bt113.1 1).bind fun t119 => (if t119 = 30 then ((duty_Cost.f 4).bind fun t120 => (some (t120 == 2))) else (some false))) else (some false)) else (none)) else (some false)) else (none)) else (some false)) else (some false))) = some r := h
  clear h
  obtain ⟨y110, hy110⟩ : ∃ y_ : List Int, y_ = (([1] : List Int)) := ⟨_, rfl⟩
  replace H : ((duty_Plan.f 1 2 0 2 y110 0 true).bind fun bt113 => (if bt113.2 = 0 then (if (bt113.1.length : Int) = 16 then (if 0 < (bt113.1.length : Int) then (if (((rd_T42 bt113.1 0).f0) == 0 && (((rd_T42 bt113.1 0).f1) == 0 && (((rd_T42 bt113.1 0).f2) == 1 && (((rd_T42 bt113.1 0).f3) == 1)))) = true then (if 15 < (bt113.1.length : Int) then (if (((rd_T42 bt113.1 15).f0) == 3 && (((rd_T42 bt113.1 15).f1) == 0 && (((rd_T42 bt113.1 15).f2) == 2 && (((rd_T42 bt113.1 15).f3) == 7)))) = true then ((duty_Total.f k bt113.1 1).bind fun t119 => (if t119 = 30 then ((duty_Cost.f 4).bind fun t120 => (some (t120 == 2))) else (some false))) else (some false)) else (none)) else (some false)) else (none)) else (some false)) else (some false))) = some r := by first | (rw [hy110]; with_reducible exact H) | (have H2_ := (Option.bind_some _ _).symm.trans H; rw [hy110]; with_reducible exact H2_) | (have H2_ := (Option.bind_some _ _).symm.trans H; with_reducible exact H2_) | with_reducible exact H | (rw [hy110]; exact H) | exact H
  have Ny110 := Aside0.mk hy110
  clear hy110
  replace H := Option.bind_eq_some_iff.mp H
  obtain ⟨⟨t113, t116⟩, A10, H⟩ := H
  replace H : (if t116 = 0 then (if (t113.length : Int) = 16 then (if 0 < (t113.length : Int) then (if (((rd_T42 t113 0).f0) == 0 && (((rd_T42 t113 0).f1) == 0 && (((rd_T42 t113 0).f2) == 1 && (((rd_T42 t113 0).f3) == 1)))) = true then (if 15 < (t113.length : Int) then (if (((rd_T42 t113 15).f0) == 3 && (((rd_T42 t113 15).f1) == 0 && (((rd_T42 t113 15).f2) == 2 && (((rd_T42 t113 15).f3) == 7)))) = true then ((duty_Total.f k t113 1).bind fun t119 => (if t119 = 30 then ((duty_Cost.f 4).bind fun t120 => (some (t120 == 2))) else (some false))) else (some false)) else (none)) else (some false)) else (none)) else (some false)) else (some false)) = some r := H
  have A1 := Aside0.mk A10
  clear A10
  by_cases c2 : t116 = 0
  ·rw [if_pos c2] at H
   have c2b0 : (t116 == 0) = true := beq_iff_eq.mpr c2
   have c2b1 : (t116 != 0) = false := bne_eq_false_iff_eq.mpr c2
   clear c2
   by_cases c3 : (t113.length : Int) = 16
   ·rw [if_pos c3] at H
    have c3b0 : ((t113.length : Int) == 16) = true := beq_iff_eq.mpr c3
    have c3b1 : ((t113.length : Int) != 16) = false := bne_eq_false_iff_eq.mpr c3
    clear c3
    by_cases c4 : 0 < (t113.length : Int)
    ·rw [if_pos c4] at H
     have c4b0 : decide (0 < (t113.length : Int)) = true := decide_eq_true c4
     have c4b1 : decide (0 < t113.length) = true := decide_eq_true (by omega)
     clear c4
     by_cases c5 : (((rd_T42 t113 0).f0) == 0 && (((rd_T42 t113 0).f1) == 0 && (((rd_T42 t113 0).f2) == 1 && (((rd_T42 t113 0).f3) == 1)))) = true
     ·rw [if_pos c5] at H
      have c5b0 : (((rd_T42 t113 0).f0) == 0 && (((rd_T42 t113 0).f1) == 0 && (((rd_T42 t113 0).f2) == 1 && (((rd_T42 t113 0).f3) == 1)))) = true := c5
      (try (have c5b1 : decide (((rd_T42 t113 0).f0) = 0 && (((rd_T42 t113 0).f1) == 0 && (((rd_T42 t113 0).f2) == 1 && (((rd_T42 t113 0).f3) == 1)))) = true := by simpa using c5))
      (try (have c5b2 : (((rd_T42 t113 0).f0) == 0 && (((rd_T42 t113 0).f1) == 0 && (((rd_T42 t113 0).f2) == 1 && (((rd_T42 t113 0).f3) == 1)))) = true := by simpa using c5))
      clear c5
      by_cases c6 : 15 < (t113.length : Int)
      ·rw [if_pos c6] at H
       have c6b0 : decide (15 < (t113.length : Int)) = true := decide_eq_true c6
       have c6b1 : decide (15 < t113.length) = true := decide_eq_true (by omega)
       clear c6
       by_cases c7 : (((rd_T42 t113 15).f0) == 3 && (((rd_T42 t113 15).f1) == 0 && (((rd_T42 t113 15).f2) == 2 && (((rd_T42 t113 15).f3) == 7)))) = true
       ·rw [if_pos c7] at H
        have c7b0 : (((rd_T42 t113 15).f0) == 3 && (((rd_T42 t113 15).f1) == 0 && (((rd_T42 t113 15).f2) == 2 && (((rd_T42 t113 15).f3) == 7)))) = true := c7
        (try (have c7b1 : decide (((rd_T42 t113 15).f0) = 3 && (((rd_T42 t113 15).f1) == 0 && (((rd_T42 t113 15).f2) == 2 && (((rd_T42 t113 15).f3) == 7)))) = true := by simpa using c7))
        (try (have c7b2 : (((rd_T42 t113 15).f0) == 3 && (((rd_T42 t113 15).f1) == 0 && (((rd_T42 t113 15).f2) == 2 && (((rd_T42 t113 15).f3) == 7)))) = true := by simpa using c7))
        clear c7
        replace H := Option.bind_eq_some_iff.mp H
        obtain ⟨t119, A80, H⟩ := H
        replace H : (if t119 = 30 then ((duty_Cost.f 4).bind fun t120 => (some (t120 == 2))) else (some false)) = some r := H
        have A8 := Aside0.mk A80
        clear A80
        by_cases c9 : t119 = 30
        ·rw [if_pos c9] at H
         have c9b0 : (t119 == 30) = true := beq_iff_eq.mpr c9
         have c9b1 : (t119 != 30) = false := bne_eq_false_iff_eq.mpr c9
         clear c9
         replace H := Option.bind_eq_some_iff.mp H
         obtain ⟨t120, A100, H⟩ := H
         replace H : (some (t120 == 2)) = some r := H
         have A10 := Aside0.mk A100
         clear A100
         obtain rfl := Option.some.inj H
         go_enter Tryd.func5, Tryd.ntmps5
         go_wp2_with (first | ((with_reducible refine gate_dst (N := 4) rfl ?_); (try (refine gate_guard (by rfl) ?_; dsimp only)); refine Kd.R_lit (Kd.int .i64) _ 3 ?hg (N := 4) ?hd (xs := ([1] : List Int)) (inner := [.int .i64 1]) (ok := fun _ => True) (okp := fun _ => True) ?hr ?hp (fun _ hk => hk) trivial (Below.refl _ _) (Nat.le_refl _) (by simp) ?_; (case hd => rfl); (case hg => rfl); (case hr => first | (go_simp; done) | (go_simp; rfl)); (case hp => exact (Reps.one (show Kd.M (Kd.int .i64) _ _ _ 1 [.int .i64 1] from rfl) (Reps.none _ _))); intro v111 w11 ho12 hb hg_ hnew_; clear hg_ hnew_; (first | rw [← Ny110.out] at ho12 | (simp only [Int.reduceToNat] at ho12; rw [← Ny110.out] at ho12)); have n0_ := Aside0.mk (Kd.R_lower ho12 (below_size (by repeat (first | (with_reducible first | exact HB.out | apply below_alloc | apply pw_below_drewN | apply below_drew1) | exact HB.out)))); have n1_ := Aside0.mk (below_step (by repeat (first | (with_reducible first | exact HB.out | apply below_alloc | apply pw_below_drewN | apply below_drew1) | exact HB.out)) hb); clear HB; have HO112 := n0_; have HB := n1_; clear n0_ n1_; clear hb ho12; obtain ⟨Ao13, co13, eo13⟩ := Kd.R_slice HO112.out; subst eo13) | ((with_reducible refine gate_callee (f := 16) rfl ?_); refine goesL_ (some 6) rfl rfl Tryd.func16 (by kernel_rfl) rfl #[.agg #[.int .i64 1, .int .i64 2, .int .i64 0, .int .i64 2, .slice Ao13 y110.length co13], .int .i64 0, .bool true] rfl (by (try simp only [List.map_toArray, List.map_cons, List.map_nil]); first | done | rfl | (simp only [List.length_drop, List.length_take]; rfl)) ?_; (with_reducible refine (duty_Plan.calls 1 2 0 2 _ _ y110 0 true t113 t116 _ ?side1 ?side2 A1.out).mono ?_); (case side1 => repeat (first | exact (Kd.R_reads' HO112.out).2.2 | (with_reducible refine Kd.C_alloc ?_ _) | (with_reducible refine Kd.C_drewN ?_ _) | (with_reducible refine Kd.C_drew ?_))); (case side2 => exact (Kd.R_reads' HO112.out).2.1); rintro e w14 ⟨v114, rfl, ho0, hb⟩; refine ⟨_, rfl, ?_⟩; have n0_ := Aside0.mk (Kd.R_below (by (with_reducible repeat (first | apply Kd.R_alloc | apply Kd.R_drewN | apply Kd.R_drew)); exact HO112.out) hb); have n1_ := Aside0.mk (Kd.R_lower ho0 (below_size (by repeat (first | (with_reducible first | exact HB.out | apply below_alloc | apply pw_below_drewN | apply below_drew1) | exact HB.out)))); have n2_ := Aside0.mk (below_step (by repeat (first | (with_reducible first | exact HB.out | apply below_alloc | apply pw_below_drewN | apply below_drew1) | exact HB.out)) hb); clear HO112; clear HB; have HO112 := n0_; have HO115 := n1_; have HB := n2_; clear n0_ n1_ n2_; (try clear hb); (try clear hb2); (try clear hk); (try clear hi); (try clear ho0); obtain ⟨Ao15, co15, eo15⟩ := Kd.R_slice HO115.out; subst eo15; have p117 : 0 ≤ (0 : Int) := (by omega); have q117 : 0 < (t113.length : Int) := of_decide_eq_true (by first | (with_reducible assumption) | assumption); obtain ⟨ad117, e117, hx117_0, hx117_1, hx117_2, hx117_3⟩ := at_T42 (Kd.R_reads' HO115.out).2.2 0 p117 q117; cases e117; have qi117 : (0 < t113.length) = True := eq_true (by omega); (try rw [show ((0 : Int)).toNat = 0 from rfl] at hx117_0); (try rw [show 0 * 4 = 0 from rfl] at hx117_0); (try rw [Addr.add_zero'] at hx117_0); (try rw [show ((0 : Int)).toNat = 0 from rfl] at hx117_1); (try rw [show 0 * 4 = 0 from rfl] at hx117_1); (try rw [Addr.add_zero'] at hx117_1); (try rw [show ((0 : Int)).toNat = 0 from rfl] at hx117_2); (try rw [show 0 * 4 = 0 from rfl] at hx117_2); (try rw [Addr.add_zero'] at hx117_2); (try rw [show ((0 : Int)).toNat = 0 from rfl] at hx117_3); (try rw [show 0 * 4 = 0 from rfl] at hx117_3); (try rw [Addr.add_zero'] at hx117_3); replace p117 := eq_true p117; replace q117 := eq_true q117; have p118 : 0 ≤ (15 : Int) := (by omega); have q118 : 15 < (t113.length : Int) := of_decide_eq_true (by first | (with_reducible assumption) | assumption); obtain ⟨ad118, e118, hx118_0, hx118_1, hx118_2, hx118_3⟩ := at_T42 (Kd.R_reads' HO115.out).2.2 15 p118 q118; obtain rfl : ad117 = ad118 := (by injection e118); (try simp only [show (15 : Int).toNat = 15 from rfl, Nat.reduceMul, Nat.reduceEqDiff, Go.Addr.add, ↓reduceIte] at hx118_0); (try simp only [show (15 : Int).toNat = 15 from rfl, Nat.reduceMul, Nat.reduceEqDiff, Go.Addr.add, ↓reduceIte] at hx118_1); (try simp only [show (15 : Int).toNat = 15 from rfl, Nat.reduceMul, Nat.reduceEqDiff, Go.Addr.add, ↓reduceIte] at hx118_2); (try simp only [show (15 : Int).toNat = 15 from rfl, Nat.reduceMul, Nat.reduceEqDiff, Go.Addr.add, ↓reduceIte] at hx118_3); have qi118 : (15 < t113.length) = True := eq_true (by omega); (try rw [show ((15 : Int)).toNat = 15 from rfl] at hx118_0); (try rw [show 15 * 4 = 60 from rfl] at hx118_0); (try rw [show ((15 : Int)).toNat = 15 from rfl] at hx118_1); (try rw [show 15 * 4 = 60 from rfl] at hx118_1); (try rw [show ((15 : Int)).toNat = 15 from rfl] at hx118_2); (try rw [show 15 * 4 = 60 from rfl] at hx118_2); (try rw [show ((15 : Int)).toNat = 15 from rfl] at hx118_3); (try rw [show 15 * 4 = 60 from rfl] at hx118_3); replace p118 := eq_true p118; replace q118 := eq_true q118) | (go_at_call 17; (with_reducible refine (duty_Total.calls k _ _ t113 1 t119 _ ?side1 ?side2 ?side3 A8.out).mono ?_); (case side1 => repeat (first | exact (Kd.R_reads' HO115.out).2.2 | (with_reducible refine Kd.C_alloc ?_ _) | (with_reducible refine Kd.C_drewN ?_ _) | (with_reducible refine Kd.C_drew ?_))); (case side2 => exact (Kd.R_reads' HO115.out).2.1); (case side3 => exact GOK.below HGOK.out (by repeat (first | (with_reducible first | exact HB.out | apply below_alloc | apply pw_below_drewN | apply below_drew1) | exact HB.out))); rintro e w16 ⟨rfl, hb⟩; have n0_ := Aside0.mk (Kd.R_below (by (with_reducible repeat (first | apply Kd.R_alloc | apply Kd.R_drewN | apply Kd.R_drew)); exact HO112.out) hb); have n1_ := Aside0.mk (Kd.R_below (by (with_reducible repeat (first | apply Kd.R_alloc | apply Kd.R_drewN | apply Kd.R_drew)); exact HO115.out) hb); have n2_ := Aside0.mk (below_step (by repeat (first | (with_reducible first | exact HB.out | apply below_alloc | apply pw_below_drewN | apply below_drew1) | exact HB.out)) hb); clear HO112; clear HO115; clear HB; have HO112 := n0_; have HO115 := n1_; have HB := n2_; clear n0_ n1_ n2_; (try clear hb); (try clear hb2); (try clear hk); (try clear hi)) | (go_at_call 18; (with_reducible refine (duty_Cost.calls 4 t120 _ ?side1 A10.out).mono ?_); (case side1 => exact GOK.below HGOK.out (by repeat (first | (with_reducible first | exact HB.out | apply below_alloc | apply pw_below_drewN | apply below_drew1) | exact HB.out))); rintro e w' ⟨rfl, ⟨nd, rfl⟩⟩))
         go_ret
         exact ⟨by first | rfl | (simp [errW_none, errW_some] <;> rfl) | (simp [*, errW_none, errW_some] <;> rfl), by repeat (first | (with_reducible first | exact HB.out | apply below_alloc | apply pw_below_drewN | apply below_drew1) | exact HB.out)⟩
        ·rw [if_neg c9] at H
         have c9b0 : (t119 == 30) = false := beq_eq_false_iff_ne.mpr c9
         have c9b1 : (t119 != 30) = true := bne_iff_ne.mpr c9
         obtain rfl := Option.some.inj H
         go_enter Tryd.func5, Tryd.ntmps5
         go_wp2_with (first | ((with_reducible refine gate_dst (N := 4) rfl ?_); (try (refine gate_guard (by rfl) ?_; dsimp only)); refine Kd.R_lit (Kd.int .i64) _ 3 ?hg (N := 4) ?hd (xs := ([1] : List Int)) (inner := [.int .i64 1]) (ok := fun _ => True) (okp := fun _ => True) ?hr ?hp (fun _ hk => hk) trivial (Below.refl _ _) (Nat.le_refl _) (by simp) ?_; (case hd => rfl); (case hg => rfl); (case hr => first | (go_simp; done) | (go_simp; rfl)); (case hp => exact (Reps.one (show Kd.M (Kd.int .i64) _ _ _ 1 [.int .i64 1] from rfl) (Reps.none _ _))); intro v111 w17 ho18 hb hg_ hnew_; clear hg_ hnew_; (first | rw [← Ny110.out] at ho18 | (simp only [Int.reduceToNat] at ho18; rw [← Ny110.out] at ho18)); have n0_ := Aside0.mk (Kd.R_lower ho18 (below_size (by repeat (first | (with_reducible first | exact HB.out | apply below_alloc | apply pw_below_drewN | apply below_drew1) | exact HB.out)))); have n1_ := Aside0.mk (below_step (by repeat (first | (with_reducible first | exact HB.out | apply below_alloc | apply pw_below_drewN | apply below_drew1) | exact HB.out)) hb); clear HB; have HO112 := n0_; have HB := n1_; clear n0_ n1_; clear hb ho18; obtain ⟨Ao19, co19, eo19⟩ := Kd.R_slice HO112.out; subst eo19) | ((with_reducible refine gate_callee (f := 16) rfl ?_); refine goesL_ (some 6) rfl rfl Tryd.func16 (by kernel_rfl) rfl #[.agg #[.int .i64 1, .int .i64 2, .int .i64 0, .int .i64 2, .slice Ao19 y110.length co19], .int .i64 0, .bool true] rfl (by (try simp only [List.map_toArray, List.map_cons, List.map_nil]); first | done | rfl | (simp only [List.length_drop, List.length_take]; rfl)) ?_; (with_reducible refine (duty_Plan.calls 1 2 0 2 _ _ y110 0 true t113 t116 _ ?side1 ?side2 A1.out).mono ?_); (case side1 => repeat (first | exact (Kd.R_reads' HO112.out).2.2 | (with_reducible refine Kd.C_alloc ?_ _) | (with_reducible refine Kd.C_drewN ?_ _) | (with_reducible refine Kd.C_drew ?_))); (case side2 => exact (Kd.R_reads' HO112.out).2.1); rintro e w20 ⟨v114, rfl, ho0, hb⟩; refine ⟨_, rfl, ?_⟩; have n0_ := Aside0.mk (Kd.R_below (by (with_reducible repeat (first | apply Kd.R_alloc | apply Kd.R_drewN | apply Kd.R_drew)); exact HO112.out) hb); have n1_ := Aside0.mk (Kd.R_lower ho0 (below_size (by repeat (first | (with_reducible first | exact HB.out | apply below_alloc | apply pw_below_drewN | apply below_drew1) | exact HB.out)))); have n2_ := Aside0.mk (below_step (by repeat (first | (with_reducible first | exact HB.out | apply below_alloc | apply pw_below_drewN | apply below_drew1) | exact HB.out)) hb); clear HO112; clear HB; have HO112 := n0_; have HO115 := n1_; have HB := n2_; clear n0_ n1_ n2_; (try clear hb); (try clear hb2); (try clear hk); (try clear hi); (try clear ho0); obtain ⟨Ao21, co21, eo21⟩ := Kd.R_slice HO115.out; subst eo21; have p117 : 0 ≤ (0 : Int) := (by omega); have q117 : 0 < (t113.length : Int) := of_decide_eq_true (by first | (with_reducible assumption) | assumption); obtain ⟨ad117, e117, hx117_0, hx117_1, hx117_2, hx117_3⟩ := at_T42 (Kd.R_reads' HO115.out).2.2 0 p117 q117; cases e117; have qi117 : (0 < t113.length) = True := eq_true (by omega); (try rw [show ((0 : Int)).toNat = 0 from rfl] at hx117_0); (try rw [show 0 * 4 = 0 from rfl] at hx117_0); (try rw [Addr.add_zero'] at hx117_0); (try rw [show ((0 : Int)).toNat = 0 from rfl] at hx117_1); (try rw [show 0 * 4 = 0 from rfl] at hx117_1); (try rw [Addr.add_zero'] at hx117_1); (try rw [show ((0 : Int)).toNat = 0 from rfl] at hx117_2); (try rw [show 0 * 4 = 0 from rfl] at hx117_2); (try rw [Addr.add_zero'] at hx117_2); (try rw [show ((0 : Int)).toNat = 0 from rfl] at hx117_3); (try rw [show 0 * 4 = 0 from rfl] at hx117_3); (try rw [Addr.add_zero'] at hx117_3); replace p117 := eq_true p117; replace q117 := eq_true q117; have p118 : 0 ≤ (15 : Int) := (by omega); have q118 : 15 < (t113.length : Int) := of_decide_eq_true (by first | (with_reducible assumption) | assumption); obtain ⟨ad118, e118, hx118_0, hx118_1, hx118_2, hx118_3⟩ := at_T42 (Kd.R_reads' HO115.out).2.2 15 p118 q118; obtain rfl : ad117 = ad118 := (by injection e118); (try simp only [show (15 : Int).toNat = 15 from rfl, Nat.reduceMul, Nat.reduceEqDiff, Go.Addr.add, ↓reduceIte] at hx118_0); (try simp only [show (15 : Int).toNat = 15 from rfl, Nat.reduceMul, Nat.reduceEqDiff, Go.Addr.add, ↓reduceIte] at hx118_1); (try simp only [show (15 : Int).toNat = 15 from rfl, Nat.reduceMul, Nat.reduceEqDiff, Go.Addr.add, ↓reduceIte] at hx118_2); (try simp only [show (15 : Int).toNat = 15 from rfl, Nat.reduceMul, Nat.reduceEqDiff, Go.Addr.add, ↓reduceIte] at hx118_3); have qi118 : (15 < t113.length) = True := eq_true (by omega); (try rw [show ((15 : Int)).toNat = 15 from rfl] at hx118_0); (try rw [show 15 * 4 = 60 from rfl] at hx118_0); (try rw [show ((15 : Int)).toNat = 15 from rfl] at hx118_1); (try rw [show 15 * 4 = 60 from rfl] at hx118_1); (try rw [show ((15 : Int)).toNat = 15 from rfl] at hx118_2); (try rw [show 15 * 4 = 60 from rfl] at hx118_2); (try rw [show ((15 : Int)).toNat = 15 from rfl] at hx118_3); (try rw [show 15 * 4 = 60 from rfl] at hx118_3); replace p118 := eq_true p118; replace q118 := eq_true q118) | (go_at_call 17; (with_reducible refine (duty_Total.calls k _ _ t113 1 t119 _ ?side1 ?side2 ?side3 A8.out).mono ?_); (case side1 => repeat (first | exact (Kd.R_reads' HO115.out).2.2 | (with_reducible refine Kd.C_alloc ?_ _) | (with_reducible refine Kd.C_drewN ?_ _) | (with_reducible refine Kd.C_drew ?_))); (case side2 => exact (Kd.R_reads' HO115.out).2.1); (case side3 => exact GOK.below HGOK.out (by repeat (first | (with_reducible first | exact HB.out | apply below_alloc | apply pw_below_drewN | apply below_drew1) | exact HB.out))); rintro e w22 ⟨rfl, hb⟩; have n0_ := Aside0.mk (Kd.R_below (by (with_reducible repeat (first | apply Kd.R_alloc | apply Kd.R_drewN | apply Kd.R_drew)); exact HO112.out) hb); have n1_ := Aside0.mk (Kd.R_below (by (with_reducible repeat (first | apply Kd.R_alloc | apply Kd.R_drewN | apply Kd.R_drew)); exact HO115.out) hb); have n2_ := Aside0.mk (below_step (by repeat (first | (with_reducible first | exact HB.out | apply below_alloc | apply pw_below_drewN | apply below_drew1) | exact HB.out)) hb); clear HO112; clear HO115; clear HB; have HO112 := n0_; have HO115 := n1_; have HB := n2_; clear n0_ n1_ n2_; (try clear hb); (try clear hb2); (try clear hk); (try clear hi)))
         go_ret
         exact ⟨by first | rfl | (simp [errW_none, errW_some] <;> rfl) | (simp [*, errW_none, errW_some] <;> rfl), by repeat (first | (with_reducible first | exact HB.out | apply below_alloc | apply pw_below_drewN | apply below_drew1) | exact HB.out)⟩
       ·rw [if_neg c7] at H
        have c7b0 : (((rd_T42 t113 15).f0) == 3 && (((rd_T42 t113 15).f1) == 0 && (((rd_T42 t113 15).f2) == 2 && (((rd_T42 t113 15).f3) == 7)))) = false := by simpa using c7
        (try (have c7b1 : decide (((rd_T42 t113 15).f0) = 3 && (((rd_T42 t113 15).f1) == 0 && (((rd_T42 t113 15).f2) == 2 && (((rd_T42 t113 15).f3) == 7)))) = false := by simpa using c7))
        (try (have c7b2 : (((rd_T42 t113 15).f0) == 3 && (((rd_T42 t113 15).f1) == 0 && (((rd_T42 t113 15).f2) == 2 && (((rd_T42 t113 15).f3) == 7)))) = false := by simpa using c7))
        (try (have c7b3 : ¬ (((rd_T42 t113 15).f0) = 3 && (((rd_T42 t113 15).f1) == 0 && (((rd_T42 t113 15).f2) == 2 && (((rd_T42 t113 15).f3) == 7)))) := by simpa using c7))
        clear c7
        obtain rfl := Option.some.inj H
        go_enter Tryd.func5, Tryd.ntmps5
        go_wp2_with (first | ((with_reducible refine gate_dst (N := 4) rfl ?_); (try (refine gate_guard (by rfl) ?_; dsimp only)); refine Kd.R_lit (Kd.int .i64) _ 3 ?hg (N := 4) ?hd (xs := ([1] : List Int)) (inner := [.int .i64 1]) (ok := fun _ => True) (okp := fun _ => True) ?hr ?hp (fun _ hk => hk) trivial (Below.refl _ _) (Nat.le_refl _) (by simp) ?_; (case hd => rfl); (case hg => rfl); (case hr => first | (go_simp; done) | (go_simp; rfl)); (case hp => exact (Reps.one (show Kd.M (Kd.int .i64) _ _ _ 1 [.int .i64 1] from rfl) (Reps.none _ _))); intro v111 w23 ho24 hb hg_ hnew_; clear hg_ hnew_; (first | rw [← Ny110.out] at ho24 | (simp only [Int.reduceToNat] at ho24; rw [← Ny110.out] at ho24)); have n0_ := Aside0.mk (Kd.R_lower ho24 (below_size (by repeat (first | (with_reducible first | exact HB.out | apply below_alloc | apply pw_below_drewN | apply below_drew1) | exact HB.out)))); have n1_ := Aside0.mk (below_step (by repeat (first | (with_reducible first | exact HB.out | apply below_alloc | apply pw_below_drewN | apply below_drew1) | exact HB.out)) hb); clear HB; have HO112 := n0_; have HB := n1_; clear n0_ n1_; clear hb ho24; obtain ⟨Ao25, co25, eo25⟩ := Kd.R_slice HO112.out; subst eo25) | ((with_reducible refine gate_callee (f := 16) rfl ?_); refine goesL_ (some 6) rfl rfl Tryd.func16 (by kernel_rfl) rfl #[.agg #[.int .i64 1, .int .i64 2, .int .i64 0, .int .i64 2, .slice Ao25 y110.length co25], .int .i64 0, .bool true] rfl (by (try simp only [List.map_toArray, List.map_cons, List.map_nil]); first | done | rfl | (simp only [List.length_drop, List.length_take]; rfl)) ?_; (with_reducible refine (duty_Plan.calls 1 2 0 2 _ _ y110 0 true t113 t116 _ ?side1 ?side2 A1.out).mono ?_); (case side1 => repeat (first | exact (Kd.R_reads' HO112.out).2.2 | (with_reducible refine Kd.C_alloc ?_ _) | (with_reducible refine Kd.C_drewN ?_ _) | (with_reducible refine Kd.C_drew ?_))); (case side2 => exact (Kd.R_reads' HO112.out).2.1); rintro e w26 ⟨v114, rfl, ho0, hb⟩; refine ⟨_, rfl, ?_⟩; have n0_ := Aside0.mk (Kd.R_below (by (with_reducible repeat (first | apply Kd.R_alloc | apply Kd.R_drewN | apply Kd.R_drew)); exact HO112.out) hb); have n1_ := Aside0.mk (Kd.R_lower ho0 (below_size (by repeat (first | (with_reducible first | exact HB.out | apply below_alloc | apply pw_below_drewN | apply below_drew1) | exact HB.out)))); have n2_ := Aside0.mk (below_step (by repeat (first | (with_reducible first | exact HB.out | apply below_alloc | apply pw_below_drewN | apply below_drew1) | exact HB.out)) hb); clear HO112; clear HB; have HO112 := n0_; have HO115 := n1_; have HB := n2_; clear n0_ n1_ n2_; (try clear hb); (try clear hb2); (try clear hk); (try clear hi); (try clear ho0); obtain ⟨Ao27, co27, eo27⟩ := Kd.R_slice HO115.out; subst eo27; have p117 : 0 ≤ (0 : Int) := (by omega); have q117 : 0 < (t113.length : Int) := of_decide_eq_true (by first | (with_reducible assumption) | assumption); obtain ⟨ad117, e117, hx117_0, hx117_1, hx117_2, hx117_3⟩ := at_T42 (Kd.R_reads' HO115.out).2.2 0 p117 q117; cases e117; have qi117 : (0 < t113.length) = True := eq_true (by omega); (try rw [show ((0 : Int)).toNat = 0 from rfl] at hx117_0); (try rw [show 0 * 4 = 0 from rfl] at hx117_0); (try rw [Addr.add_zero'] at hx117_0); (try rw [show ((0 : Int)).toNat = 0 from rfl] at hx117_1); (try rw [show 0 * 4 = 0 from rfl] at hx117_1); (try rw [Addr.add_zero'] at hx117_1); (try rw [show ((0 : Int)).toNat = 0 from rfl] at hx117_2); (try rw [show 0 * 4 = 0 from rfl] at hx117_2); (try rw [Addr.add_zero'] at hx117_2); (try rw [show ((0 : Int)).toNat = 0 from rfl] at hx117_3); (try rw [show 0 * 4 = 0 from rfl] at hx117_3); (try rw [Addr.add_zero'] at hx117_3); replace p117 := eq_true p117; replace q117 := eq_true q117; have p118 : 0 ≤ (15 : Int) := (by omega); have q118 : 15 < (t113.length : Int) := of_decide_eq_true (by first | (with_reducible assumption) | assumption); obtain ⟨ad118, e118, hx118_0, hx118_1, hx118_2, hx118_3⟩ := at_T42 (Kd.R_reads' HO115.out).2.2 15 p118 q118; obtain rfl : ad117 = ad118 := (by injection e118); (try simp only [show (15 : Int).toNat = 15 from rfl, Nat.reduceMul, Nat.reduceEqDiff, Go.Addr.add, ↓reduceIte] at hx118_0); (try simp only [show (15 : Int).toNat = 15 from rfl, Nat.reduceMul, Nat.reduceEqDiff, Go.Addr.add, ↓reduceIte] at hx118_1); (try simp only [show (15 : Int).toNat = 15 from rfl, Nat.reduceMul, Nat.reduceEqDiff, Go.Addr.add, ↓reduceIte] at hx118_2); (try simp only [show (15 : Int).toNat = 15 from rfl, Nat.reduceMul, Nat.reduceEqDiff, Go.Addr.add, ↓reduceIte] at hx118_3); have qi118 : (15 < t113.length) = True := eq_true (by omega); (try rw [show ((15 : Int)).toNat = 15 from rfl] at hx118_0); (try rw [show 15 * 4 = 60 from rfl] at hx118_0); (try rw [show ((15 : Int)).toNat = 15 from rfl] at hx118_1); (try rw [show 15 * 4 = 60 from rfl] at hx118_1); (try rw [show ((15 : Int)).toNat = 15 from rfl] at hx118_2); (try rw [show 15 * 4 = 60 from rfl] at hx118_2); (try rw [show ((15 : Int)).toNat = 15 from rfl] at hx118_3); (try rw [show 15 * 4 = 60 from rfl] at hx118_3); replace p118 := eq_true p118; replace q118 := eq_true q118))
        go_ret
        exact ⟨by first | rfl | (simp [errW_none, errW_some] <;> rfl) | (simp [*, errW_none, errW_some] <;> rfl), by repeat (first | (with_reducible first | exact HB.out | apply below_alloc | apply pw_below_drewN | apply below_drew1) | exact HB.out)⟩
      ·rw [if_neg c6] at H
       exact absurd H (by simp)
     ·rw [if_neg c5] at H
      have c5b0 : (((rd_T42 t113 0).f0) == 0 && (((rd_T42 t113 0).f1) == 0 && (((rd_T42 t113 0).f2) == 1 && (((rd_T42 t113 0).f3) == 1)))) = false := by simpa using c5
      (try (have c5b1 : decide (((rd_T42 t113 0).f0) = 0 && (((rd_T42 t113 0).f1) == 0 && (((rd_T42 t113 0).f2) == 1 && (((rd_T42 t113 0).f3) == 1)))) = false := by simpa using c5))
      (try (have c5b2 : (((rd_T42 t113 0).f0) == 0 && (((rd_T42 t113 0).f1) == 0 && (((rd_T42 t113 0).f2) == 1 && (((rd_T42 t113 0).f3) == 1)))) = false := by simpa using c5))
      (try (have c5b3 : ¬ (((rd_T42 t113 0).f0) = 0 && (((rd_T42 t113 0).f1) == 0 && (((rd_T42 t113 0).f2) == 1 && (((rd_T42 t113 0).f3) == 1)))) := by simpa using c5))
      clear c5
      obtain rfl := Option.some.inj H
      go_enter Tryd.func5, Tryd.ntmps5
      go_wp2_with (first | ((with_reducible refine gate_dst (N := 4) rfl ?_); (try (refine gate_guard (by rfl) ?_; dsimp only)); refine Kd.R_lit (Kd.int .i64) _ 3 ?hg (N := 4) ?hd (xs := ([1] : List Int)) (inner := [.int .i64 1]) (ok := fun _ => True) (okp := fun _ => True) ?hr ?hp (fun _ hk => hk) trivial (Below.refl _ _) (Nat.le_refl _) (by simp) ?_; (case hd => rfl); (case hg => rfl); (case hr => first | (go_simp; done) | (go_simp; rfl)); (case hp => exact (Reps.one (show Kd.M (Kd.int .i64) _ _ _ 1 [.int .i64 1] from rfl) (Reps.none _ _))); intro v111 w28 ho29 hb hg_ hnew_; clear hg_ hnew_; (first | rw [← Ny110.out] at ho29 | (simp only [Int.reduceToNat] at ho29; rw [← Ny110.out] at ho29)); have n0_ := Aside0.mk (Kd.R_lower ho29 (below_size (by repeat (first | (with_reducible first | exact HB.out | apply below_alloc | apply pw_below_drewN | apply below_drew1) | exact HB.out)))); have n1_ := Aside0.mk (below_step (by repeat (first | (with_reducible first | exact HB.out | apply below_alloc | apply pw_below_drewN | apply below_drew1) | exact HB.out)) hb); clear HB; have HO112 := n0_; have HB := n1_; clear n0_ n1_; clear hb ho29; obtain ⟨Ao30, co30, eo30⟩ := Kd.R_slice HO112.out; subst eo30) | ((with_reducible refine gate_callee (f := 16) rfl ?_); refine goesL_ (some 6) rfl rfl Tryd.func16 (by kernel_rfl) rfl #[.agg #[.int .i64 1, .int .i64 2, .int .i64 0, .int .i64 2, .slice Ao30 y110.length co30], .int .i64 0, .bool true] rfl (by (try simp only [List.map_toArray, List.map_cons, List.map_nil]); first | done | rfl | (simp only [List.length_drop, List.length_take]; rfl)) ?_; (with_reducible refine (duty_Plan.calls 1 2 0 2 _ _ y110 0 true t113 t116 _ ?side1 ?side2 A1.out).mono ?_); (case side1 => repeat (first | exact (Kd.R_reads' HO112.out).2.2 | (with_reducible refine Kd.C_alloc ?_ _) | (with_reducible refine Kd.C_drewN ?_ _) | (with_reducible refine Kd.C_drew ?_))); (case side2 => exact (Kd.R_reads' HO112.out).2.1); rintro e w31 ⟨v114, rfl, ho0, hb⟩; refine ⟨_, rfl, ?_⟩; have n0_ := Aside0.mk (Kd.R_below (by (with_reducible repeat (first | apply Kd.R_alloc | apply Kd.R_drewN | apply Kd.R_drew)); exact HO112.out) hb); have n1_ := Aside0.mk (Kd.R_lower ho0 (below_size (by repeat (first | (with_reducible first | exact HB.out | apply below_alloc | apply pw_below_drewN | apply below_drew1) | exact HB.out)))); have n2_ := Aside0.mk (below_step (by repeat (first | (with_reducible first | exact HB.out | apply below_alloc | apply pw_below_drewN | apply below_drew1) | exact HB.out)) hb); clear HO112; clear HB; have HO112 := n0_; have HO115 := n1_; have HB := n2_; clear n0_ n1_ n2_; (try clear hb); (try clear hb2); (try clear hk); (try clear hi); (try clear ho0); obtain ⟨Ao32, co32, eo32⟩ := Kd.R_slice HO115.out; subst eo32; have p117 : 0 ≤ (0 : Int) := (by omega); have q117 : 0 < (t113.length : Int) := of_decide_eq_true (by first | (with_reducible assumption) | assumption); obtain ⟨ad117, e117, hx117_0, hx117_1, hx117_2, hx117_3⟩ := at_T42 (Kd.R_reads' HO115.out).2.2 0 p117 q117; cases e117; have qi117 : (0 < t113.length) = True := eq_true (by omega); (try rw [show ((0 : Int)).toNat = 0 from rfl] at hx117_0); (try rw [show 0 * 4 = 0 from rfl] at hx117_0); (try rw [Addr.add_zero'] at hx117_0); (try rw [show ((0 : Int)).toNat = 0 from rfl] at hx117_1); (try rw [show 0 * 4 = 0 from rfl] at hx117_1); (try rw [Addr.add_zero'] at hx117_1); (try rw [show ((0 : Int)).toNat = 0 from rfl] at hx117_2); (try rw [show 0 * 4 = 0 from rfl] at hx117_2); (try rw [Addr.add_zero'] at hx117_2); (try rw [show ((0 : Int)).toNat = 0 from rfl] at hx117_3); (try rw [show 0 * 4 = 0 from rfl] at hx117_3); (try rw [Addr.add_zero'] at hx117_3); replace p117 := eq_true p117; replace q117 := eq_true q117))
      go_ret
      exact ⟨by first | rfl | (simp [errW_none, errW_some] <;> rfl) | (simp [*, errW_none, errW_some] <;> rfl), by repeat (first | (with_reducible first | exact HB.out | apply below_alloc | apply pw_below_drewN | apply below_drew1) | exact HB.out)⟩
    ·rw [if_neg c4] at H
     exact absurd H (by simp)
   ·rw [if_neg c3] at H
    have c3b0 : ((t113.length : Int) == 16) = false := beq_eq_false_iff_ne.mpr c3
    have c3b1 : ((t113.length : Int) != 16) = true := bne_iff_ne.mpr c3
    obtain rfl := Option.some.inj H
    go_enter Tryd.func5, Tryd.ntmps5
    go_wp2_with (first | ((with_reducible refine gate_dst (N := 4) rfl ?_); (try (refine gate_guard (by rfl) ?_; dsimp only)); refine Kd.R_lit (Kd.int .i64) _ 3 ?hg (N := 4) ?hd (xs := ([1] : List Int)) (inner := [.int .i64 1]) (ok := fun _ => True) (okp := fun _ => True) ?hr ?hp (fun _ hk => hk) trivial (Below.refl _ _) (Nat.le_refl _) (by simp) ?_; (case hd => rfl); (case hg => rfl); (case hr => first | (go_simp; done) | (go_simp; rfl)); (case hp => exact (Reps.one (show Kd.M (Kd.int .i64) _ _ _ 1 [.int .i64 1] from rfl) (Reps.none _ _))); intro v111 w33 ho34 hb hg_ hnew_; clear hg_ hnew_; (first | rw [← Ny110.out] at ho34 | (simp only [Int.reduceToNat] at ho34; rw [← Ny110.out] at ho34)); have n0_ := Aside0.mk (Kd.R_lower ho34 (below_size (by repeat (first | (with_reducible first | exact HB.out | apply below_alloc | apply pw_below_drewN | apply below_drew1) | exact HB.out)))); have n1_ := Aside0.mk (below_step (by repeat (first | (with_reducible first | exact HB.out | apply below_alloc | apply pw_below_drewN | apply below_drew1) | exact HB.out)) hb); clear HB; have HO112 := n0_; have HB := n1_; clear n0_ n1_; clear hb ho34; obtain ⟨Ao35, co35, eo35⟩ := Kd.R_slice HO112.out; subst eo35) | ((with_reducible refine gate_callee (f := 16) rfl ?_); refine goesL_ (some 6) rfl rfl Tryd.func16 (by kernel_rfl) rfl #[.agg #[.int .i64 1, .int .i64 2, .int .i64 0, .int .i64 2, .slice Ao35 y110.length co35], .int .i64 0, .bool true] rfl (by (try simp only [List.map_toArray, List.map_cons, List.map_nil]); first | done | rfl | (simp only [List.length_drop, List.length_take]; rfl)) ?_; (with_reducible refine (duty_Plan.calls 1 2 0 2 _ _ y110 0 true t113 t116 _ ?side1 ?side2 A1.out).mono ?_); (case side1 => repeat (first | exact (Kd.R_reads' HO112.out).2.2 | (with_reducible refine Kd.C_alloc ?_ _) | (with_reducible refine Kd.C_drewN ?_ _) | (with_reducible refine Kd.C_drew ?_))); (case side2 => exact (Kd.R_reads' HO112.out).2.1); rintro e w36 ⟨v114, rfl, ho0, hb⟩; refine ⟨_, rfl, ?_⟩; have n0_ := Aside0.mk (Kd.R_below (by (with_reducible repeat (first | apply Kd.R_alloc | apply Kd.R_drewN | apply Kd.R_drew)); exact HO112.out) hb); have n1_ := Aside0.mk (Kd.R_lower ho0 (below_size (by repeat (first | (with_reducible first | exact HB.out | apply below_alloc | apply pw_below_drewN | apply below_drew1) | exact HB.out)))); have n2_ := Aside0.mk (below_step (by repeat (first | (with_reducible first | exact HB.out | apply below_alloc | apply pw_below_drewN | apply below_drew1) | exact HB.out)) hb); clear HO112; clear HB; have HO112 := n0_; have HO115 := n1_; have HB := n2_; clear n0_ n1_ n2_; (try clear hb); (try clear hb2); (try clear hk); (try clear hi); (try clear ho0); obtain ⟨Ao37, co37, eo37⟩ := Kd.R_slice HO115.out; subst eo37))
    go_ret
    exact ⟨by first | rfl | (simp [errW_none, errW_some] <;> rfl) | (simp [*, errW_none, errW_some] <;> rfl), by repeat (first | (with_reducible first | exact HB.out | apply below_alloc | apply pw_below_drewN | apply below_drew1) | exact HB.out)⟩
  ·rw [if_neg c2] at H
   have c2b0 : (t116 == 0) = false := beq_eq_false_iff_ne.mpr c2
   have c2b1 : (t116 != 0) = true := bne_iff_ne.mpr c2
   obtain rfl := Option.some.inj H
   go_enter Tryd.func5, Tryd.ntmps5
   go_wp2_with (first | ((with_reducible refine gate_dst (N := 4) rfl ?_); (try (refine gate_guard (by rfl) ?_; dsimp only)); refine Kd.R_lit (Kd.int .i64) _ 3 ?hg (N := 4) ?hd (xs := ([1] : List Int)) (inner := [.int .i64 1]) (ok := fun _ => True) (okp := fun _ => True) ?hr ?hp (fun _ hk => hk) trivial (Below.refl _ _) (Nat.le_refl _) (by simp) ?_; (case hd => rfl); (case hg => rfl); (case hr => first | (go_simp; done) | (go_simp; rfl)); (case hp => exact (Reps.one (show Kd.M (Kd.int .i64) _ _ _ 1 [.int .i64 1] from rfl) (Reps.none _ _))); intro v111 w38 ho39 hb hg_ hnew_; clear hg_ hnew_; (first | rw [← Ny110.out] at ho39 | (simp only [Int.reduceToNat] at ho39; rw [← Ny110.out] at ho39)); have n0_ := Aside0.mk (Kd.R_lower ho39 (below_size (by repeat (first | (with_reducible first | exact HB.out | apply below_alloc | apply pw_below_drewN | apply below_drew1) | exact HB.out)))); have n1_ := Aside0.mk (below_step (by repeat (first | (with_reducible first | exact HB.out | apply below_alloc | apply pw_below_drewN | apply below_drew1) | exact HB.out)) hb); clear HB; have HO112 := n0_; have HB := n1_; clear n0_ n1_; clear hb ho39; obtain ⟨Ao40, co40, eo40⟩ := Kd.R_slice HO112.out; subst eo40) | ((with_reducible refine gate_callee (f := 16) rfl ?_); refine goesL_ (some 6) rfl rfl Tryd.func16 (by kernel_rfl) rfl #[.agg #[.int .i64 1, .int .i64 2, .int .i64 0, .int .i64 2, .slice Ao40 y110.length co40], .int .i64 0, .bool true] rfl (by (try simp only [List.map_toArray, List.map_cons, List.map_nil]); first | done | rfl | (simp only [List.length_drop, List.length_take]; rfl)) ?_; (with_reducible refine (duty_Plan.calls 1 2 0 2 _ _ y110 0 true t113 t116 _ ?side1 ?side2 A1.out).mono ?_); (case side1 => repeat (first | exact (Kd.R_reads' HO112.out).2.2 | (with_reducible refine Kd.C_alloc ?_ _) | (with_reducible refine Kd.C_drewN ?_ _) | (with_reducible refine Kd.C_drew ?_))); (case side2 => exact (Kd.R_reads' HO112.out).2.1); rintro e w41 ⟨v114, rfl, ho0, hb⟩; refine ⟨_, rfl, ?_⟩; have n0_ := Aside0.mk (Kd.R_below (by (with_reducible repeat (first | apply Kd.R_alloc | apply Kd.R_drewN | apply Kd.R_drew)); exact HO112.out) hb); have n1_ := Aside0.mk (Kd.R_lower ho0 (below_size (by repeat (first | (with_reducible first | exact HB.out | apply below_alloc | apply pw_below_drewN | apply below_drew1) | exact HB.out)))); have n2_ := Aside0.mk (below_step (by repeat (first | (with_reducible first | exact HB.out | apply below_alloc | apply pw_below_drewN | apply below_drew1) | exact HB.out)) hb); clear HO112; clear HB; have HO112 := n0_; have HO115 := n1_; have HB := n2_; clear n0_ n1_ n2_; (try clear hb); (try clear hb2); (try clear hk); (try clear hi); (try clear ho0)))
   go_ret
   exact ⟨by first | rfl | (simp [errW_none, errW_some] <;> rfl) | (simp [*, errW_none, errW_some] <;> rfl), by repeat (first | (with_reducible first | exact HB.out | apply below_alloc | apply pw_below_drewN | apply below_drew1) | exact HB.out)⟩

/-- A state of type 46 at block g of W; what its slices lead to came in by w0. -/
def IsS46 (w0 W : World) (g : Nat) (f0 : List Int) (f1 : Int) : Prop := ∃ A0 c0, W.heap[g]? = some (.cells #[.slice A0 f0.length c0, .int .i64 f1] 46 (0, 0)) ∧ w0.heap.size ≤ g ∧ Kd.C (Kd.int .u8) w0 A0 f0.length f0
theorem IsS46.grown {w0 W : World} {g : Nat} {f0 : List Int} {f1 : Int} {W1 : World} {row : Option Nat} (h : IsS46 w0 W g f0 f1) (hw : W.grownBy W1 row) (hne : some g ≠ row) : IsS46 w0 W1 g f0 f1 := by
  obtain ⟨A0, c0, hb, hg, hr0⟩ := h
  exact ⟨A0, c0, blk_grown hb hw hne, hg, hr0⟩
theorem IsS46.own_neN {w0 W : World} {g : Nat} {f0 : List Int} {f1 : Int} {α : Type} {d : Kd α} {e : Nat} {base : Nat} {ok : Nat → Prop} {v : Value} {xs : List α} (h : IsS46 w0 W g f0 f1) (ho : Kd.N d e W base ok v xs) (ht : e ≠ 46) : some g ≠ v.ownBlock := by
  obtain ⟨A0, c0, hb, hg, hr0⟩ := h
  exact Kd.N_ne ho hb ht
theorem IsS46.fresh {w0 W : World} {g : Nat} {f0 : List Int} {f1 : Int} (h : IsS46 w0 W g f0 f1) : ∀ k, W.heap.size ≤ k → k ≠ g := by
  obtain ⟨A0, c0, hb, hg, hr0⟩ := h
  exact Kd.freshB hb
theorem IsS46.kept {w0 W : World} {g : Nat} {f0 : List Int} {f1 : Int} {W1 : World} {S : Nat → Prop} (h : IsS46 w0 W g f0 f1) (hk : Kept W W1 S) (hne : ¬ S g) : IsS46 w0 W1 g f0 f1 := by
  obtain ⟨A0, c0, hb, hg, hr0⟩ := h
  exact ⟨A0, c0, blk_kept hb hk hne, hg, hr0⟩
theorem IsS46.below {w0 W : World} {g : Nat} {f0 : List Int} {f1 : Int} {W1 : World} (h : IsS46 w0 W g f0 f1) (hw : Below W.heap.size W W1) : IsS46 w0 W1 g f0 f1 := h.grown (grown_of_below hw none) (by simp)
theorem IsS46.alloc {w0 W : World} {g : Nat} {f0 : List Int} {f1 : Int} (h : IsS46 w0 W g f0 f1) (o : Obj) : IsS46 w0 (W.alloc o) g f0 f1 := h.below (below_alloc (Below.refl _ _) o)
theorem IsS46.drewN {w0 W : World} {g : Nat} {f0 : List Int} {f1 : Int} (h : IsS46 w0 W g f0 f1) (m : Nat) : IsS46 w0 (W.drewN m) g f0 f1 := h
theorem IsS46.drew {w0 W : World} {g : Nat} {f0 : List Int} {f1 : Int} (h : IsS46 w0 W g f0 f1) : IsS46 w0 W.drew g f0 f1 := h
theorem IsS46.at_ {w0 W : World} {g : Nat} {f0 : List Int} {f1 : Int} {w' : World} {m : Nat} (hq : W.drewN m = w') (h : IsS46 w0 W g f0 f1) : IsS46 w0 w' g f0 f1 := by subst hq; exact IsS46.drewN h m
theorem IsS46.apart {w0 W : World} {g : Nat} {f0 : List Int} {f1 : Int} {α : Type} {d : Kd α} {e : Nat} {base : Nat} {ok : Nat → Prop} {v : Value} {xs : List α} (h : IsS46 w0 W g f0 f1) (ho : d.R e W base ok v xs) (ht : ∀ q, q ∈ e :: d.E → q ≠ 46) : d.R e W base (fun k => ok k ∧ k ≠ g) v xs := by
  obtain ⟨A0, c0, hb, hg, hr0⟩ := h
  exact Kd.R_types ho hb ht
theorem IsS46.own_ne {w0 W : World} {g : Nat} {f0 : List Int} {f1 : Int} {α : Type} {d : Kd α} {e : Nat} {base : Nat} {ok : Nat → Prop} {v : Value} {xs : List α} (h : IsS46 w0 W g f0 f1) (ho : d.R e W base ok v xs) (ht : e ≠ 46) : some g ≠ v.ownBlock := by
  obtain ⟨A0, c0, hb, hg, hr0⟩ := h
  exact Kd.R_ne ho hb ht
theorem IsS46.apartQ {w0 W : World} {g : Nat} {f0 : List Int} {f1 : Int} {α : Type} {d : Kd α} {e : Nat} {base : Nat} {ok : Nat → Prop} {v : Value} {xs : List α} (h : IsS46 w0 W g f0 f1) (ho : d.Q e W base ok v xs) (ht : ∀ q, q ∈ e :: d.E → q ≠ 46) : d.Q e W base (fun k => ok k ∧ k ≠ g) v xs := by
  obtain ⟨A0, c0, hb, hg, hr0⟩ := h
  exact Kd.Q_types ho hb ht
theorem IsS46.own_neQ {w0 W : World} {g : Nat} {f0 : List Int} {f1 : Int} {α : Type} {d : Kd α} {e : Nat} {base : Nat} {ok : Nat → Prop} {v : Value} {xs : List α} (h : IsS46 w0 W g f0 f1) (ho : d.Q e W base ok v xs) (ht : e ≠ 46) : some g ≠ v.ownBlock := by
  obtain ⟨A0, c0, hb, hg, hr0⟩ := h
  exact Kd.Q_ne ho hb ht
theorem IsS46.apartS {w0 W : World} {g : Nat} {f0 : List Int} {f1 : Int} {α : Type} {d : Kd α} {e : Nat} {base : Nat} {ok : Nat → Prop} {v : Value} {xs : List α} (h : IsS46 w0 W g f0 f1) (ho : d.S e W base ok v xs) (ht : ∀ q, q ∈ e :: d.E → q ≠ 46) : d.S e W base (fun k => ok k ∧ k ≠ g) v xs := by
  obtain ⟨A0, c0, hb, hg, hr0⟩ := h
  exact Kd.S_types ho hb ht
theorem IsS46.own_neS {w0 W : World} {g : Nat} {f0 : List Int} {f1 : Int} {α : Type} {d : Kd α} {e : Nat} {base : Nat} {ok : Nat → Prop} {v : Value} {xs : List α} (h : IsS46 w0 W g f0 f1) (ho : d.S e W base ok v xs) (ht : e ≠ 46) : some g ≠ v.ownBlock := by
  obtain ⟨A0, c0, hb, hg, hr0⟩ := h
  exact Kd.S_ne ho hb ht
theorem IsS46.lt {w0 W : World} {g : Nat} {f0 : List Int} {f1 : Int} (h : IsS46 w0 W g f0 f1) : g < W.heap.size := by
  obtain ⟨A0, c0, hb, hg, hr0⟩ := h
  exact blk_lt hb
theorem IsS46.ge {w0 W : World} {g : Nat} {f0 : List Int} {f1 : Int} (h : IsS46 w0 W g f0 f1) : w0.heap.size ≤ g := by
  obtain ⟨A0, c0, hb, hg, hr0⟩ := h
  exact hg
theorem IsS46.ne_blk {w0 W : World} {g : Nat} {f0 : List Int} {f1 : Int} {a : Nat} {cs : Array Value} {t : TypeId} {fr : Nat × Nat} (h : IsS46 w0 W g f0 f1) (hb2 : W.heap[a]? = some (.cells cs t fr)) (ht : t ≠ 46) : g ≠ a := by
  obtain ⟨A0, c0, hb, hg, hr0⟩ := h
  rintro rfl
  rw [hb] at hb2
  injection hb2 with hb2
  injection hb2 with _ ht2
  exact ht ht2.symm
theorem IsS46.far {w0 W : World} {g : Nat} {f0 : List Int} {f1 : Int} {p : Addr} (h : IsS46 w0 W g f0 f1) (hne : g ≠ p.block) (u : Value) : IsS46 w0 (W.setCell p u) g f0 f1 := by
  obtain ⟨A0, c0, hb, hg, hr0⟩ := h
  exact ⟨A0, c0, blk_far hb hne u, hg, hr0⟩
theorem cellS46_0 {W : World} {g : Nat} {A0 : Option Addr} {c0 : Nat} {f0 : List Int} {f1 : Int} (h : W.heap[g]? = some (.cells #[.slice A0 f0.length c0, .int .i64 f1] 46 (0, 0))) : W.cell? ⟨g, 0, none⟩ = some (.slice A0 f0.length c0) := (blk_cell h 0).trans rfl
theorem cellS46_1 {W : World} {g : Nat} {A0 : Option Addr} {c0 : Nat} {f0 : List Int} {f1 : Int} (h : W.heap[g]? = some (.cells #[.slice A0 f0.length c0, .int .i64 f1] 46 (0, 0))) : W.cell? ⟨g, 1, none⟩ = some (.int .i64 f1) := (blk_cell h 1).trans rfl
theorem IsS46.set_1 {w0 W : World} {g : Nat} {f0 : List Int} {f1 : Int} (h : IsS46 w0 W g f0 f1) (x : Int) : IsS46 w0 (W.setCell ⟨g, 1, none⟩ (.int .i64 x)) g f0 x := by
  obtain ⟨A0, c0, hb, hg, hr0⟩ := h
  exact ⟨A0, c0, by simpa using blk_set hb 1 (.int .i64 x), hg, hr0⟩
theorem IsS46.new (w0 W : World) (A0 : Option Addr) (c0 : Nat) (f0 : List Int) (f1 : Int) (hB : Below w0.heap.size w0 W) (hr0 : Kd.C (Kd.int .u8) w0 A0 f0.length f0) : IsS46 w0 (W.alloc (.cells #[.slice A0 f0.length c0, .int .i64 f1] 46)) W.heap.size f0 f1 := ⟨A0, c0, by simpa using heap_alloc_new W _, hB.size, hr0⟩

/-! ### storagebarterplay_New: function 6 -/
def storagebarterplay_New.f (l0 : List Int) : Option (List Int × Int) := if (l0.length : Int) > 300 then (if 300 ≤ (l0.length : Int) then (some (l0.take 300, 0)) else (none)) else (some (l0, 0))
set_option maxHeartbeats 8000000 in
set_option maxRecDepth 100000 in
theorem storagebarterplay_New.calls (A0 : Option Addr) (c0 : Nat) (l0 : List Int) (r1 : List Int) (r2 : Int) (w0 w : World) (hB : Below w0.heap.size w0 w) (hr0 : Kd.C (Kd.int .u8) w0 A0 l0.length l0) (hc0 : l0.length ≤ c0) (h : storagebarterplay_New.f l0 = some (r1, r2)) :
    Calls Tryd.prog 6 #[.slice A0 l0.length c0] w fun e w' => ∃ g_ : Nat, e = .returned (.pointer (some ⟨g_, 0, none⟩)) ∧ IsS46 w0 w' g_ r1 r2 ∧ Below w0.heap.size w0 w' ∧ Below w.heap.size w w' := by
  have hu46 := Tryd.underlying46
  have HR0 := Aside0.mk hr0
  have HC0 := Aside0.mk hc0
  clear hr0 hc0
  have HBW := Aside0.mk (Below.refl w.heap.size w)
  have HW0 := Aside0.mk hB.size
  have HB := Aside0.mk hB
  clear hB
  have H : (if (l0.length : Int) > 300 then (if 300 ≤ (l0.length : Int) then (some (l0.take 300, 0)) else (none)) else (some (l0, 0))) = some (r1, r2) := h
  clear h
  by_cases c2 : (l0.length : Int) > 300
  ·rw [if_pos c2] at H
   have c2b0 : decide (300 < (l0.length : Int)) = true := decide_eq_true c2
   have c2b1 : decide (300 < l0.length) = true := decide_eq_true (by omega)
   clear c2
   by_cases c3 : 300 ≤ (l0.length : Int)
   ·rw [if_pos c3] at H
    have c3b0 := eq_true c3
    have c3b1 : decide (300 ≤ (l0.length : Int)) = true := decide_eq_true c3
    clear c3
    simp only [Option.some.injEq, Prod.mk.injEq] at H
    obtain ⟨rfl, rfl⟩ := H
    obtain ⟨i04, hi04, _, hsz4, _⟩ := info_parts info5
    obtain ⟨hcut4, hA4, hC4⟩ := print_take_of (P := Tryd.prog) (Value.int .u8) 0 22 5 .i64 Tryd.underlying22 hi04 hsz4 A0 c0 l0 300 (by omega) (of_decide_eq_true (by first | (with_reducible assumption) | assumption)) HC0.out
    have HR121 := Aside0.mk (Kd.C_of_reads (h1 := fun _ => rfl) (hA4 _ (Kd.reads_of_C HR0.out)))
    have HC121 := Aside0.mk hC4
    clear hA4 hC4 hi04 hsz4
    go_enter Tryd.func6, Tryd.ntmps6
    go_wp2_with (first | ((with_reducible refine gate_dst (N := 10) rfl ?_); refine box_event ?hg (N := 10) ?hd (cs := #[.slice A0 (l0.take 300).length c0, .int .i64 0]) (t := 46) ?hr ?_; (case hd => rfl); (case hg => rfl); (case hr => first | (go_simp; done) | (go_simp; rfl)); intro gb122 hg w5 hbox hb; have n0_ := Aside0.mk (below_step HBW.out hb); have n1_ := Aside0.mk (below_step (by repeat (first | (with_reducible first | exact HB.out | apply below_alloc | apply pw_below_drewN | apply below_drew1) | exact HB.out)) hb); have n2_ := Aside0.mk (hbox); have n3_ := Aside0.mk ((by rw [hg]; exact (below_size (by repeat (first | (with_reducible first | exact HBW.out | apply below_alloc | apply pw_below_drewN | apply below_drew1) | exact HBW.out))) : w.heap.size ≤ gb122)); have n4_ := Aside0.mk ((Nat.le_trans HW0.out (by rw [hg]; exact (below_size (by repeat (first | (with_reducible first | exact HBW.out | apply below_alloc | apply pw_below_drewN | apply below_drew1) | exact HBW.out))) : w.heap.size ≤ gb122) : w0.heap.size ≤ gb122)); clear HBW; clear HB; have HBW := n0_; have HB := n1_; have BK122 := n2_; have GW122 := n3_; have GE122 := n4_; clear n0_ n1_ n2_ n3_ n4_; clear hb hbox hg))
    go_ret
    exact ⟨_, rfl, (show IsS46 w0 _ gb122 (l0.take 300) 0 from ⟨_, _, by (with_reducible repeat (first | refine blk_drewN ?_ _ | refine blk_drew ?_ | refine blk_alloc ?_ _)); exact BK122.out, GE122.out, HR121.out⟩), by repeat (first | (with_reducible first | exact HB.out | apply below_alloc | apply pw_below_drewN | apply below_drew1 | refine below_set ?_ GE122.out) | exact HB.out), by repeat (first | (with_reducible first | exact HBW.out | apply below_alloc | apply pw_below_drewN | apply below_drew1 | refine below_set ?_ GW122.out) | exact HBW.out)⟩
   ·rw [if_neg c3] at H
    exact absurd H (by simp)
  ·rw [if_neg c2] at H
   have c2b0 : decide (300 < (l0.length : Int)) = false := decide_eq_false c2
   have c2b1 : decide (300 < l0.length) = false := decide_eq_false (by omega)
   clear c2
   simp only [Option.some.injEq, Prod.mk.injEq] at H
   obtain ⟨rfl, rfl⟩ := H
   go_enter Tryd.func6, Tryd.ntmps6
   go_wp2_with (first | ((with_reducible refine gate_dst (N := 10) rfl ?_); refine box_event ?hg (N := 10) ?hd (cs := #[.slice A0 l0.length c0, .int .i64 0]) (t := 46) ?hr ?_; (case hd => rfl); (case hg => rfl); (case hr => first | (go_simp; done) | (go_simp; rfl)); intro gb123 hg w6 hbox hb; have n0_ := Aside0.mk (below_step HBW.out hb); have n1_ := Aside0.mk (below_step (by repeat (first | (with_reducible first | exact HB.out | apply below_alloc | apply pw_below_drewN | apply below_drew1) | exact HB.out)) hb); have n2_ := Aside0.mk (hbox); have n3_ := Aside0.mk ((by rw [hg]; exact (below_size (by repeat (first | (with_reducible first | exact HBW.out | apply below_alloc | apply pw_below_drewN | apply below_drew1) | exact HBW.out))) : w.heap.size ≤ gb123)); have n4_ := Aside0.mk ((Nat.le_trans HW0.out (by rw [hg]; exact (below_size (by repeat (first | (with_reducible first | exact HBW.out | apply below_alloc | apply pw_below_drewN | apply below_drew1) | exact HBW.out))) : w.heap.size ≤ gb123) : w0.heap.size ≤ gb123)); clear HBW; clear HB; have HBW := n0_; have HB := n1_; have BK123 := n2_; have GW123 := n3_; have GE123 := n4_; clear n0_ n1_ n2_ n3_ n4_; clear hb hbox hg))
   go_ret
   exact ⟨_, rfl, (show IsS46 w0 _ gb123 l0 0 from ⟨_, _, by (with_reducible repeat (first | refine blk_drewN ?_ _ | refine blk_drew ?_ | refine blk_alloc ?_ _)); exact BK123.out, GE123.out, HR0.out⟩), by repeat (first | (with_reducible first | exact HB.out | apply below_alloc | apply pw_below_drewN | apply below_drew1 | refine below_set ?_ GE123.out) | exact HB.out), by repeat (first | (with_reducible first | exact HBW.out | apply below_alloc | apply pw_below_drewN | apply below_drew1 | refine below_set ?_ GW123.out) | exact HBW.out)⟩

/-! ### storagebarterplay_Dice_Pick: function 7 -/
def storagebarterplay_Dice_Pick.f (s0_0 : List Int) (s0_1 : Int) (a1 : Int) : Option (Int × Int) := if s0_1 ≥ (s0_0.length : Int) then (some (0, s0_1)) else (if 0 ≤ (wrap64 ((wrap64 (s0_1 + 1)) - 1)) then (if (wrap64 ((wrap64 (s0_1 + 1)) - 1)) < (s0_0.length : Int) then (if a1 = 0 then (none) else (some (Int.tmod (wrap64 (rd s0_0 (wrap64 ((wrap64 (s0_1 + 1)) - 1)))) a1, wrap64 (s0_1 + 1)))) else (none)) else (none))
set_option maxHeartbeats 8000000 in
set_option maxRecDepth 100000 in
theorem storagebarterplay_Dice_Pick.calls (g : Nat) (s0_0 : List Int) (s0_1 : Int) (a1 : Int) (r1 : Int) (r2 : Int) (w0 w : World) (hI : IsS46 w0 w g s0_0 s0_1) (hB : Below w0.heap.size w0 w) (h : storagebarterplay_Dice_Pick.f s0_0 s0_1 a1 = some (r1, r2)) :
    Calls Tryd.prog 7 #[.pointer (some ⟨g, 0, none⟩), .int .i64 a1] w fun e w' => e = .returned (.int .i64 r1) ∧ IsS46 w0 w' g s0_0 r2 ∧ Below w0.heap.size w0 w' ∧ KeepBut w w' g none := by
  have HI0 := Aside0.mk hI
  have HK := Aside0.mk (KeepBut.refl w g none)
  have HL := Aside0.mk hB.size
  clear hI
  have HW0 := Aside0.mk hB.size
  have HB := Aside0.mk hB
  clear hB
  have H : (if s0_1 ≥ (s0_0.length : Int) then (some (0, s0_1)) else (if 0 ≤ (wrap64 ((wrap64 (s0_1 + 1)) - 1)) then (if (wrap64 ((wrap64 (s0_1 + 1)) - 1)) < (s0_0.length : Int) then (if a1 = 0 then (none) else (some (Int.tmod (wrap64 (rd s0_0 (wrap64 ((wrap64 (s0_1 + 1)) - 1)))) a1, wrap64 (s0_1 + 1)))) else (none)) else (none))) = some (r1, r2) := h
  clear h
  by_cases c3 : s0_1 ≥ (s0_0.length : Int)
  ·rw [if_pos c3] at H
   have c3b0 : decide ((s0_0.length : Int) ≤ s0_1) = true := decide_eq_true c3
   clear c3
   simp only [Option.some.injEq, Prod.mk.injEq] at H
   obtain ⟨rfl, rfl⟩ := H
   obtain ⟨ASz4_0, cSz4_0, HGz4, hgz4, HSz4_0⟩ := HI0.out
   have hcz4_0 := cellS46_0 HGz4
   have hcz4_1 := cellS46_1 HGz4
   have hfz4_1 := blk_frozen HGz4 1
   clear HGz4 hgz4
   go_enter Tryd.func7, Tryd.ntmps7
   go_wp2
   repeat (go_quiet (fail); try go_wp2)
   go_ret
   exact ⟨by first | rfl | (simp [errW_none, errW_some] <;> rfl) | (simp [*, errW_none, errW_some] <;> rfl), by repeat (first | (with_reducible first | exact HI0.out | apply IsS46.alloc | apply IsS46.drewN | apply IsS46.drew | apply IsS46.set_1) | exact HI0.out), by repeat (first | (with_reducible first | exact HB.out | apply below_alloc | apply pw_below_drewN | apply below_drew1 | refine below_set ?_ (IsS46.ge HI0.out)) | exact HB.out), by repeat (first | (with_reducible first | exact HK.out | apply KeepBut.set_ | apply keep_drewN | apply keep_drew | apply keep_alloc) | exact HK.out)⟩
  ·rw [if_neg c3] at H
   have c3b0 : decide ((s0_0.length : Int) ≤ s0_1) = false := decide_eq_false c3
   clear c3
   obtain ⟨ji5, hji5⟩ : ∃ j_ : Int, (wrap64 ((wrap64 (s0_1 + 1)) - 1)) = j_ := ⟨_, rfl⟩
   replace H : (if 0 ≤ (ji5) then (if (ji5) < (s0_0.length : Int) then (if a1 = 0 then (none) else (some (Int.tmod (wrap64 (rd s0_0 (ji5))) a1, wrap64 (s0_1 + 1)))) else (none)) else (none)) = some (r1, r2) := by first | (rw [hji5] at H; exact H) | (simp only [hji5] at H ⊢; exact H)
   have hji5w : (IntKind.i64.wrap ((wrap64 (s0_1 + 1)) - 1)) = ji5 := (i64_w _).trans hji5
   by_cases c6 : 0 ≤ (ji5)
   ·rw [if_pos c6] at H
    have c6b0 : decide (0 ≤ (ji5)) = true := decide_eq_true c6
    clear c6
    by_cases c7 : (ji5) < (s0_0.length : Int)
    ·rw [if_pos c7] at H
     have c7b0 : decide ((ji5) < (s0_0.length : Int)) = true := decide_eq_true c7
     clear c7
     by_cases c8 : a1 = 0
     ·rw [if_pos c8] at H
      exact absurd H (by simp)
     ·rw [if_neg c8] at H
      have c8b0 : (a1 == 0) = false := beq_eq_false_iff_ne.mpr c8
      have c8b1 : (a1 != 0) = true := bne_iff_ne.mpr c8
      simp only [Option.some.injEq, Prod.mk.injEq] at H
      obtain ⟨rfl, rfl⟩ := H
      obtain ⟨ASz9_0, cSz9_0, HGz9, hgz9, HSz9_0⟩ := HI0.out
      have hcz9_0 := cellS46_0 HGz9
      have hcz9_1 := cellS46_1 HGz9
      have hfz9_1 := blk_frozen HGz9 1
      clear HGz9 hgz9
      have p124 : 0 ≤ ((ji5) : Int) := of_decide_eq_true (by first | (with_reducible assumption) | assumption)
      have q124 : (ji5) < (s0_0.length : Int) := of_decide_eq_true (by first | (with_reducible assumption) | assumption)
      obtain ⟨ad124, e124, hx124_0⟩ := Kd.at_int HSz9_0 (ji5) p124 q124
      cases e124
      have hn124_0 : ad124.block ≠ g := Nat.ne_of_lt (Nat.lt_of_lt_of_le (by have := World.block_lt_of_cell? _ _ hx124_0; first | rwa [add_block] at this | exact this) (IsS46.ge HI0.out))
      replace hx124_0 := pw_cell_below HB.out hx124_0
      replace hx124_0 := (cell_far (p := ⟨g, 1, none⟩) (by first | (rw [add_block]; exact hn124_0) | (show (Addr.add _ _).block ≠ _; rw [add_block]; exact hn124_0) | exact hn124_0) (.int .i64 (wrap64 (s0_1 + 1)))).trans hx124_0
      (try have hy124_0 := fun (n_ : Nat) => (show (((w.drewN n_).setCell ⟨g, 1, none⟩ (.int .i64 (wrap64 (s0_1 + 1))))).cell? _ = some _ from hx124_0))
      clear hn124_0
      replace p124 := eq_true p124
      replace q124 := eq_true q124
      go_enter Tryd.func7, Tryd.ntmps7
      go_wp2
      repeat (go_quiet (fail); try go_wp2)
      go_ret
      exact ⟨by first | rfl | (simp [errW_none, errW_some] <;> rfl) | (simp only [← hji5]; first | rfl | (simp [errW_none, errW_some] <;> rfl)) | (simp [*, errW_none, errW_some] <;> rfl), by repeat (first | (with_reducible first | exact HI0.out | apply IsS46.alloc | apply IsS46.drewN | apply IsS46.drew | apply IsS46.set_1) | exact HI0.out), by repeat (first | (with_reducible first | exact HB.out | apply below_alloc | apply pw_below_drewN | apply below_drew1 | refine below_set ?_ (IsS46.ge HI0.out)) | exact HB.out), by repeat (first | (with_reducible first | exact HK.out | apply KeepBut.set_ | apply keep_drewN | apply keep_drew | apply keep_alloc) | exact HK.out)⟩
    ·rw [if_neg c7] at H
     exact absurd H (by simp)
   ·rw [if_neg c6] at H
    exact absurd H (by simp)

end Go.Proofs.YtccchkjbcokfnaaDoor.PDutyAll
