-- Printed by this session's own program (not print.sh's)
import Derived.Test.YtpklljejiofnfaaDoorPAllx0
import Derived.Test.YtpklljejiofnfaaDoorPAllx7
import Derived.Test.YtpklljejiofnfaaDoorPAllx8
namespace Go.Proofs.YtpklljejiofnfaaDoor.PAll
open Go.RowKit Go.Proofs.YtpklljejiofnfaaDoorW.PrintWords Go.Proofs.YtpklljejiofnfaaDoorW.PrintLast Go.Proofs.YtpklljejiofnfaaDoorW.PrintMore
attribute [local go_sem] max2_int min2_int max_two min_two max_three min_three max_four min_four   -- for this text's walks alone
set_option linter.unusedVariables false
set_option linter.unusedSimpArgs false

/-! ### slices_Index_int_int: function 110 -/
def slices_Index_int_int.l0 : Nat → List Int → Int → Int → Int → Option (Int)
  | 0, _, _, _, _ => none
  | k + 1, x0, x1, x7, x8 => if x8 < x7 then (if 0 ≤ x8 then (if x8 < (x0.length : Int) then (if x1 = (rd x0 x8) then (some x8) else (slices_Index_int_int.l0 k x0 x1 x7 (wrap64 (x8 + 1)))) else (none)) else (none)) else (some (-1))
def slices_Index_int_int.f (k : Nat) (l0 : List Int) (a1 : Int) : Option (Int) := slices_Index_int_int.l0 k l0 a1 (l0.length : Int) 0
theorem slices_Index_int_int.mono_l : ∀ k, (∀ y0 y1 y2 y3, LeO (slices_Index_int_int.l0 k y0 y1 y2 y3) (slices_Index_int_int.l0 (k + 1) y0 y1 y2 y3))
  | 0 => fun _ _ _ _ r h => by simp [slices_Index_int_int.l0] at h
  | k + 1 => by
    have ih0 := slices_Index_int_int.mono_l k
    · intro y0 y1 y2 y3
      unfold slices_Index_int_int.l0
      repeat' first
      | (with_reducible exact ih0 _ _ _ _)
      | (with_reducible exact LeO.refl _)
      | (with_reducible exact LeO.none _)
      | (with_reducible refine LeO.ite ?_ ?_)
      | (with_reducible refine LeO.bind ?_ (fun _ => ?_))
      | exact ih0 _ _ _ _
      | exact LeO.none _
      | refine LeO.ite ?_ ?_
      | refine LeO.bind ?_ (fun _ => ?_)
theorem slices_Index_int_int.mono : ∀ a0 a1 k, LeO (slices_Index_int_int.f k a0 a1) (slices_Index_int_int.f (k + 1) a0 a1) := by
  intro a0 a1 k
  have ih0 := slices_Index_int_int.mono_l k
  unfold slices_Index_int_int.f
  repeat' first
      | (with_reducible exact ih0 _ _ _ _)
      | (with_reducible exact LeO.refl _)
      | (with_reducible exact LeO.none _)
      | (with_reducible refine LeO.ite ?_ ?_)
      | (with_reducible refine LeO.bind ?_ (fun _ => ?_))
      | exact ih0 _ _ _ _
      | exact LeO.none _
      | refine LeO.ite ?_ ?_
      | refine LeO.bind ?_ (fun _ => ?_)
set_option maxHeartbeats 8000000 in
set_option maxRecDepth 100000 in
theorem slices_Index_int_int.calls (k : Nat) (A0 : Option Addr) (c0 : Nat) (l0 : List Int) (a1 : Int) (r : Int) (w : World) (hr0 : Kd.C (Kd.int .i64) w A0 l0.length l0) (hc0 : l0.length ≤ c0) (h : slices_Index_int_int.f k l0 a1 = some r) :
    Calls Tryd.prog 110 #[.slice A0 l0.length c0, .int .i64 a1] w fun e w' => e = .returned (.int .i64 r) ∧ Drawn0 w w' := by
  have HR0 := Aside0.mk hr0
  have HC0 := Aside0.mk hc0
  clear hr0 hc0
  have H : (slices_Index_int_int.l0 k l0 a1 (l0.length : Int) 0) = some r := h
  clear h
  have H' := Aside0.mk H
  clear H
  go_enter Tryd.func110, Tryd.ntmps110
  go_wp2
  go_loopg [8] k (fun kq v8 w' => ∃ (x8_1 : Int), v8 = .int .i64 x8_1 ∧ Aside0 (slices_Index_int_int.l0 kq l0 a1 (l0.length : Int) x8_1 = some r) ∧ Aside0 (kq ≤ k) ∧ Drawn0 w w')
  case atStart => exact ⟨(0), (by first | rfl | (simp; done) | (simp [*]; done)), H', ⟨Nat.le_refl _⟩, by repeat (first | exact Drawn0.refl _ | apply Drawn0.step)⟩
  case round =>
   clear H'
   try clear c1
   try clear p2
   obtain ⟨x8_1, rfl, HA, HK1, ⟨m1, rfl⟩⟩ := hrel
   cases gk with
   | zero => exact absurd HA.out (by simp [slices_Index_int_int.l0])
   | succ k1 =>
    have H := HA.out
    clear HA
    simp only [slices_Index_int_int.l0] at H
    by_cases c3 : x8_1 < (l0.length : Int)
    ·rw [if_pos c3] at H
     have c3b0 : decide (x8_1 < (l0.length : Int)) = true := decide_eq_true c3
     clear c3
     by_cases c4 : 0 ≤ x8_1
     ·rw [if_pos c4] at H
      have c4b0 : decide (0 ≤ x8_1) = true := decide_eq_true c4
      clear c4
      by_cases c5 : x8_1 < (l0.length : Int)
      ·rw [if_pos c5] at H
       have c5b0 : decide (x8_1 < (l0.length : Int)) = true := decide_eq_true c5
       clear c5
       by_cases c6 : a1 = (rd l0 x8_1)
       ·rw [if_pos c6] at H
        have c6b0 : (a1 == (rd l0 x8_1)) = true := beq_iff_eq.mpr c6
        have c6b1 : (a1 != (rd l0 x8_1)) = false := bne_eq_false_iff_eq.mpr c6
        clear c6
        obtain rfl := Option.some.inj H
        have p197 : 0 ≤ (x8_1 : Int) := of_decide_eq_true (by first | (with_reducible assumption) | assumption)
        have q197 : x8_1 < (l0.length : Int) := of_decide_eq_true (by first | (with_reducible assumption) | assumption)
        obtain ⟨ad197, e197, hx197_0⟩ := Kd.at_int HR0.out x8_1 p197 q197
        cases e197
        replace p197 := eq_true p197
        replace q197 := eq_true q197
        go_wp2
        go_ret
        exact ⟨by first | rfl | (simp; done) | (simp [*]; done), by repeat (first | exact Drawn0.refl _ | apply Drawn0.step)⟩
       ·rw [if_neg c6] at H
        have c6b0 : (a1 == (rd l0 x8_1)) = false := beq_eq_false_iff_ne.mpr c6
        have c6b1 : (a1 != (rd l0 x8_1)) = true := bne_iff_ne.mpr c6
        have H' := Aside0.mk H
        clear H
        have p197 : 0 ≤ (x8_1 : Int) := of_decide_eq_true (by first | (with_reducible assumption) | assumption)
        have q197 : x8_1 < (l0.length : Int) := of_decide_eq_true (by first | (with_reducible assumption) | assumption)
        obtain ⟨ad197, e197, hx197_0⟩ := Kd.at_int HR0.out x8_1 p197 q197
        cases e197
        replace p197 := eq_true p197
        replace q197 := eq_true q197
        go_wp2
        go_roundg k1
        case measure => have := HK1.out; omega
        case rel => exact ⟨(wrap64 (x8_1 + 1)), (by first | rfl | (simp; done) | (simp [*]; done)), H', ⟨by have := HK1.out; omega⟩, by repeat (first | exact Drawn0.refl _ | apply Drawn0.step)⟩
      ·rw [if_neg c5] at H
       exact absurd H (by simp)
     ·rw [if_neg c4] at H
      exact absurd H (by simp)
    ·rw [if_neg c3] at H
     have c3b0 : decide (x8_1 < (l0.length : Int)) = false := decide_eq_false c3
     clear c3
     obtain rfl := Option.some.inj H
     go_wp2
     go_ret
     exact ⟨by first | rfl | (simp; done) | (simp [*]; done), by repeat (first | exact Drawn0.refl _ | apply Drawn0.step)⟩

/-! ### slices_Contains_int_int: function 87 -/
def slices_Contains_int_int.f (k : Nat) (l0 : List Int) (a1 : Int) : Option (Bool) := (slices_Index_int_int.f k l0 a1).bind fun t198 => (some (decide (t198 ≥ 0)))
theorem slices_Contains_int_int.mono : ∀ a0 a1 k, LeO (slices_Contains_int_int.f k a0 a1) (slices_Contains_int_int.f (k + 1) a0 a1) := by
  intro a0 a1 k
  unfold slices_Contains_int_int.f
  repeat' first
      | (with_reducible exact slices_Index_int_int.mono _ _ _)
      | (with_reducible exact LeO.refl _)
      | (with_reducible exact LeO.none _)
      | (with_reducible refine LeO.ite ?_ ?_)
      | (with_reducible refine LeO.bind ?_ (fun _ => ?_))
      | exact slices_Index_int_int.mono _ _ _
      | exact LeO.none _
      | refine LeO.ite ?_ ?_
      | refine LeO.bind ?_ (fun _ => ?_)
set_option maxHeartbeats 8000000 in
set_option maxRecDepth 100000 in
theorem slices_Contains_int_int.calls (k : Nat) (A0 : Option Addr) (c0 : Nat) (l0 : List Int) (a1 : Int) (r : Bool) (w : World) (hr0 : Kd.C (Kd.int .i64) w A0 l0.length l0) (hc0 : l0.length ≤ c0) (h : slices_Contains_int_int.f k l0 a1 = some r) :
    Calls Tryd.prog 87 #[.slice A0 l0.length c0, .int .i64 a1] w fun e w' => e = .returned (.bool r) ∧ Drawn0 w w' := by
  have HR0 := Aside0.mk hr0
  have HC0 := Aside0.mk hc0
  clear hr0 hc0
  have H : ((slices_Index_int_int.f k l0 a1).bind fun t198 => (some (decide (t198 ≥ 0)))) = some r := h
  clear h
  replace H := Option.bind_eq_some_iff.mp H
  obtain ⟨t198, A30, H⟩ := H
  replace H : (some (decide (t198 ≥ 0))) = some r := H
  have A3 := Aside0.mk A30
  clear A30
  obtain rfl := Option.some.inj H
  go_enter Tryd.func87, Tryd.ntmps87
  go_wp2_with (first | ((with_reducible refine gate_callee (f := 110) rfl ?_); refine goesL_ (some 7) rfl rfl Tryd.func110 (by kernel_rfl) rfl #[.slice A0 l0.length c0, .int .i64 a1] rfl (by (try simp only [List.map_toArray, List.map_cons, List.map_nil]); first | done | rfl | (simp only [List.length_drop, List.length_take]; rfl)) ?_; (with_reducible refine (slices_Index_int_int.calls k _ _ l0 a1 t198 _ ?side1 ?side2 A3.out).mono ?_); (case side1 => repeat (first | exact HR0.out | (with_reducible refine Kd.C_alloc ?_ _) | (with_reducible refine Kd.C_drewN ?_ _) | (with_reducible refine Kd.C_drew ?_))); (case side2 => exact HC0.out); rintro e w' ⟨rfl, ⟨nd, rfl⟩⟩; refine ⟨_, rfl, ?_⟩))
  go_ret
  exact ⟨by first | rfl | (simp; done) | (simp [*]; done), by repeat (first | exact Drawn0.refl _ | apply Drawn0.step)⟩

/-! ### duty_Plan_1: function 94, by hand -/
def duty_both (first second slot tick kd : Int) : List S61 := [⟨tick, slot, first, kd⟩, ⟨tick, slot, second, kd⟩]
theorem duty_both_length (first second slot tick : Int) (ks : List Int) : (ks.flatMap (duty_both first second slot tick)).length = 2 * ks.length := by
  induction ks with
  | nil => rfl
  | cons k ks ih => rw [List.flatMap_cons, List.length_append, ih]; simp [duty_both]; omega
theorem duty_both_take (first second slot tick : Int) (ks : List Int) (j : Nat) (h : j < ks.length) : (ks.take (j + 1)).flatMap (duty_both first second slot tick) = (ks.take j).flatMap (duty_both first second slot tick) ++ duty_both first second slot tick (ks.getD j 0) := by
  rw [List.take_succ_eq_append_getElem h, List.flatMap_append]
  simp [List.getD_eq_getElem?_getD, h]
/-- What stands in memory while the plan is made. -/
structure duty_PlanSt (w0 W : World) (ba bs bo : Nat) (first second start term : Int) (v4 : Value) (slot : Int) (v : Value) (xs : List S61) : Prop where
  below : Below w0.heap.size w0 W
  ga : w0.heap.size ≤ bo
  a : W.heap[ba]? = some (.cells #[.int .i64 first, .int .i64 second, .int .i64 start, .int .i64 term, v4] 45 (0, 0))
  s : W.heap[bs]? = some (.cells #[.int .i64 slot] 3 (0, 0))
  o : W.heap[bo]? = some (.cells #[v] 40 (0, 0))
  r : Kd.R k61 61 W w0.heap.size (fun _ => True) v xs
theorem duty_PlanSt.step {w0 W w1 : World} {ba bs bo : Nat} {first second start term : Int} {v4 : Value} {slot : Int} {v v1 : Value} {xs : List S61} {x : S61}
    (h : duty_PlanSt w0 W ba bs bo first second start term v4 slot v xs) (hg : W.grownBy w1 v.ownBlock) (hb : Below w0.heap.size w0 w1) (hr : Kd.R k61 61 w1 w0.heap.size (fun _ => True) v1 (xs ++ [x])) :
    duty_PlanSt w0 (w1.setCell ⟨bo, 0, none⟩ v1) ba bs bo first second start term v4 slot v1 (xs ++ [x]) := by
  have a1 := blk_grown h.a hg (Kd.R_ne h.r h.a (by decide))
  have s1 := blk_grown h.s hg (Kd.R_ne h.r h.s (by decide))
  have o1 := blk_grown h.o hg (Kd.R_ne h.r h.o (by decide))
  exact ⟨hb.setCell h.ga v1, h.ga, blk_far a1 (blk_ne a1 o1 (by decide)) v1, blk_far s1 (blk_ne s1 o1 (by decide)) v1, by simpa using blk_set o1 0 v1, Kd.R_set hr o1 (by decide) 0 v1⟩
theorem duty_PlanSt.keeps {w0 W w1 : World} {ba bs bo g : Nat} {first second start term : Int} {v4 : Value} {slot : Int} {v : Value} {xs : List S61} {cs : Array Value}
    (h : duty_PlanSt w0 W ba bs bo first second start term v4 slot v xs) (hg : W.grownBy w1 v.ownBlock) (hk : W.heap[g]? = some (.cells cs 3 (0, 0))) (v1 : Value) : (w1.setCell ⟨bo, 0, none⟩ v1).heap[g]? = some (.cells cs 3 (0, 0)) := by
  have o1 := blk_grown h.o hg (Kd.R_ne h.r h.o (by decide))
  have k1 := blk_grown hk hg (Kd.R_ne h.r hk (by decide))
  exact blk_far k1 (blk_ne k1 o1 (by decide)) v1
set_option maxHeartbeats 4000000 in
set_option maxRecDepth 100000 in
theorem duty_Plan_1.calls (first second start term slot tick : Int) (v4 : Value) (ba bs bo bk : Nat) (ck n : Nat) (ks : List Int) (xs : List S61) (v : Value) (w0 w : World) (hn : n = ks.length)
    (hS : duty_PlanSt w0 w ba bs bo first second start term v4 slot v xs) (hk : w.heap[bk]? = some (.cells (nums .i64 ks).toArray 3 (0, 0))) (hl : xs.length + 2 * ks.length ≤ 1000) :
    Calls Tryd.prog 94 #[.int .i64 tick, .slice (some ⟨bk, 0, none⟩) n ck, .pointer (some ⟨ba, 0, none⟩), .pointer (some ⟨bo, 0, none⟩), .pointer (some ⟨bs, 0, none⟩)] w fun e w' =>
      e = .returned (.tuple #[]) ∧ ∃ v', duty_PlanSt w0 w' ba bs bo first second start term v4 slot v' (xs ++ ks.flatMap (duty_both first second slot tick)) := by
  have hu61 := Tryd.underlying61
  have hu45 := Tryd.underlying45
  have i0 : ∀ w : World, (Instr.index 52 (.agg #[.int .i64 first, .int .i64 second]) (.int .i64 0)).run Tryd.prog w = .ok (.int .i64 first) w := fun _ => by rfl
  have i1 : ∀ w : World, (Instr.index 52 (.agg #[.int .i64 first, .int .i64 second]) (.int .i64 1)).run Tryd.prog w = .ok (.int .i64 second) w := fun _ => by rfl
  subst hn
  have HS0 := Aside0.mk hS
  have HK0 := Aside0.mk hk
  clear hS hk
  go_enter Tryd.func94, Tryd.ntmps94
  go_wp2
  go_loopw [13] (fun s13 wr => ∃ (j : Nat) (v : Value), j ≤ ks.length ∧ s13 = .int .i64 j ∧ Aside0 (duty_PlanSt w0 wr ba bs bo first second start term v4 slot v (xs ++ (ks.take j).flatMap (duty_both first second slot tick))) ∧ Aside0 (wr.heap[bk]? = some (.cells (nums .i64 ks).toArray 3 (0, 0)))) (fun s13 _ => ks.length - (intOf s13).toNat)
  case atStart => exact ⟨0, v, Nat.zero_le _, rfl, by simpa using HS0, HK0⟩
  case round =>
    obtain ⟨j, v, hj, rfl, HS, HK⟩ := hrel
    by_cases hlt : j < ks.length
    · have ca0 : wr.cell? ⟨ba, 0, none⟩ = some (.int .i64 first) := (blk_cell HS.out.a 0).trans rfl
      have ca1 : wr.cell? ⟨ba, 1, none⟩ = some (.int .i64 second) := (blk_cell HS.out.a 1).trans rfl
      have cs0 : wr.cell? ⟨bs, 0, none⟩ = some (.int .i64 slot) := (blk_cell HS.out.s 0).trans rfl
      have co0 : wr.cell? ⟨bo, 0, none⟩ = some v := (blk_cell HS.out.o 0).trans rfl
      obtain ⟨kd, hkd⟩ : ∃ kd, kd = ks.getD j 0 := ⟨_, rfl⟩
      have ck0 : wr.cell? ⟨bk, j, none⟩ = some (.int .i64 kd) := by
        rw [hkd]
        exact (blk_cell HK.out j).trans (by simp [nums, hlt, List.getD_eq_getElem?_getD])
      have HKD := Aside0.mk hkd
      clear hkd
      go_wp2
      refine wp_loop_rounds 3 ?_
      rw [rounds_succ]
      have hd := HS.out.r
      obtain ⟨ys, hys⟩ : ∃ ys, ys = xs ++ (ks.take j).flatMap (duty_both first second slot tick) := ⟨_, rfl⟩
      rw [← hys] at HS hd
      have HY := Aside0.mk hys
      have HL : Aside0 (ys.length + 2 ≤ 1000) := ⟨by
        rw [hys, List.length_append, duty_both_length, List.length_take]
        omega⟩
      clear hd hys
      go_wp2_with (first | (
         at_builtin
         refine Kd.R_append k61 (w0 := w0) w0.heap.size rfl (.tmp 25) (.tmp 31) 40 61 (.agg #[.int .i64 0, .int .i64 0, .int .i64 0, .int .i64 0]) 32 rfl Tryd.underlying40 info61 rfl (by decide) (by omega) v ys (⟨tick, slot, first, kd⟩ : S61) [.int .i64 tick, .int .i64 slot, .int .i64 first, .int .i64 kd] (fun _ => True) (fun _ => False) rfl rfl (k61_mkM _ _ _ (⟨tick, slot, first, kd⟩ : S61)) (fun _ hk => hk.elim) (fun _ _ => trivial) HS.out.r HS.out.below HS.out.below.size (by have := HL.out; omega) ?_
         intro v1 w1 hr1 hb1 hg1 _
         obtain ⟨A1, c1, e1⟩ := Kd.R_slice hr1
         generalize (ys ++ [(⟨tick, slot, first, kd⟩ : S61)]).length = n1 at e1
         subst e1
         have HS1 := Aside0.mk (HS.out.step hg1 hb1 hr1)
         have HK1 := Aside0.mk (HS.out.keeps hg1 HK.out (.slice A1 n1 c1))
         have hf1 : w1.frozen? ⟨bo, 0, none⟩ = false := blk_frozen (blk_grown HS.out.o hg1 (Kd.R_ne HS.out.r HS.out.o (by decide))) 0
         have hc1 : w1.cell? ⟨bo, 0, none⟩ = some v := (blk_cell (blk_grown HS.out.o hg1 (Kd.R_ne HS.out.r HS.out.o (by decide))) 0).trans rfl
         have ha1 : (w1.setCell ⟨bo, 0, none⟩ (.slice A1 n1 c1)).cell? ⟨ba, 0, none⟩ = some (.int .i64 first) := (blk_cell HS1.out.a 0).trans rfl
         have hs1 : (w1.setCell ⟨bo, 0, none⟩ (.slice A1 n1 c1)).cell? ⟨bs, 0, none⟩ = some (.int .i64 slot) := (blk_cell HS1.out.s 0).trans rfl
         have ho1 : (w1.setCell ⟨bo, 0, none⟩ (.slice A1 n1 c1)).cell? ⟨bo, 0, none⟩ = some (.slice A1 n1 c1) := (blk_cell HS1.out.o 0).trans rfl
         clear hr1 hb1 hg1 HS HK))
      rw [rounds_succ]
      go_wp2_with (first | (
         at_builtin
         refine Kd.R_append k61 (w0 := w0) w0.heap.size rfl (.tmp 25) (.tmp 31) 40 61 (.agg #[.int .i64 0, .int .i64 0, .int .i64 0, .int .i64 0]) 32 rfl Tryd.underlying40 info61 rfl (by decide) (by omega) (.slice A1 n1 c1) (ys ++ [(⟨tick, slot, first, kd⟩ : S61)]) (⟨tick, slot, second, kd⟩ : S61) [.int .i64 tick, .int .i64 slot, .int .i64 second, .int .i64 kd] (fun _ => True) (fun _ => False) rfl (by first | (go_simp; done) | (go_simp; rfl)) (k61_mkM _ _ _ (⟨tick, slot, second, kd⟩ : S61)) (fun _ hk => hk.elim) (fun _ _ => trivial) HS1.out.r HS1.out.below HS1.out.below.size (by have := HL.out; simp only [List.length_append, List.length_cons, List.length_nil]; omega) ?_
         intro v1 w2 hr1 hb1 hg1 _
         obtain ⟨A2, c2, e1⟩ := Kd.R_slice hr1
         generalize ((ys ++ [(⟨tick, slot, first, kd⟩ : S61)]) ++ [(⟨tick, slot, second, kd⟩ : S61)]).length = n2 at e1
         subst e1
         have HS2 := Aside0.mk (HS1.out.step hg1 hb1 hr1)
         have HK2 := Aside0.mk (HS1.out.keeps hg1 HK1.out (.slice A2 n2 c2))
         have hf2 : w2.frozen? ⟨bo, 0, none⟩ = false := blk_frozen (blk_grown HS1.out.o hg1 (Kd.R_ne HS1.out.r HS1.out.o (by decide))) 0
         have hc2 : w2.cell? ⟨bo, 0, none⟩ = some (.slice A1 n1 c1) := (blk_cell (blk_grown HS1.out.o hg1 (Kd.R_ne HS1.out.r HS1.out.o (by decide))) 0).trans rfl
         have ha2 : (w2.setCell ⟨bo, 0, none⟩ (.slice A2 n2 c2)).cell? ⟨ba, 0, none⟩ = some (.int .i64 first) := (blk_cell HS2.out.a 0).trans rfl
         have hs2 : (w2.setCell ⟨bo, 0, none⟩ (.slice A2 n2 c2)).cell? ⟨bs, 0, none⟩ = some (.int .i64 slot) := (blk_cell HS2.out.s 0).trans rfl
         have ho2 : (w2.setCell ⟨bo, 0, none⟩ (.slice A2 n2 c2)).cell? ⟨bo, 0, none⟩ = some (.slice A2 n2 c2) := (blk_cell HS2.out.o 0).trans rfl
         clear hr1 hb1 hg1 HS1 HK1))
      (try (rw [rounds_succ]; go_wp2))
      go_roundw
      case measure => simp [intOf]; omega
      case rel =>
        refine ⟨j + 1, .slice A2 n2 c2, by omega, by go_num, ⟨?_⟩, HK2⟩
        rw [duty_both_take first second slot tick ks j hlt, ← List.append_assoc, ← HY.out, ← HKD.out]
        have h := HS2.out
        rw [List.append_assoc] at h
        exact h
    · obtain rfl : j = ks.length := by omega
      rw [List.take_of_length_le (Nat.le_refl _)] at HS
      go_wp2
      go_end0
      exact ⟨rfl, v, HS.out⟩


/-! ### duty_Plan: function 66, by hand -/
theorem wrap_in (x : Int) (h0 : -9223372036854775808 ≤ x) (h1 : x ≤ 9223372036854775807) : wrap64 x = x := by
  unfold wrap64
  omega
def checksB (hi : Int) : Int → List Int → Bool
  | _, [] => true
  | last, t :: l => decide (last < t) && decide (t ≤ hi) && checksB hi t l
def validB (a0 a1 a2 a3 : Int) (l : List Int) : Bool :=
  decide (1 ≤ a0) && decide (a0 ≤ 16) && decide (1 ≤ a1) && decide (a1 ≤ 16) && decide (a0 ≠ a1) && decide (0 ≤ a2) && decide (1 ≤ a3) && decide (a3 ≤ 16) && decide (a2 + a3 ≤ 16) && checksB (a2 + a3) a2 l
theorem duty_Valid_loop (a0 a1 a2 a3 : Int) (l : List Int) (hl : l.length ≤ 9223372036854775807) (hs : -9223372036854775808 ≤ a2 + a3) (hs1 : a2 + a3 ≤ 9223372036854775807) (d : Nat) : ∀ (k i : Nat) (last : Int), i + d = l.length → d < k →
    duty_Valid.l0 k last l (l.length : Int) (i : Int) a0 a1 a2 a3 l = some (checksB (a2 + a3) last (l.drop i)) := by
  induction d with
  | zero =>
    intro k i last hi hk
    obtain ⟨k, rfl⟩ : ∃ m, k = m + 1 := ⟨k - 1, by omega⟩
    simp only [duty_Valid.l0]
    rw [if_neg (by omega), List.drop_of_length_le (by omega)]
    rfl
  | succ d ih =>
    intro k i last hi hk
    obtain ⟨k, rfl⟩ : ∃ m, k = m + 1 := ⟨k - 1, by omega⟩
    simp only [duty_Valid.l0]
    have hlt : i < l.length := by omega
    rw [if_pos (by omega), if_pos (by omega), if_pos (by omega), wrap_in (a2 + a3) hs hs1, List.drop_eq_getElem_cons hlt]
    have hr : rd l (i : Int) = l[i] := by simp [rd, List.getD_eq_getElem?_getD, hlt]
    rw [hr]
    simp only [checksB]
    by_cases h1 : l[i] ≤ last
    · rw [if_pos h1, decide_eq_false (show ¬ last < l[i] by omega)]
      rfl
    · rw [if_neg h1, decide_eq_true (show last < l[i] by omega)]
      by_cases h2 : l[i] > a2 + a3
      · rw [if_pos h2, decide_eq_false (show ¬ l[i] ≤ a2 + a3 by omega)]
        rfl
      · rw [if_neg h2, decide_eq_true (show l[i] ≤ a2 + a3 by omega), wrap_in ((i : Int) + 1) (by omega) (by omega)]
        have := ih k (i + 1) l[i] (by omega) (by omega)
        rw [show ((i : Int) + 1) = ((i + 1 : Nat) : Int) by omega, this]
        rfl
theorem duty_person_eq (a : Int) : duty_person.f a = some (decide (1 ≤ a) && decide (a ≤ 16)) := by
  unfold duty_person.f
  by_cases h : a ≥ 1
  · rw [if_pos h, decide_eq_true (show 1 ≤ a from h)]
    rfl
  · rw [if_neg h, decide_eq_false (show ¬ 1 ≤ a from h)]
    rfl
theorem duty_Valid_eq (a0 a1 a2 a3 : Int) (l : List Int) (hl : l.length ≤ 9223372036854775807) : duty_Valid.f (l.length + 3) a0 a1 a2 a3 l = some (validB a0 a1 a2 a3 l) := by
  unfold duty_Valid.f validB
  rw [duty_person_eq, duty_person_eq]
  simp only [Option.bind_some]
  have jt : ∀ x, duty_Valid.j0 (l.length + 3) true x a1 a2 a3 l = some false := fun _ => rfl
  have jf : ∀ x y, duty_Valid.j0 (l.length + 3) false x y a2 a3 l = duty_Valid.l0 (l.length + 2) a2 l (l.length : Int) 0 x y a2 a3 l := fun _ _ => rfl
  by_cases p1 : 1 ≤ a0
  · by_cases p2 : a0 ≤ 16
    · by_cases p3 : 1 ≤ a1
      · by_cases p4 : a1 ≤ 16
        · by_cases p5 : a0 = a1
          · simp [p1, p2, p3, p4, p5, jt]
          · by_cases p6 : a2 < 0
            · simp [p1, p2, p3, p4, p5, p6, jt, show ¬ 0 ≤ a2 by omega]
            · by_cases p7 : a3 < 1
              · simp [p1, p2, p3, p4, p5, p6, p7, jt, show ¬ 1 ≤ a3 by omega]
              · by_cases p8 : a3 > 16
                · simp [p1, p2, p3, p4, p5, p6, p7, p8, jt, show ¬ a3 ≤ 16 by omega]
                · rw [wrap_in (16 - a3) (by omega) (by omega)]
                  by_cases p9 : a2 > 16 - a3
                  · simp [p1, p2, p3, p4, p5, p6, p7, p8, p9, jt, show ¬ a2 + a3 ≤ 16 by omega]
                  · have := duty_Valid_loop a0 a1 a2 a3 l hl (by omega) (by omega) l.length (l.length + 2) 0 a2 (by omega) (by omega)
                    rw [if_pos (by simp [p1, p2]), if_pos (by simp [p3, p4]), if_neg p5, if_neg p6, if_neg p7, if_neg p8, decide_eq_false p9, jf, show (0 : Int) = ((0 : Nat) : Int) from rfl, this]
                    simp [p1, p2, p3, p4, p5, show 0 ≤ a2 by omega, show 1 ≤ a3 by omega, show a3 ≤ 16 by omega, show a2 + a3 ≤ 16 by omega]
        · simp [p1, p2, p3, p4, jt]
      · simp [p1, p2, p3, jt]
    · simp [p1, p2, jt]
  · simp [p1, jt]
theorem slices_Index_loop (l : List Int) (x : Int) (hl : l.length ≤ 9223372036854775807) (d : Nat) : ∀ (k i : Nat), i + d = l.length → d < k →
    ∃ r, slices_Index_int_int.l0 k l x (l.length : Int) (i : Int) = some r ∧ decide (r ≥ 0) = (l.drop i).contains x := by
  induction d with
  | zero =>
    intro k i hi hk
    obtain ⟨k, rfl⟩ : ∃ m, k = m + 1 := ⟨k - 1, by omega⟩
    simp only [slices_Index_int_int.l0]
    rw [if_neg (by omega), List.drop_of_length_le (by omega)]
    exact ⟨_, rfl, by simp⟩
  | succ d ih =>
    intro k i hi hk
    obtain ⟨k, rfl⟩ : ∃ m, k = m + 1 := ⟨k - 1, by omega⟩
    simp only [slices_Index_int_int.l0]
    have hlt : i < l.length := by omega
    have hr : rd l (i : Int) = l[i] := by simp [rd, List.getD_eq_getElem?_getD, hlt]
    rw [if_pos (by omega), if_pos (by omega), if_pos (by omega), hr, List.drop_eq_getElem_cons hlt]
    by_cases h : x = l[i]
    · rw [if_pos h]
      refine ⟨_, rfl, ?_⟩
      rw [decide_eq_true (show (i : Int) ≥ 0 by omega), h, List.contains_cons, beq_self_eq_true, Bool.true_or]
    · rw [if_neg h, wrap_in ((i : Int) + 1) (by omega) (by omega), show ((i : Int) + 1) = ((i + 1 : Nat) : Int) by omega]
      obtain ⟨r, h1, h2⟩ := ih k (i + 1) (by omega) (by omega)
      exact ⟨r, h1, by rw [h2, List.contains_cons, beq_false_of_ne h, Bool.false_or]⟩
theorem slices_Contains_eq (l : List Int) (x : Int) (hl : l.length ≤ 9223372036854775807) : slices_Contains_int_int.f (l.length + 1) l x = some (l.contains x) := by
  unfold slices_Contains_int_int.f slices_Index_int_int.f
  obtain ⟨r, h1, h2⟩ := slices_Index_loop l x hl l.length (l.length + 1) 0 (by omega) (by omega)
  have h3 : slices_Index_int_int.l0 (l.length + 1) l x (l.length : Int) 0 = some r := h1
  rw [h3]
  simp only [Option.bind_some]
  rw [h2]
  rfl
def duty_PlanStep (first second slot : Int) (l : List Int) (t : Int) : List S61 := duty_both first second slot t 5 ++ (if l.contains t then duty_both first second slot t 6 else [])
/-- The duties of n ticks from t on. -/
def duty_PlanMid (first second slot : Int) (l : List Int) : Nat → Int → List S61
  | 0, _ => []
  | n + 1, t => duty_PlanStep first second slot l t ++ duty_PlanMid first second slot l n (t + 1)
theorem duty_PlanMid_succ (first second slot : Int) (l : List Int) (n : Nat) : ∀ t, duty_PlanMid first second slot l (n + 1) t = duty_PlanMid first second slot l n t ++ duty_PlanStep first second slot l (t + n) := by
  induction n with
  | zero => intro t; simp [duty_PlanMid]
  | succ n ih =>
    intro t
    rw [duty_PlanMid, ih (t + 1), duty_PlanMid, List.append_assoc, show t + 1 + (n : Int) = t + ((n + 1 : Nat) : Int) by omega]
theorem duty_PlanStep_length (first second slot : Int) (l : List Int) (t : Int) : (duty_PlanStep first second slot l t).length ≤ 4 := by
  unfold duty_PlanStep
  split <;> simp [duty_both]
theorem duty_PlanMid_length (first second slot : Int) (l : List Int) (n : Nat) : ∀ t, (duty_PlanMid first second slot l n t).length ≤ 4 * n := by
  induction n with
  | zero => intro t; simp [duty_PlanMid]
  | succ n ih =>
    intro t
    have := ih (t + 1)
    have := duty_PlanStep_length first second slot l t
    rw [duty_PlanMid, List.length_append]
    omega
def duty_PlanHead (first second slot start : Int) : List S61 := [1, 2, 3, 4].flatMap (duty_both first second slot start)
def duty_PlanOf (first second start term : Int) (l : List Int) (slot : Int) (settle : Bool) : List S61 :=
  duty_PlanHead first second slot start ++ duty_PlanMid first second slot l term.toNat (start + 1) ++ (if settle = true then duty_both first second slot (start + term + 1) 7 else [])
def duty_Plan.f (a0_0 : Int) (a0_1 : Int) (a0_2 : Int) (a0_3 : Int) (l0_4 : List Int) (a1 : Int) (a2 : Bool) : Option (List (S61) × Int) :=
  if a1 < 0 ∨ 6 ≤ a1 then some ([], 1) else if validB a0_0 a0_1 a0_2 a0_3 l0_4 = false then some ([], 44) else some (duty_PlanOf a0_0 a0_1 a0_2 a0_3 l0_4 a1 a2, 0)
theorem duty_PlanSt.alloc {w0 W : World} {ba bs bo : Nat} {first second start term : Int} {v4 : Value} {slot : Int} {v : Value} {xs : List S61} (h : duty_PlanSt w0 W ba bs bo first second start term v4 slot v xs) (o : Obj) :
    duty_PlanSt w0 (W.alloc o) ba bs bo first second start term v4 slot v xs := ⟨h.below.alloc h.below.size o, h.ga, blk_alloc h.a o, blk_alloc h.s o, blk_alloc h.o o, Kd.R_alloc h.r o⟩
theorem duty_PlanSt.drewN {w0 W : World} {ba bs bo : Nat} {first second start term : Int} {v4 : Value} {slot : Int} {v : Value} {xs : List S61} (h : duty_PlanSt w0 W ba bs bo first second start term v4 slot v xs) (n : Nat) :
    duty_PlanSt w0 (W.drewN n) ba bs bo first second start term v4 slot v xs := ⟨pw_below_drewN h.below n, h.ga, h.a, h.s, h.o, Kd.R_drewN h.r n⟩
theorem duty_PlanSt.first {w w1 : World} {first second start term : Int} {v4 : Value} (slot : Int) (hB : Below w.heap.size w w)
    (hb : Below ((w.alloc (.cells #[.int .i64 first, .int .i64 second, .int .i64 start, .int .i64 term, v4] 45)).alloc (.cells #[.int .i64 slot] 3)).heap.size ((w.alloc (.cells #[.int .i64 first, .int .i64 second, .int .i64 start, .int .i64 term, v4] 45)).alloc (.cells #[.int .i64 slot] 3)) w1) :
    duty_PlanSt w (w1.alloc (.cells #[.slice none 0 0] 40)) w.heap.size (w.heap.size + 1) w1.heap.size first second start term v4 slot (.slice none 0 0) [] := by
  have h0 := below_alloc (below_alloc hB (.cells #[.int .i64 first, .int .i64 second, .int .i64 start, .int .i64 term, v4] 45)) (.cells #[.int .i64 slot] 3)
  have h1 := below_then h0 h0.size hb
  have ha : ((w.alloc (.cells #[.int .i64 first, .int .i64 second, .int .i64 start, .int .i64 term, v4] 45)).alloc (.cells #[.int .i64 slot] 3)).heap[w.heap.size]? = some (.cells #[.int .i64 first, .int .i64 second, .int .i64 start, .int .i64 term, v4] 45 (0, 0)) := blk_alloc (heap_alloc_new w _) _
  have hs : ((w.alloc (.cells #[.int .i64 first, .int .i64 second, .int .i64 start, .int .i64 term, v4] 45)).alloc (.cells #[.int .i64 slot] 3)).heap[w.heap.size + 1]? = some (.cells #[.int .i64 slot] 3 (0, 0)) := by
    have := heap_alloc_new (w.alloc (.cells #[.int .i64 first, .int .i64 second, .int .i64 start, .int .i64 term, v4] 45)) (.cells #[.int .i64 slot] 3)
    simpa using this
  exact ⟨below_alloc h1 _, h1.size, blk_alloc ((hb.block _ (blk_lt ha)).trans ha) _, blk_alloc ((hb.block _ (blk_lt hs)).trans hs) _, heap_alloc_new w1 _, Kd.R_nil _ _ _ _ _⟩
set_option maxHeartbeats 4000000 in
set_option maxRecDepth 100000 in
theorem duty_Plan.calls (a0_0 : Int) (a0_1 : Int) (a0_2 : Int) (a0_3 : Int) (A0_4 : Option Addr) (c0_4 : Nat) (l0_4 : List Int) (a1 : Int) (a2 : Bool) (r1 : List (S61)) (r2 : Int) (w : World) (hr0_4 : Kd.C (Kd.int .i64) w A0_4 l0_4.length l0_4) (hc0_4 : l0_4.length ≤ c0_4) (h : duty_Plan.f a0_0 a0_1 a0_2 a0_3 l0_4 a1 a2 = some (r1, r2)) :
    Calls Tryd.prog 66 #[.agg #[.int .i64 a0_0, .int .i64 a0_1, .int .i64 a0_2, .int .i64 a0_3, .slice A0_4 l0_4.length c0_4], .int .i64 a1, .bool a2] w fun e w' => ∃ v0_ : Value, e = .returned (.tuple #[v0_, .int .i64 r2]) ∧ Kd.R k61 61 w' w.heap.size (fun _ => True) v0_ r1 ∧ Below w.heap.size w w' := by
  have hu45 := Tryd.underlying45
  have hu61 := Tryd.underlying61
  have HR := Aside0.mk hr0_4
  have HC := Aside0.mk hc0_4
  have HB := Aside0.mk (Below.refl w.heap.size w)
  clear hr0_4 hc0_4
  unfold duty_Plan.f at h
  by_cases c1 : a1 < 0 ∨ 6 ≤ a1
  · rw [if_pos c1] at h
    obtain ⟨rfl, rfl⟩ := Prod.mk.inj (Option.some.inj h)
    clear h
    rcases c1 with c1 | c1
    · have d1 : decide (a1 < 0) = true := decide_eq_true c1
      clear c1
      go_enter Tryd.func66, Tryd.ntmps66
      go_wp2
      go_ret2
      exact ⟨_, rfl, Kd.R_nil _ _ _ _ _, below_alloc (below_alloc HB.out _) _⟩
    · have d1 : decide (a1 < 0) = false := decide_eq_false (by omega)
      have d2 : decide (6 ≤ a1) = true := decide_eq_true c1
      clear c1
      go_enter Tryd.func66, Tryd.ntmps66
      go_wp2
      go_ret2
      exact ⟨_, rfl, Kd.R_nil _ _ _ _ _, below_alloc (below_alloc HB.out _) _⟩
  · rw [if_neg c1] at h
    have d1 : decide (a1 < 0) = false := decide_eq_false (by omega)
    have d2 : decide (6 ≤ a1) = false := decide_eq_false (by omega)
    clear c1
    have hm : l0_4.length ≤ 9223372036854775807 := Kd.C_max HR.out
    have HV := Aside0.mk (duty_Valid_eq a0_0 a0_1 a0_2 a0_3 l0_4 hm)
    have HM := Aside0.mk hm
    clear hm
    by_cases c2 : validB a0_0 a0_1 a0_2 a0_3 l0_4 = false
    · rw [if_pos c2] at h
      obtain ⟨rfl, rfl⟩ := Prod.mk.inj (Option.some.inj h)
      clear h
      rw [c2] at HV
      clear c2
      go_enter Tryd.func66, Tryd.ntmps66
      go_wp2_with (first | (go_at_call 93; refine (duty_Valid.calls (l0_4.length + 3) a0_0 a0_1 a0_2 a0_3 A0_4 c0_4 l0_4 false _ (Kd.C_alloc (Kd.C_alloc HR.out _) _) HC.out HV.out).mono ?_; rintro e w1 ⟨rfl, hb⟩; have HB1 := Aside0.mk (below_then (below_alloc (below_alloc HB.out _) _) (below_alloc (below_alloc HB.out _) _).size hb); clear hb))
      go_ret2
      exact ⟨_, rfl, Kd.R_nil _ _ _ _ _, HB1.out⟩
    · rw [if_neg c2] at h
      obtain ⟨rfl, rfl⟩ := Prod.mk.inj (Option.some.inj h)
      clear h
      have hvt : validB a0_0 a0_1 a0_2 a0_3 l0_4 = true := by simpa using c2
      rw [hvt] at HV
      obtain ⟨g0, g1, g2, g3⟩ : 0 ≤ a0_2 ∧ 1 ≤ a0_3 ∧ a0_3 ≤ 16 ∧ a0_2 + a0_3 ≤ 16 := by
        unfold validB at hvt
        simp only [Bool.and_eq_true, decide_eq_true_eq] at hvt
        omega
      clear c2 hvt
      go_enter Tryd.func66, Tryd.ntmps66
      go_wp2_with fail
      refine (duty_Valid.calls (l0_4.length + 3) a0_0 a0_1 a0_2 a0_3 A0_4 c0_4 l0_4 true _ (Kd.C_alloc (Kd.C_alloc HR.out _) _) HC.out HV.out).mono ?_
      rintro e w1 ⟨rfl, hb⟩
      have HA := Aside0.mk (duty_PlanSt.first a1 HB.out hb)
      have hsz : w.heap.size + 1 < w1.heap.size := (by have := hb.size; simp at this; omega)
      have ha2 : (w1.alloc (.cells #[.slice none 0 0] 40)).cell? ⟨w.heap.size, 2, none⟩ = some (.int .i64 a0_2) := (blk_cell HA.out.a 2).trans rfl
      clear hb
      have hb1 := Below.refl w1.heap.size w1
      go_wp2_with fail
      refine (duty_Plan_1.calls a0_0 a0_1 a0_2 a0_3 a1 a0_2 (.slice A0_4 l0_4.length c0_4) w.heap.size (w.heap.size + 1) w1.heap.size (w1.heap.size + 1) 4 4 [1, 2, 3, 4] [] (.slice none 0 0) w _ rfl (HA.out.alloc _) (by have := heap_alloc_new (w1.alloc (.cells #[.slice none 0 0] 40)) (.cells (nums .i64 [1, 2, 3, 4]).toArray 3); simpa [nums] using this) (by decide)).mono ?_
      rintro e w2 ⟨rfl, v2, hS2⟩
      have HS := Aside0.mk (show duty_PlanSt w w2 w.heap.size (w.heap.size + 1) w1.heap.size a0_0 a0_1 a0_2 a0_3 (.slice A0_4 l0_4.length c0_4) a1 v2 (duty_PlanHead a0_0 a0_1 a1 a0_2) from hS2)
      clear hS2 HA ha2 hb1
      have ha2 : w2.cell? ⟨w.heap.size, 2, none⟩ = some (.int .i64 a0_2) := (blk_cell HS.out.a 2).trans rfl
      have ha3 : w2.cell? ⟨w.heap.size, 3, none⟩ = some (.int .i64 a0_3) := (blk_cell HS.out.a 3).trans rfl
      have ha4 : w2.cell? ⟨w.heap.size, 4, none⟩ = some (.slice A0_4 l0_4.length c0_4) := (blk_cell HS.out.a 4).trans rfl
      obtain ⟨n, hn⟩ : ∃ n : Nat, a0_3 = n := ⟨a0_3.toNat, by omega⟩
      subst hn
      go_wp2
      go_loopw [10] (fun s10 wr => ∃ (i : Nat) (v : Value), i ≤ n ∧ s10 = .int .i64 (a0_2 + 1 + i) ∧ Aside0 (duty_PlanSt w wr w.heap.size (w.heap.size + 1) w1.heap.size a0_0 a0_1 a0_2 n (.slice A0_4 l0_4.length c0_4) a1 v (duty_PlanHead a0_0 a0_1 a1 a0_2 ++ duty_PlanMid a0_0 a0_1 a1 l0_4 i (a0_2 + 1)))) (fun s10 _ => (a0_2 + 1 + n - intOf s10).toNat)
      case atStart => exact ⟨0, v2, Nat.zero_le _, by simp, ⟨by simpa [duty_PlanMid] using HS.out⟩⟩
      case round =>
        clear HS ha2 ha3 ha4
        obtain ⟨i, v, hi, rfl, HS⟩ := hrel
        by_cases hlt : i < n
        · have hq : decide (a0_2 + 1 + (i : Int) ≤ a0_2 + (n : Int)) = true := decide_eq_true (by omega)
          have ha2 : wr.cell? ⟨w.heap.size, 2, none⟩ = some (.int .i64 a0_2) := (blk_cell HS.out.a 2).trans rfl
          have ha3 : wr.cell? ⟨w.heap.size, 3, none⟩ = some (.int .i64 (n : Int)) := (blk_cell HS.out.a 3).trans rfl
          have ha4 : wr.cell? ⟨w.heap.size, 4, none⟩ = some (.slice A0_4 l0_4.length c0_4) := (blk_cell HS.out.a 4).trans rfl
          go_wp2_with fail
          refine (duty_Plan_1.calls a0_0 a0_1 a0_2 n a1 (a0_2 + 1 + i) (.slice A0_4 l0_4.length c0_4) w.heap.size (w.heap.size + 1) w1.heap.size wr.heap.size 1 1 [5] _ v w _ rfl (HS.out.alloc _) (by have := heap_alloc_new wr (.cells (nums .i64 [5]).toArray 3); simpa [nums] using this) (by have := duty_PlanMid_length a0_0 a0_1 a1 l0_4 i (a0_2 + 1); simp [duty_PlanHead, duty_both]; omega)).mono ?_
          rintro e w3 ⟨rfl, v3, hS3⟩
          have HS3 := Aside0.mk hS3
          clear hS3 HS ha2 ha3 ha4
          have ha4 : w3.cell? ⟨w.heap.size, 4, none⟩ = some (.slice A0_4 l0_4.length c0_4) := (blk_cell HS3.out.a 4).trans rfl
          by_cases ht : l0_4.contains (a0_2 + 1 + (i : Int)) = true
          · skip
            have HT := Aside0.mk ht
            have he := slices_Contains_eq l0_4 (a0_2 + 1 + (i : Int)) HM.out
            rw [ht] at he
            have HE := Aside0.mk he
            clear he ht
            go_wp2_with fail
            refine (slices_Contains_int_int.calls (l0_4.length + 1) A0_4 c0_4 l0_4 (a0_2 + 1 + (i : Int)) true w3 (Kd.C_below HR.out HS3.out.below) HC.out HE.out).mono ?_
            rintro e w4 ⟨rfl, ⟨m, rfl⟩⟩
            go_wp2_with fail
            refine (duty_Plan_1.calls a0_0 a0_1 a0_2 n a1 (a0_2 + 1 + i) (.slice A0_4 l0_4.length c0_4) w.heap.size (w.heap.size + 1) w1.heap.size (w3.drewN m).heap.size 1 1 [6] _ v3 w _ rfl ((HS3.out.drewN m).alloc _) (by have := heap_alloc_new (w3.drewN m) (.cells (nums .i64 [6]).toArray 3); simpa [nums] using this) (by have := duty_PlanMid_length a0_0 a0_1 a1 l0_4 i (a0_2 + 1); simp [duty_PlanHead, duty_both]; omega)).mono ?_
            rintro e w5 ⟨rfl, v5, hS5⟩
            have HS5 := Aside0.mk hS5
            clear hS5 HS3 ha4
            go_wp2
            go_roundw
            case measure => simp [intOf]; omega
            case rel =>
              refine ⟨i + 1, v5, by omega, by go_num, ⟨?_⟩⟩
              have h := HS5.out
              rw [duty_PlanMid_succ]
              simp only [duty_PlanStep, HT.out, if_true]
              simpa [duty_both, List.append_assoc] using h
          · replace ht : l0_4.contains (a0_2 + 1 + (i : Int)) = false := by simpa using ht
            have HT := Aside0.mk ht
            have he := slices_Contains_eq l0_4 (a0_2 + 1 + (i : Int)) HM.out
            rw [ht] at he
            have HE := Aside0.mk he
            clear he ht
            go_wp2_with fail
            refine (slices_Contains_int_int.calls (l0_4.length + 1) A0_4 c0_4 l0_4 (a0_2 + 1 + (i : Int)) false w3 (Kd.C_below HR.out HS3.out.below) HC.out HE.out).mono ?_
            rintro e w4 ⟨rfl, ⟨m, rfl⟩⟩
            have HS4 := Aside0.mk (HS3.out.drewN m)
            clear HS3 ha4
            go_wp2
            go_roundw
            case measure => simp [intOf]; omega
            case rel =>
              refine ⟨i + 1, v3, by omega, by go_num, ⟨?_⟩⟩
              have h := HS4.out
              rw [duty_PlanMid_succ]
              simp only [duty_PlanStep, HT.out]
              simpa [duty_both, List.append_assoc] using h
        · obtain rfl : i = n := by omega
          have hq : decide (a0_2 + 1 + (i : Int) ≤ a0_2 + (i : Int)) = false := decide_eq_false (by omega)
          have ha2 : wr.cell? ⟨w.heap.size, 2, none⟩ = some (.int .i64 a0_2) := (blk_cell HS.out.a 2).trans rfl
          have ha3 : wr.cell? ⟨w.heap.size, 3, none⟩ = some (.int .i64 (i : Int)) := (blk_cell HS.out.a 3).trans rfl
          have ho : wr.cell? ⟨w1.heap.size, 0, none⟩ = some v := (blk_cell HS.out.o 0).trans rfl
          have HN : Aside0 ((i : Int).toNat = i) := ⟨by simp⟩
          cases a2 with
          | true =>
            go_wp2_with fail
            refine (duty_Plan_1.calls a0_0 a0_1 a0_2 i a1 (a0_2 + i + 1) (.slice A0_4 l0_4.length c0_4) w.heap.size (w.heap.size + 1) w1.heap.size wr.heap.size 1 1 [7] _ v w _ rfl (HS.out.alloc _) (by have := heap_alloc_new wr (.cells (nums .i64 [7]).toArray 3); simpa [nums] using this) (by have := duty_PlanMid_length a0_0 a0_1 a1 l0_4 i (a0_2 + 1); simp [duty_PlanHead, duty_both]; omega)).mono ?_
            rintro e w3 ⟨rfl, v3, hS3⟩
            have HS3 := Aside0.mk hS3
            clear hS3 HS ha2 ha3 ho
            have ho : w3.cell? ⟨w1.heap.size, 0, none⟩ = some v3 := (blk_cell HS3.out.o 0).trans rfl
            go_wp2
            go_ret2
            refine ⟨v3, rfl, ?_, HS3.out.below⟩
            have h := HS3.out.r
            unfold duty_PlanOf
            rw [HN.out]
            simpa [duty_both] using h
          | false =>
            go_wp2
            go_ret2
            refine ⟨v, rfl, ?_, HS.out.below⟩
            have h := HS.out.r
            unfold duty_PlanOf
            rw [HN.out]
            simpa using h

/-! ### api_Duty_117: function 117, by hand -/
def api_Duty_117.f (a1 : Int) : Option (List S61) := if 0 ≤ a1 ∧ a1 ≤ 1000000 then some [] else none
set_option maxHeartbeats 4000000 in
set_option maxRecDepth 100000 in
theorem api_Duty_117.calls (a1 : Int) (r : List S61) (w : World) (h : api_Duty_117.f a1 = some r) :
    Calls Tryd.prog 117 #[.slice none 0 0, .int .i64 a1] w fun e w' => ∃ v0_ : Value, e = .returned v0_ ∧ Kd.R k61 61 w' w.heap.size (fun _ => True) v0_ r ∧ Below w.heap.size w w' := by
  unfold api_Duty_117.f at h
  by_cases c1 : 0 ≤ a1 ∧ a1 ≤ 1000000
  · rw [if_pos c1] at h
    obtain rfl := Option.some.inj h
    clear h
    obtain ⟨n, rfl⟩ : ∃ n : Nat, a1 = n := ⟨a1.toNat, by omega⟩
    have hn : n ≤ 1000000 := by omega
    clear c1
    have HB := Aside0.mk (Below.refl w.heap.size w)
    have h1 : ¬ ((n : Int) < 0) := by omega
    by_cases h4 : (n : Int) > 0
    · obtain ⟨i0, hi0, hz0, hs0, hb0⟩ := info_parts info61
      have hold : (Builtin.firstCells i0.size 0 (.slice none 0 0)).run Tryd.prog w.drew = .ok #[] w.drew := Go.run_firstCells_none w.drew i0.size 0 0 0
      have hrz : ∀ ty, (Builtin.append_ #[40, 3] ty #[.slice none 0 0, .int .i64 (n : Int)]).run Tryd.prog w =
          .ok (.slice (some ⟨w.heap.size, 0, none⟩) n (grownCap w n 0 61)) (w.drew.alloc (.cells (#[] ++ Builtin.zeroCells (Value.agg #[(.int .i64 0), (.int .i64 0), (.int .i64 0), (.int .i64 0)]).cells n ++ Builtin.zeroCells (Value.agg #[(.int .i64 0), (.int .i64 0), (.int .i64 0), (.int .i64 0)]).cells (grownCap w n 0 61 - n)) 61)) := fun ty => by
        have h := Go.Lib.run_append_grow_zeros w 40 3 ty 61 i0 _ .i64 .i64 Tryd.underlying40 Tryd.underlying3 hi0 hz0 none 0 0 [] hold n (by omega) (by omega) (by omega) (by omega)
          (by rw [hb0]; omega)
          (by rw [hb0]; exact growslice_fits (by omega) (by omega))
        simpa using h
      have hGn : n ≤ grownCap w n 0 61 := grownCap_ge w _ _ _
      obtain ⟨G, hG⟩ : ∃ G, G = grownCap w n 0 61 := ⟨_, rfl⟩
      rw [← hG] at hrz hGn
      have hG63 : G ≤ 9223372036854775807 := by
        have := grownCap_le_maxLen w n 0 61 (by unfold maxLen; omega)
        rw [← hG] at this
        unfold maxLen at this
        omega
      clear hold hG
      go_enter Tryd.func117, Tryd.ntmps117
      go_wp2_with (at_builtin; refine Go.Lib.wpList_append_run _ rfl _ _ _ _ rfl _ _ rfl rfl _ _ (hrz _) ?_)
      go_ret
      refine ⟨_, rfl, ⟨fun _ _ => trivial, [], ⟨rfl, Or.inr ⟨w.heap.size, G, _, rfl, Nat.le_refl _, heap_alloc_new w _, Nat.zero_le _, by unfold maxLen; omega, ?_, by simp⟩⟩, Reps.none _ _⟩, ?_⟩
      · rw [Array.size_append, size_zeroCells, size_zeroCells]
        show n * 4 + (G - n) * 4 = G * 4
        omega
      · exact pw_below_drewN (below_alloc HB.out _) 1
    · obtain rfl : n = 0 := by omega
      go_enter Tryd.func117, Tryd.ntmps117
      go_wp2
      go_ret
      exact ⟨_, rfl, Kd.R_nil _ _ _ _ _, HB.out⟩
  · rw [if_neg c1] at h
    cases h

/-! ### api_Duty_95: function 95 -/
mutual
def api_Duty_95.l0 : Nat → List (List (S61)) → Int → List (List (S61)) → Int → Int → Option ((List (S61)))
  | 0, _, _, _, _, _ => none
  | k + 1, x0, x3, x9, x10, x11 => if x11 < x10 then (if 0 ≤ x11 then (if x11 < (x9.length : Int) then (if (wrap64 (x3 + ((rd_L6 x9 x11).length : Int))) < 0 then (none) else (api_Duty_95.l0 k x0 (wrap64 (x3 + ((rd_L6 x9 x11).length : Int))) x9 x10 (wrap64 (x11 + 1)))) else (none)) else (none)) else ((api_Duty_117.f x3).bind fun t200 => (api_Duty_95.l1 k t200 x0 (x0.length : Int) 0))
def api_Duty_95.l1 : Nat → List (S61) → List (List (S61)) → Int → Int → Option ((List (S61)))
  | 0, _, _, _, _ => none
  | k + 1, x6, x25, x26, x27 => if x27 < x26 then (if 0 ≤ x27 then (if x27 < (x25.length : Int) then (if x6.length + (rd_L6 x25 x27).length < 4398046511104 then (api_Duty_95.l1 k (x6 ++ (rd_L6 x25 x27)) x25 x26 (wrap64 (x27 + 1))) else (none)) else (none)) else (none)) else (some x6)
end
def api_Duty_95.f (k : Nat) (l0 : List (List (S61))) : Option ((List (S61))) := api_Duty_95.l0 k l0 0 l0 (l0.length : Int) 0
theorem api_Duty_95.mono_l : ∀ k, (∀ y0 y1 y2 y3 y4, LeO (api_Duty_95.l0 k y0 y1 y2 y3 y4) (api_Duty_95.l0 (k + 1) y0 y1 y2 y3 y4)) ∧ (∀ y0 y1 y2 y3, LeO (api_Duty_95.l1 k y0 y1 y2 y3) (api_Duty_95.l1 (k + 1) y0 y1 y2 y3))
  | 0 => ⟨fun _ _ _ _ _ r h => by simp [api_Duty_95.l0] at h, fun _ _ _ _ r h => by simp [api_Duty_95.l1] at h⟩
  | k + 1 => by
    obtain ⟨ih0, ih1⟩ := api_Duty_95.mono_l k
    refine ⟨?_, ?_⟩
    · intro y0 y1 y2 y3 y4
      unfold api_Duty_95.l0
      repeat' first
      | (with_reducible exact ih0 _ _ _ _ _)
      | (with_reducible exact ih1 _ _ _ _)
      | (with_reducible exact LeO.refl _)
      | (with_reducible exact LeO.none _)
      | (with_reducible refine LeO.ite ?_ ?_)
      | (with_reducible refine LeO.bind ?_ (fun _ => ?_))
      | exact ih0 _ _ _ _ _
      | exact ih1 _ _ _ _
      | exact LeO.none _
      | refine LeO.ite ?_ ?_
      | refine LeO.bind ?_ (fun _ => ?_)
    · intro y0 y1 y2 y3
      unfold api_Duty_95.l1
      repeat' first
      | (with_reducible exact ih0 _ _ _ _ _)
      | (with_reducible exact ih1 _ _ _ _)
      | (with_reducible exact LeO.refl _)
      | (with_reducible exact LeO.none _)
      | (with_reducible refine LeO.ite ?_ ?_)
      | (with_reducible refine LeO.bind ?_ (fun _ => ?_))
      | exact ih0 _ _ _ _ _
      | exact ih1 _ _ _ _
      | exact LeO.none _
      | refine LeO.ite ?_ ?_
      | refine LeO.bind ?_ (fun _ => ?_)
theorem api_Duty_95.mono : ∀ a0 k, LeO (api_Duty_95.f k a0) (api_Duty_95.f (k + 1) a0) := by
  intro a0 k
  obtain ⟨ih0, ih1⟩ := api_Duty_95.mono_l k
  unfold api_Duty_95.f
  repeat' first
      | (with_reducible exact ih0 _ _ _ _ _)
      | (with_reducible exact ih1 _ _ _ _)
      | (with_reducible exact LeO.refl _)
      | (with_reducible exact LeO.none _)
      | (with_reducible refine LeO.ite ?_ ?_)
      | (with_reducible refine LeO.bind ?_ (fun _ => ?_))
      | exact ih0 _ _ _ _ _
      | exact ih1 _ _ _ _
      | exact LeO.none _
      | refine LeO.ite ?_ ?_
      | refine LeO.bind ?_ (fun _ => ?_)
set_option maxHeartbeats 8000000 in
set_option maxRecDepth 100000 in
theorem api_Duty_95.calls (k : Nat) (A0 : Option Addr) (c0 : Nat) (l0 : List (List (S61))) (r : List (S61)) (w : World) (hr0 : Kd.C (Kd.slice 61 k61) w A0 l0.length l0) (hc0 : l0.length ≤ c0) (h : api_Duty_95.f k l0 = some r) :
    Calls Tryd.prog 95 #[.slice A0 l0.length c0] w fun e w' => ∃ v0_ : Value, e = .returned (v0_) ∧ Kd.R k61 61 w' w.heap.size (fun _ => True) v0_ r ∧ Below w.heap.size w w' := by
  have HR0 := Aside0.mk hr0
  have HC0 := Aside0.mk hc0
  clear hr0 hc0
  have HB := Aside0.mk (Below.refl w.heap.size w)
  have H : (api_Duty_95.l0 k l0 0 l0 (l0.length : Int) 0) = some r := h
  clear h
  have H' := Aside0.mk H
  clear H
  go_enter Tryd.func95, Tryd.ntmps95
  go_wp2
  go_loopg [3, 11] k (fun kq v3 v11 w' => ∃ (x3_1 : Int) (x11_1 : Int), v3 = .int .i64 x3_1 ∧ v11 = .int .i64 x11_1 ∧ Aside0 (api_Duty_95.l0 kq l0 x3_1 l0 (l0.length : Int) x11_1 = some r) ∧ Aside0 (kq ≤ k) ∧ Aside0 (Below w.heap.size w w'))
  case atStart => exact ⟨(0), (0), (by first | rfl | (simp; done) | (simp [*]; done)), (by first | rfl | (simp; done) | (simp [*]; done)), H', ⟨Nat.le_refl _⟩, ⟨by repeat (first | (with_reducible first | exact HB.out | apply below_alloc | apply pw_below_drewN | apply below_drew1) | exact HB.out)⟩⟩
  case round =>
   clear H'
   obtain ⟨x3_1, x11_1, rfl, rfl, HA, HK1, HB⟩ := hrel
   cases gk with
   | zero => exact absurd HA.out (by simp [api_Duty_95.l0])
   | succ k1 =>
    have H := HA.out
    clear HA
    simp only [api_Duty_95.l0] at H
    by_cases c2 : x11_1 < (l0.length : Int)
    ·rw [if_pos c2] at H
     have c2b0 : decide (x11_1 < (l0.length : Int)) = true := decide_eq_true c2
     clear c2
     by_cases c3 : 0 ≤ x11_1
     ·rw [if_pos c3] at H
      have c3b0 : decide (0 ≤ x11_1) = true := decide_eq_true c3
      clear c3
      by_cases c4 : x11_1 < (l0.length : Int)
      ·rw [if_pos c4] at H
       have c4b0 : decide (x11_1 < (l0.length : Int)) = true := decide_eq_true c4
       clear c4
       by_cases c5 : (wrap64 (x3_1 + ((rd_L6 l0 x11_1).length : Int))) < 0
       ·rw [if_pos c5] at H
        exact absurd H (by simp)
       ·rw [if_neg c5] at H
        have c5b0 : decide ((wrap64 (x3_1 + ((rd_L6 l0 x11_1).length : Int))) < 0) = false := decide_eq_false c5
        clear c5
        have H' := Aside0.mk H
        clear H
        have p199 : 0 ≤ (x11_1 : Int) := of_decide_eq_true (by first | (with_reducible assumption) | assumption)
        have q199 : x11_1 < (l0.length : Int) := of_decide_eq_true (by first | (with_reducible assumption) | assumption)
        obtain ⟨ad199, A199_0, c199_0, e199, hx199_0, hl199_0, hi199_0⟩ := at_L6 HR0.out x11_1 p199 q199
        cases e199
        replace hx199_0 := (HB.out.cell (World.block_lt_of_cell? w _ hx199_0)).trans hx199_0
        have HR199_0 := Aside0.mk hi199_0
        have HC199_0 := Aside0.mk hl199_0
        clear hi199_0 hl199_0
        replace p199 := eq_true p199
        replace q199 := eq_true q199
        go_wp2
        go_roundg k1
        case measure => have := HK1.out; omega
        case rel => exact ⟨(wrap64 (x3_1 + ((rd_L6 l0 x11_1).length : Int))), (wrap64 (x11_1 + 1)), (by first | rfl | (simp; done) | (simp [*]; done)), (by first | rfl | (simp; done) | (simp [*]; done)), H', ⟨by have := HK1.out; omega⟩, ⟨by repeat (first | (with_reducible first | exact HB.out | apply below_alloc | apply pw_below_drewN | apply below_drew1) | exact HB.out)⟩⟩
      ·rw [if_neg c4] at H
       exact absurd H (by simp)
     ·rw [if_neg c3] at H
      exact absurd H (by simp)
    ·rw [if_neg c2] at H
     have c2b0 : decide (x11_1 < (l0.length : Int)) = false := decide_eq_false c2
     clear c2
     replace H := Option.bind_eq_some_iff.mp H
     obtain ⟨t200, A60, H⟩ := H
     replace H : (api_Duty_95.l1 k1 t200 l0 (l0.length : Int) 0) = some r := H
     have A6 := Aside0.mk A60
     clear A60
     have H' := Aside0.mk H
     clear H
     go_wp2_with (first | ((with_reducible refine gate_callee (f := 117) rfl ?_); refine goesL_ (some 24) rfl rfl Tryd.func117 (by kernel_rfl) rfl #[.slice none 0 0, .int .i64 x3_1] rfl (by (try simp only [List.map_toArray, List.map_cons, List.map_nil]); first | done | rfl | (simp only [List.length_drop, List.length_take]; rfl)) ?_; (with_reducible refine (api_Duty_117.calls  x3_1 t200 _ A6.out).mono ?_); rintro e w7 ⟨v201, rfl, ho0, hb⟩; refine ⟨_, rfl, ?_⟩; have n0_ := Aside0.mk (Kd.R_lower ho0 (below_size (by repeat (first | (with_reducible first | exact HB.out | apply below_alloc | apply pw_below_drewN | apply below_drew1) | exact HB.out)))); have n1_ := Aside0.mk (below_step (by repeat (first | (with_reducible first | exact HB.out | apply below_alloc | apply pw_below_drewN | apply below_drew1) | exact HB.out)) hb); clear HB; have HO202 := n0_; have HB := n1_; clear n0_ n1_; (try clear hb); (try clear hb2); (try clear hk); (try clear hi); (try clear ho0)))
     try go_simp
     go_loopg [6, 27] k1 (fun kq v6 v27 w' => ∃ (x6_2 : List (S61)) (x27_2 : Int), v27 = .int .i64 x27_2 ∧ Aside0 (api_Duty_95.l1 kq x6_2 l0 (l0.length : Int) x27_2 = some r) ∧ Aside0 (kq ≤ k1) ∧ Aside0 (Kd.R k61 61 w' w.heap.size (fun _ => True) v6 x6_2) ∧ Aside0 (Below w.heap.size w w'))
     case atStart => exact ⟨(t200), (0), (by first | rfl | (simp; done) | (simp [*]; done)), H', ⟨Nat.le_refl _⟩, ⟨by (with_reducible repeat (first | apply Kd.R_alloc | apply Kd.R_drewN | apply Kd.R_drew)); exact HO202.out⟩, ⟨by repeat (first | (with_reducible first | exact HB.out | apply below_alloc | apply pw_below_drewN | apply below_drew1) | exact HB.out)⟩⟩
     case round =>
      clear H'
      try clear c1
      try clear p1
      try clear q1
      try clear hx1
      try clear c2
      try clear c2b0
      try clear p2
      try clear c3
      try clear c3b0
      try clear c4
      try clear c4b0
      try clear c5
      try clear c5b0
      try clear p6
      try clear hx199_0
      try clear p199
      try clear q199
      obtain ⟨x6_2, x27_2, rfl, HA, HK2, HO_6, HB⟩ := hrel
      cases gk with
      | zero => exact absurd HA.out (by simp [api_Duty_95.l1])
      | succ k2 =>
       have H := HA.out
       clear HA
       simp only [api_Duty_95.l1] at H
       by_cases c8 : x27_2 < (l0.length : Int)
       ·rw [if_pos c8] at H
        have c8b0 : decide (x27_2 < (l0.length : Int)) = true := decide_eq_true c8
        clear c8
        by_cases c9 : 0 ≤ x27_2
        ·rw [if_pos c9] at H
         have c9b0 : decide (0 ≤ x27_2) = true := decide_eq_true c9
         clear c9
         by_cases c10 : x27_2 < (l0.length : Int)
         ·rw [if_pos c10] at H
          have c10b0 : decide (x27_2 < (l0.length : Int)) = true := decide_eq_true c10
          clear c10
          by_cases c11 : x6_2.length + (rd_L6 l0 x27_2).length < 4398046511104
          ·rw [if_pos c11] at H
           have LMc11 := Aside0.mk c11
           clear c11
           obtain ⟨y204, hy204⟩ : ∃ y_ : List (S61), y_ = (x6_2 ++ (rd_L6 l0 x27_2)) := ⟨_, rfl⟩
           replace H : (api_Duty_95.l1 k2 y204 l0 (l0.length : Int) (wrap64 (x27_2 + 1))) = some r := by first | (rw [hy204]; with_reducible exact H) | (have H2_ := (Option.bind_some _ _).symm.trans H; rw [hy204]; with_reducible exact H2_) | (have H2_ := (Option.bind_some _ _).symm.trans H; with_reducible exact H2_) | with_reducible exact H | (rw [hy204]; exact H) | exact H
           have Ny204 := Aside0.mk hy204
           clear hy204
           have H' := Aside0.mk H
           clear H
           have p203 : 0 ≤ (x27_2 : Int) := of_decide_eq_true (by first | (with_reducible assumption) | assumption)
           have q203 : x27_2 < (l0.length : Int) := of_decide_eq_true (by first | (with_reducible assumption) | assumption)
           obtain ⟨ad203, A203_0, c203_0, e203, hx203_0, hl203_0, hi203_0⟩ := at_L6 HR0.out x27_2 p203 q203
           cases e203
           replace hx203_0 := (HB.out.cell (World.block_lt_of_cell? w _ hx203_0)).trans hx203_0
           have HR203_0 := Aside0.mk hi203_0
           have HC203_0 := Aside0.mk hl203_0
           clear hi203_0 hl203_0
           replace p203 := eq_true p203
           replace q203 := eq_true q203
           go_wp2_with (first | ((with_reducible refine gate_builtin (b := .append) (xs := #[.tmp 31, .tmp 32]) rfl ?_); at_builtin; refine Kd.R_append_rows k61 (w0 := w) w.heap.size rfl (.tmp 31) (.tmp 32) 40 61 (.agg #[(.int .i64 0), (.int .i64 0), (.int .i64 0), (.int .i64 0)]) 32 rfl Tryd.underlying40 info61 rfl (by decide) (by omega) u6 x6_2 (rd_L6 l0 x27_2) _ _ _ (fun _ => True) (fun _ => False) rfl rfl ?aO ?aR (fun _ _ h => h) (fun _ h => h.elim) ?aF ?aB ?aS ?aL ?_; (case aR => repeat (first | exact (Kd.C_below HR203_0.out HB.out) | (with_reducible refine Kd.C_alloc ?_ _) | (with_reducible refine Kd.C_drewN ?_ _) | (with_reducible refine Kd.C_drew ?_))); (case aB => exact (by repeat (first | (with_reducible first | exact HB.out | apply below_alloc | apply pw_below_drewN | apply below_drew1) | exact HB.out))); (case aF => exact (fun _ _ => trivial)); (case aO => exact (by (with_reducible repeat (first | apply Kd.R_alloc | apply Kd.R_drewN | apply Kd.R_drew)); exact HO_6.out)); (case aS => exact (below_size (by repeat (first | (with_reducible first | exact HB.out | apply below_alloc | apply pw_below_drewN | apply below_drew1) | exact HB.out)))); (case aL => have := LMc11.out; omega); intro v205 w12 ho hb hg hat; rw [← Ny204.out] at ho; have n0_ := Aside0.mk (hb); have n1_ := Aside0.mk (ho); clear HB; clear HO_6; have HB := n0_; have HO206 := n1_; clear n0_ n1_; clear ho hb hg hat))
           go_roundg k2
           case measure => have := HK1.out; have := HK2.out; omega
           case rel => exact ⟨(y204), (wrap64 (x27_2 + 1)), (by first | rfl | (simp; done) | (simp [*]; done)), H', ⟨by have := HK1.out; have := HK2.out; omega⟩, ⟨by (with_reducible repeat (first | apply Kd.R_alloc | apply Kd.R_drewN | apply Kd.R_drew)); exact HO206.out⟩, ⟨by repeat (first | (with_reducible first | exact HB.out | apply below_alloc | apply pw_below_drewN | apply below_drew1) | exact HB.out)⟩⟩
          ·rw [if_neg c11] at H
           exact absurd H (by simp)
         ·rw [if_neg c10] at H
          exact absurd H (by simp)
        ·rw [if_neg c9] at H
         exact absurd H (by simp)
       ·rw [if_neg c8] at H
        have c8b0 : decide (x27_2 < (l0.length : Int)) = false := decide_eq_false c8
        clear c8
        obtain rfl := Option.some.inj H
        go_wp2
        go_ret
        exact ⟨_, by first | rfl | (simp [errW_none, errW_some] <;> rfl) | (simp [*, errW_none, errW_some] <;> rfl), by (with_reducible repeat (first | apply Kd.R_alloc | apply Kd.R_drewN | apply Kd.R_drew)); exact HO_6.out, by repeat (first | (with_reducible first | exact HB.out | apply below_alloc | apply pw_below_drewN | apply below_drew1) | exact HB.out)⟩

end Go.Proofs.YtpklljejiofnfaaDoor.PAll
