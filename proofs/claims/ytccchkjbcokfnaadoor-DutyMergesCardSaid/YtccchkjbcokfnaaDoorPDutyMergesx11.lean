-- Printed by this session's own program (not print.sh's)
import Derived.Test.YtccchkjbcokfnaaDoorPDutyMergesx0
import Derived.Test.YtccchkjbcokfnaaDoorPDutyMergesx1
namespace Go.Proofs.YtccchkjbcokfnaaDoor.PDutyMerges
open Go.RowKit Go.Proofs.YtccchkjbcokfnaaDoorW.PrintWords Go.Proofs.YtccchkjbcokfnaaDoorW.PrintLast Go.Proofs.YtccchkjbcokfnaaDoorW.PrintMore
attribute [local go_sem] max2_int min2_int max_two min_two max_three min_three max_four min_four   -- for this text's walks alone
set_option linter.unusedVariables false
set_option linter.unusedSimpArgs false

attribute [local go_sem high] eqA42
/-! ### storagebarterref28_Merge: function 11 -/
mutual
def storagebarterref28_Merge.l0 : Nat → List (List (S42)) → List (S42) → Int → Option ((List (S42)))
  | 0, _, _, _ => none
  | k + 1, x0, x3, x4 => if x4 < (x0.length : Int) then (storagebarterref28_Merge.l1 k x0 x3 x4 0) else (some x3)
def storagebarterref28_Merge.l1 : Nat → List (List (S42)) → List (S42) → Int → Int → Option ((List (S42)))
  | 0, _, _, _, _ => none
  | k + 1, x0, x3, x4, x5 => if 0 ≤ x4 then (if x4 < (x0.length : Int) then (if x5 < ((rd_L5 x0 x4).length : Int) then (if 0 ≤ x5 then (storagebarterref28_Merge.l2 k x0 x3 x4 x5 (x3.length : Int) ((rd_T42 (rd_L5 x0 x4) x5).f0) ((rd_T42 (rd_L5 x0 x4) x5).f1) ((rd_T42 (rd_L5 x0 x4) x5).f2) ((rd_T42 (rd_L5 x0 x4) x5).f3)) else (none)) else (storagebarterref28_Merge.l0 k x0 x3 (wrap64 (x4 + 1)))) else (none)) else (none)
def storagebarterref28_Merge.l2 : Nat → List (List (S42)) → List (S42) → Int → Int → Int → Int → Int → Int → Int → Option ((List (S42)))
  | 0, _, _, _, _, _, _, _, _, _ => none
  | k + 1, x0, x3, x4, x5, x7, x243000, x243001, x243002, x243003 => if x7 > 0 then (if 0 ≤ (wrap64 (x7 - 1)) then (if (wrap64 (x7 - 1)) < (x3.length : Int) then (if ((rd_T42 x3 (wrap64 (x7 - 1))).f0) > x243000 then (storagebarterref28_Merge.l2 k x0 x3 x4 x5 (wrap64 (x7 - 1)) x243000 x243001 x243002 x243003) else (if ((rd_T42 x3 (wrap64 (x7 - 1))).f0) = x243000 then (if ((rd_T42 x3 (wrap64 (x7 - 1))).f1) > x243001 then (storagebarterref28_Merge.l2 k x0 x3 x4 x5 (wrap64 (x7 - 1)) x243000 x243001 x243002 x243003) else (if 0 ≤ x7 then (if x7 ≤ (x3.length : Int) then ((some (x3.take (x7 : Int).toNat : List (S42))).bind fun y246 => (if ([] : List (S42)).length + y246.length < 4398046511104 then ((some (([] : List (S42)) ++ y246 : List (S42))).bind fun y250 => (if y250.length < 4398046511104 then ((some (y250 ++ [(⟨x243000, x243001, x243002, x243003⟩ : S42)] : List (S42))).bind fun y253 => ((some (x3.drop (x7 : Int).toNat : List (S42))).bind fun y256 => (if y253.length + y256.length < 4398046511104 then (storagebarterref28_Merge.l1 k x0 (y253 ++ y256) x4 (wrap64 (x5 + 1))) else (none)))) else (none))) else (none))) else (none)) else (none))) else (if 0 ≤ x7 then (if x7 ≤ (x3.length : Int) then ((some (x3.take (x7 : Int).toNat : List (S42))).bind fun y263 => (if ([] : List (S42)).length + y263.length < 4398046511104 then ((some (([] : List (S42)) ++ y263 : List (S42))).bind fun y267 => (if y267.length < 4398046511104 then ((some (y267 ++ [(⟨x243000, x243001, x243002, x243003⟩ : S42)] : List (S42))).bind fun y270 => ((some (x3.drop (x7 : Int).toNat : List (S42))).bind fun y273 => (if y270.length + y273.length < 4398046511104 then (storagebarterref28_Merge.l1 k x0 (y270 ++ y273) x4 (wrap64 (x5 + 1))) else (none)))) else (none))) else (none))) else (none)) else (none)))) else (none)) else (none)) else (if 0 ≤ x7 then (if x7 ≤ (x3.length : Int) then ((some (x3.take (x7 : Int).toNat : List (S42))).bind fun y280 => (if ([] : List (S42)).length + y280.length < 4398046511104 then ((some (([] : List (S42)) ++ y280 : List (S42))).bind fun y284 => (if y284.length < 4398046511104 then ((some (y284 ++ [(⟨x243000, x243001, x243002, x243003⟩ : S42)] : List (S42))).bind fun y287 => ((some (x3.drop (x7 : Int).toNat : List (S42))).bind fun y290 => (if y287.length + y290.length < 4398046511104 then (storagebarterref28_Merge.l1 k x0 (y287 ++ y290) x4 (wrap64 (x5 + 1))) else (none)))) else (none))) else (none))) else (none)) else (none))
end
def storagebarterref28_Merge.f (k : Nat) (l0 : List (List (S42))) : Option ((List (S42))) := storagebarterref28_Merge.l0 k l0 ([] : List (S42)) 0
theorem storagebarterref28_Merge.mono_l : ∀ k, (∀ y0 y1 y2, LeO (storagebarterref28_Merge.l0 k y0 y1 y2) (storagebarterref28_Merge.l0 (k + 1) y0 y1 y2)) ∧ (∀ y0 y1 y2 y3, LeO (storagebarterref28_Merge.l1 k y0 y1 y2 y3) (storagebarterref28_Merge.l1 (k + 1) y0 y1 y2 y3)) ∧ (∀ y0 y1 y2 y3 y4 y5 y6 y7 y8, LeO (storagebarterref28_Merge.l2 k y0 y1 y2 y3 y4 y5 y6 y7 y8) (storagebarterref28_Merge.l2 (k + 1) y0 y1 y2 y3 y4 y5 y6 y7 y8))
  | 0 => ⟨fun _ _ _ r h => by simp [storagebarterref28_Merge.l0] at h, fun _ _ _ _ r h => by simp [storagebarterref28_Merge.l1] at h, fun _ _ _ _ _ _ _ _ _ r h => by simp [storagebarterref28_Merge.l2] at h⟩
  | k + 1 => by
    obtain ⟨ih0, ih1, ih2⟩ := storagebarterref28_Merge.mono_l k
    refine ⟨?_, ?_, ?_⟩
    · intro y0 y1 y2
      unfold storagebarterref28_Merge.l0
      repeat' first
      | (with_reducible exact ih0 _ _ _)
      | (with_reducible exact ih1 _ _ _ _)
      | (with_reducible exact ih2 _ _ _ _ _ _ _ _ _)
      | (with_reducible exact LeO.refl _)
      | (with_reducible exact LeO.none _)
      | (with_reducible refine LeO.ite ?_ ?_)
      | (with_reducible refine LeO.bind ?_ (fun _ => ?_))
      | exact ih0 _ _ _
      | exact ih1 _ _ _ _
      | exact ih2 _ _ _ _ _ _ _ _ _
      | exact LeO.none _
      | refine LeO.ite ?_ ?_
      | refine LeO.bind ?_ (fun _ => ?_)
    · intro y0 y1 y2 y3
      unfold storagebarterref28_Merge.l1
      repeat' first
      | (with_reducible exact ih0 _ _ _)
      | (with_reducible exact ih1 _ _ _ _)
      | (with_reducible exact ih2 _ _ _ _ _ _ _ _ _)
      | (with_reducible exact LeO.refl _)
      | (with_reducible exact LeO.none _)
      | (with_reducible refine LeO.ite ?_ ?_)
      | (with_reducible refine LeO.bind ?_ (fun _ => ?_))
      | exact ih0 _ _ _
      | exact ih1 _ _ _ _
      | exact ih2 _ _ _ _ _ _ _ _ _
      | exact LeO.none _
      | refine LeO.ite ?_ ?_
      | refine LeO.bind ?_ (fun _ => ?_)
    · intro y0 y1 y2 y3 y4 y5 y6 y7 y8
      unfold storagebarterref28_Merge.l2
      repeat' first
      | (with_reducible exact ih0 _ _ _)
      | (with_reducible exact ih1 _ _ _ _)
      | (with_reducible exact ih2 _ _ _ _ _ _ _ _ _)
      | (with_reducible exact LeO.refl _)
      | (with_reducible exact LeO.none _)
      | (with_reducible refine LeO.ite ?_ ?_)
      | (with_reducible refine LeO.bind ?_ (fun _ => ?_))
      | exact ih0 _ _ _
      | exact ih1 _ _ _ _
      | exact ih2 _ _ _ _ _ _ _ _ _
      | exact LeO.none _
      | refine LeO.ite ?_ ?_
      | refine LeO.bind ?_ (fun _ => ?_)
theorem storagebarterref28_Merge.mono : ∀ a0 k, LeO (storagebarterref28_Merge.f k a0) (storagebarterref28_Merge.f (k + 1) a0) := by
  intro a0 k
  obtain ⟨ih0, ih1, ih2⟩ := storagebarterref28_Merge.mono_l k
  unfold storagebarterref28_Merge.f
  repeat' first
      | (with_reducible exact ih0 _ _ _)
      | (with_reducible exact ih1 _ _ _ _)
      | (with_reducible exact ih2 _ _ _ _ _ _ _ _ _)
      | (with_reducible exact LeO.refl _)
      | (with_reducible exact LeO.none _)
      | (with_reducible refine LeO.ite ?_ ?_)
      | (with_reducible refine LeO.bind ?_ (fun _ => ?_))
      | exact ih0 _ _ _
      | exact ih1 _ _ _ _
      | exact ih2 _ _ _ _ _ _ _ _ _
      | exact LeO.none _
      | refine LeO.ite ?_ ?_
      | refine LeO.bind ?_ (fun _ => ?_)
set_option maxHeartbeats 8000000 in
set_option maxRecDepth 100000 in
theorem storagebarterref28_Merge.calls (k : Nat) (A0 : Option Addr) (c0 : Nat) (l0 : List (List (S42))) (r : List (S42)) (w : World) (hr0 : Kd.C (Kd.slice 42 k42) w A0 l0.length l0) (hc0 : l0.length ≤ c0) (h : storagebarterref28_Merge.f k l0 = some r) :
    Calls Tryd.prog 11 #[.slice A0 l0.length c0] w fun e w' => ∃ v0_ : Value, e = .returned (v0_) ∧ Kd.R k42 42 w' w.heap.size (fun _ => True) v0_ r ∧ Below w.heap.size w w' := by
  have hu42 := Tryd.underlying42
  have HR0 := Aside0.mk hr0
  have HC0 := Aside0.mk hc0
  clear hr0 hc0
  have HB := Aside0.mk (Below.refl w.heap.size w)
  have H : (storagebarterref28_Merge.l0 k l0 ([] : List (S42)) 0) = some r := h
  clear h
  have H' := Aside0.mk H
  clear H
  go_enter Tryd.func11, Tryd.ntmps11
  go_wp2
  repeat (go_quiet (fail); try go_wp2)
  go_loopg [3, 4] k (fun kq v3 v4 w' => ∃ (x3_1 : List (S42)) (x4_1 : Int), v4 = .int .i64 x4_1 ∧ Aside0 (storagebarterref28_Merge.l0 kq l0 x3_1 x4_1 = some r) ∧ Aside0 (kq ≤ k) ∧ Aside0 (Kd.R k42 42 w' w.heap.size (fun _ => True) v3 x3_1) ∧ Aside0 (Below w.heap.size w w'))
  case atStart => exact ⟨(([] : List (S42))), (0), (by first | rfl | (simp; done) | (simp [*]; done)), H', ⟨Nat.le_refl _⟩, ⟨by first | exact Kd.R_nil _ _ _ _ _ | exact Kd.N_nil _ _ _ _ _ | exact Kd.V_nil _ _ _ _ _ | exact Kd.Q_nil _ _ _ _ _ | exact Kd.S_nil _ _ _ _ _⟩, ⟨by repeat (first | (with_reducible first | exact HB.out | apply below_alloc | apply pw_below_drewN | apply below_drew1) | exact HB.out)⟩⟩
  case round =>
   clear H'
   try clear c1
   obtain ⟨x3_1, x4_1, rfl, HA, HK1, HO_3, HB⟩ := hrel
   cases gk with
   | zero => exact absurd HA.out (by simp [storagebarterref28_Merge.l0])
   | succ k1 =>
    have H := HA.out
    clear HA
    simp only [storagebarterref28_Merge.l0] at H
    by_cases c2 : x4_1 < (l0.length : Int)
    ·rw [if_pos c2] at H
     have c2b0 : decide (x4_1 < (l0.length : Int)) = true := decide_eq_true c2
     clear c2
     have H' := Aside0.mk H
     clear H
     go_wp2
     repeat (go_quiet (fail); try go_wp2)
     go_loopg [3, 5] k1 (fun kq v3 v5 w' => ∃ (x3_2 : List (S42)) (x5_2 : Int), v5 = .int .i64 x5_2 ∧ Aside0 (storagebarterref28_Merge.l1 kq l0 x3_2 x4_1 x5_2 = some r) ∧ Aside0 (kq ≤ k1) ∧ Aside0 (Kd.R k42 42 w' w.heap.size (fun _ => True) v3 x3_2) ∧ Aside0 (Below w.heap.size w w'))
     case atStart => exact ⟨(x3_1), (0), (by first | rfl | (simp; done) | (simp [*]; done)), H', ⟨Nat.le_refl _⟩, ⟨by (with_reducible repeat (first | apply Kd.R_alloc | apply Kd.R_drewN | apply Kd.R_drew)); exact HO_3.out⟩, ⟨by repeat (first | (with_reducible first | exact HB.out | apply below_alloc | apply pw_below_drewN | apply below_drew1) | exact HB.out)⟩⟩
     case round =>
      clear H'
      try clear c1
      try clear c2
      try clear c2b0
      try clear p2
      obtain ⟨x3_2, x5_2, rfl, HA, HK2, HO_3, HB⟩ := hrel
      cases gk with
      | zero => exact absurd HA.out (by simp [storagebarterref28_Merge.l1])
      | succ k2 =>
       have H := HA.out
       clear HA
       simp only [storagebarterref28_Merge.l1] at H
       by_cases c3 : 0 ≤ x4_1
       ·rw [if_pos c3] at H
        have c3b0 : decide (0 ≤ x4_1) = true := decide_eq_true c3
        clear c3
        by_cases c4 : x4_1 < (l0.length : Int)
        ·rw [if_pos c4] at H
         have c4b0 : decide (x4_1 < (l0.length : Int)) = true := decide_eq_true c4
         clear c4
         by_cases c5 : x5_2 < ((rd_L5 l0 x4_1).length : Int)
         ·rw [if_pos c5] at H
          have c5b0 : decide (x5_2 < ((rd_L5 l0 x4_1).length : Int)) = true := decide_eq_true c5
          clear c5
          by_cases c6 : 0 ≤ x5_2
          ·rw [if_pos c6] at H
           have c6b0 : decide (0 ≤ x5_2) = true := decide_eq_true c6
           clear c6
           have H' := Aside0.mk H
           clear H
           have p239 : 0 ≤ (x4_1 : Int) := of_decide_eq_true (by first | (with_reducible assumption) | assumption)
           have q239 : x4_1 < (l0.length : Int) := of_decide_eq_true (by first | (with_reducible assumption) | assumption)
           obtain ⟨ad239, A239_0, c239_0, e239, hx239_0, hl239_0, hi239_0⟩ := at_L5 HR0.out x4_1 p239 q239
           cases e239
           replace hx239_0 := (HB.out.cell (World.block_lt_of_cell? w _ hx239_0)).trans hx239_0
           have HR239_0 := Aside0.mk hi239_0
           have HC239_0 := Aside0.mk hl239_0
           clear hi239_0 hl239_0
           replace p239 := eq_true p239
           replace q239 := eq_true q239
           have p240 : 0 ≤ (x4_1 : Int) := of_decide_eq_true (by first | (with_reducible assumption) | assumption)
           have q240 : x4_1 < (l0.length : Int) := of_decide_eq_true (by first | (with_reducible assumption) | assumption)
           obtain ⟨ad240, A240_0, c240_0, e240, hx240_0, hl240_0, hi240_0⟩ := at_L5 HR0.out x4_1 p240 q240
           obtain rfl : ad239 = ad240 := (by injection e240)
           replace hx240_0 := (HB.out.cell (World.block_lt_of_cell? w _ hx240_0)).trans hx240_0
           have HR240_0 := Aside0.mk hi240_0
           have HC240_0 := Aside0.mk hl240_0
           clear hi240_0 hl240_0
           replace p240 := eq_true p240
           replace q240 := eq_true q240
           have ea_ := Option.some.inj (hx239_0.symm.trans hx240_0)
           injection ea_ with ea_ en_ ec_
           subst ea_
           subst ec_
           clear en_
           have p241 : 0 ≤ (x5_2 : Int) := of_decide_eq_true (by first | (with_reducible assumption) | assumption)
           have q241 : x5_2 < ((rd_L5 l0 x4_1).length : Int) := of_decide_eq_true (by first | (with_reducible assumption) | assumption)
           obtain ⟨ad241, e241, hx241_0, hx241_1, hx241_2, hx241_3⟩ := at_T42 HR240_0.out x5_2 p241 q241
           cases e241
           replace hx241_0 := (HB.out.cell (World.block_lt_of_cell? w _ hx241_0)).trans hx241_0
           replace hx241_1 := (HB.out.cell (World.block_lt_of_cell? w _ hx241_1)).trans hx241_1
           replace hx241_2 := (HB.out.cell (World.block_lt_of_cell? w _ hx241_2)).trans hx241_2
           replace hx241_3 := (HB.out.cell (World.block_lt_of_cell? w _ hx241_3)).trans hx241_3
           replace p241 := eq_true p241
           replace q241 := eq_true q241
           go_wp2_with (first | ((with_reducible refine gate_dst (N := 6) rfl ?_); refine box_event ?hg (N := 6) ?hd (cs := #[.int .i64 0, .int .i64 0, .int .i64 0, .int .i64 0]) (t := 42) ?hr ?_; (case hd => rfl); (case hg => rfl); (case hr => first | (go_simp; done) | (go_simp; rfl)); intro gb242 hg w7 hbox hb; have n0_ := Aside0.mk (Kd.R_below (Kd.R_elderB (by (with_reducible repeat (first | apply Kd.R_alloc | apply Kd.R_drewN | apply Kd.R_drew)); exact HO_3.out) gb242 (Nat.le_of_eq hg.symm)) hb); have n1_ := Aside0.mk (below_step (by repeat (first | (with_reducible first | exact HB.out | apply below_alloc | apply pw_below_drewN | apply below_drew1) | exact HB.out)) hb); have n2_ := Aside0.mk (hbox); have n3_ := Aside0.mk ((by rw [hg]; exact (below_size (by repeat (first | (with_reducible first | exact HB.out | apply below_alloc | apply pw_below_drewN | apply below_drew1) | exact HB.out))) : w.heap.size ≤ gb242)); have n4_ := Aside0.mk ((by rw [hg]; exact (below_size (by repeat (first | (with_reducible first | exact HB.out | apply below_alloc | apply pw_below_drewN | apply below_drew1) | exact HB.out))) : w.heap.size ≤ gb242)); clear HO_3; clear HB; have HO_3 := n0_; have HB := n1_; have BK242 := n2_; have GW242 := n3_; have GE242 := n4_; clear n0_ n1_ n2_ n3_ n4_; clear hb hbox hg; have hcz8_0 : w7.cell? ⟨gb242, 0, none⟩ = some (.int .i64 0) := (blk_cell BK242.out 0).trans rfl; have hcz8_1 : w7.cell? ⟨gb242, 1, none⟩ = some (.int .i64 0) := (blk_cell BK242.out 1).trans rfl; have hcz8_2 : w7.cell? ⟨gb242, 2, none⟩ = some (.int .i64 0) := (blk_cell BK242.out 2).trans rfl; have hcz8_3 : w7.cell? ⟨gb242, 3, none⟩ = some (.int .i64 0) := (blk_cell BK242.out 3).trans rfl; have hfz8_0 := blk_frozen BK242.out 0; have hfz8_1 := blk_frozen BK242.out 1; have hfz8_2 := blk_frozen BK242.out 2; have hfz8_3 := blk_frozen BK242.out 3; obtain ⟨Ao9, co9, eo9⟩ := Kd.R_slice HO_3.out; subst eo9))
           repeat (go_quiet (fail); try go_wp2_with (first | ((with_reducible refine gate_dst (N := 6) rfl ?_); refine box_event ?hg (N := 6) ?hd (cs := #[.int .i64 0, .int .i64 0, .int .i64 0, .int .i64 0]) (t := 42) ?hr ?_; (case hd => rfl); (case hg => rfl); (case hr => first | (go_simp; done) | (go_simp; rfl)); intro gb242 hg w7 hbox hb; have n0_ := Aside0.mk (Kd.R_below (Kd.R_elderB (by (with_reducible repeat (first | apply Kd.R_alloc | apply Kd.R_drewN | apply Kd.R_drew)); exact HO_3.out) gb242 (Nat.le_of_eq hg.symm)) hb); have n1_ := Aside0.mk (below_step (by repeat (first | (with_reducible first | exact HB.out | apply below_alloc | apply pw_below_drewN | apply below_drew1) | exact HB.out)) hb); have n2_ := Aside0.mk (hbox); have n3_ := Aside0.mk ((by rw [hg]; exact (below_size (by repeat (first | (with_reducible first | exact HB.out | apply below_alloc | apply pw_below_drewN | apply below_drew1) | exact HB.out))) : w.heap.size ≤ gb242)); have n4_ := Aside0.mk ((by rw [hg]; exact (below_size (by repeat (first | (with_reducible first | exact HB.out | apply below_alloc | apply pw_below_drewN | apply below_drew1) | exact HB.out))) : w.heap.size ≤ gb242)); clear HO_3; clear HB; have HO_3 := n0_; have HB := n1_; have BK242 := n2_; have GW242 := n3_; have GE242 := n4_; clear n0_ n1_ n2_ n3_ n4_; clear hb hbox hg; have hcz8_0 : w7.cell? ⟨gb242, 0, none⟩ = some (.int .i64 0) := (blk_cell BK242.out 0).trans rfl; have hcz8_1 : w7.cell? ⟨gb242, 1, none⟩ = some (.int .i64 0) := (blk_cell BK242.out 1).trans rfl; have hcz8_2 : w7.cell? ⟨gb242, 2, none⟩ = some (.int .i64 0) := (blk_cell BK242.out 2).trans rfl; have hcz8_3 : w7.cell? ⟨gb242, 3, none⟩ = some (.int .i64 0) := (blk_cell BK242.out 3).trans rfl; have hfz8_0 := blk_frozen BK242.out 0; have hfz8_1 := blk_frozen BK242.out 1; have hfz8_2 := blk_frozen BK242.out 2; have hfz8_3 := blk_frozen BK242.out 3; obtain ⟨Ao9, co9, eo9⟩ := Kd.R_slice HO_3.out; subst eo9)))
           go_loopg [7] k2 (fun kq v7 w' => ∃ (x7_3 : Int), v7 = .int .i64 x7_3 ∧ Aside0 (storagebarterref28_Merge.l2 kq l0 x3_2 x4_1 x5_2 x7_3 ((rd_T42 (rd_L5 l0 x4_1) x5_2).f0) ((rd_T42 (rd_L5 l0 x4_1) x5_2).f1) ((rd_T42 (rd_L5 l0 x4_1) x5_2).f2) ((rd_T42 (rd_L5 l0 x4_1) x5_2).f3) = some r) ∧ Aside0 (kq ≤ k2) ∧ Aside0 (Kd.R k42 42 w' w.heap.size (fun k_ => k_ ≠ gb242) (.slice Ao9 x3_2.length co9) x3_2) ∧ Aside0 (w'.heap[gb242]? = some (.cells #[.int .i64 ((rd_T42 (rd_L5 l0 x4_1) x5_2).f0), .int .i64 ((rd_T42 (rd_L5 l0 x4_1) x5_2).f1), .int .i64 ((rd_T42 (rd_L5 l0 x4_1) x5_2).f2), .int .i64 ((rd_T42 (rd_L5 l0 x4_1) x5_2).f3)] 42 (0, 0))) ∧ Aside0 (Below w.heap.size w w'))
           case atStart => exact ⟨((x3_2.length : Int)), (by first | rfl | (simp; done) | (simp [*]; done)), H', ⟨Nat.le_refl _⟩, ⟨by (with_reducible repeat (first | apply Kd.R_alloc | apply Kd.R_drewN | apply Kd.R_drew)); exact Kd.R_mono (Kd.R_far (p := ⟨gb242, 3, none⟩) (Kd.R_far (p := ⟨gb242, 2, none⟩) (Kd.R_far (p := ⟨gb242, 1, none⟩) (Kd.R_far (p := ⟨gb242, 0, none⟩) (Kd.R_mono HO_3.out (fun k_ hk => (⟨hk, hk.2⟩ : _ ∧ k_ ≠ gb242))) (fun _ hk => hk.2) (.int .i64 ((rd_T42 (rd_L5 l0 x4_1) x5_2).f0))) (fun _ hk => hk.2) (.int .i64 ((rd_T42 (rd_L5 l0 x4_1) x5_2).f1))) (fun _ hk => hk.2) (.int .i64 ((rd_T42 (rd_L5 l0 x4_1) x5_2).f2))) (fun _ hk => hk.2) (.int .i64 ((rd_T42 (rd_L5 l0 x4_1) x5_2).f3))) (fun _ hk => hk.1.2)⟩, ⟨by (with_reducible repeat (first | refine blk_drewN ?_ _ | refine blk_drew ?_ | refine blk_alloc ?_ _)); refine blk_put (cs := #[.int .i64 ((rd_T42 (rd_L5 l0 x4_1) x5_2).f0), .int .i64 ((rd_T42 (rd_L5 l0 x4_1) x5_2).f1), .int .i64 ((rd_T42 (rd_L5 l0 x4_1) x5_2).f2), .int .i64 0]) ?_ 3 _ rfl; (with_reducible repeat (first | refine blk_drewN ?_ _ | refine blk_drew ?_ | refine blk_alloc ?_ _)); refine blk_put (cs := #[.int .i64 ((rd_T42 (rd_L5 l0 x4_1) x5_2).f0), .int .i64 ((rd_T42 (rd_L5 l0 x4_1) x5_2).f1), .int .i64 0, .int .i64 0]) ?_ 2 _ rfl; (with_reducible repeat (first | refine blk_drewN ?_ _ | refine blk_drew ?_ | refine blk_alloc ?_ _)); refine blk_put (cs := #[.int .i64 ((rd_T42 (rd_L5 l0 x4_1) x5_2).f0), .int .i64 0, .int .i64 0, .int .i64 0]) ?_ 1 _ rfl; (with_reducible repeat (first | refine blk_drewN ?_ _ | refine blk_drew ?_ | refine blk_alloc ?_ _)); refine blk_put (cs := #[.int .i64 0, .int .i64 0, .int .i64 0, .int .i64 0]) ?_ 0 _ rfl; (with_reducible repeat (first | refine blk_drewN ?_ _ | refine blk_drew ?_ | refine blk_alloc ?_ _)); exact BK242.out⟩, ⟨by repeat (first | (with_reducible first | exact HB.out | apply below_alloc | apply pw_below_drewN | apply below_drew1 | refine below_set ?_ GE242.out) | exact HB.out)⟩⟩
           case round =>
            clear H'
            try clear c1
            try clear c2
            try clear c2b0
            try clear p2
            try clear q2
            try clear hx2
            try clear c3
            try clear c3b0
            try clear c4
            try clear c4b0
            try clear c5
            try clear c5b0
            try clear c6
            try clear c6b0
            try clear hcz8_0
            try clear hcz8_1
            try clear hcz8_2
            try clear hcz8_3
            try clear hfz8_0
            try clear hfz8_1
            try clear hfz8_2
            try clear hfz8_3
            try clear hx239_0
            try clear hx240_0
            try clear hx241_0
            try clear hx241_1
            try clear hx241_2
            try clear hx241_3
            try clear p2
            try clear p239
            try clear p240
            try clear p241
            try clear q239
            try clear q240
            try clear q241
            obtain ⟨x7_3, rfl, HA, HK3, HO_3, BK242, HB⟩ := hrel
            cases gk with
            | zero => exact absurd HA.out (by simp [storagebarterref28_Merge.l2])
            | succ k3 =>
             have H := HA.out
             clear HA
             simp only [storagebarterref28_Merge.l2] at H
             by_cases c10 : x7_3 > 0
             ·rw [if_pos c10] at H
              have c10b0 : decide (0 < x7_3) = true := decide_eq_true c10
              clear c10
              obtain ⟨ji11, hji11⟩ : ∃ j_ : Int, (wrap64 (x7_3 - 1)) = j_ := ⟨_, rfl⟩
              replace H : (if 0 ≤ (ji11) then (if (ji11) < (x3_2.length : Int) then (if ((rd_T42 x3_2 (ji11)).f0) > ((rd_T42 (rd_L5 l0 x4_1) x5_2).f0) then (storagebarterref28_Merge.l2 k3 l0 x3_2 x4_1 x5_2 ji11 ((rd_T42 (rd_L5 l0 x4_1) x5_2).f0) ((rd_T42 (rd_L5 l0 x4_1) x5_2).f1) ((rd_T42 (rd_L5 l0 x4_1) x5_2).f2) ((rd_T42 (rd_L5 l0 x4_1) x5_2).f3)) else (if ((rd_T42 x3_2 (ji11)).f0) = ((rd_T42 (rd_L5 l0 x4_1) x5_2).f0) then (if ((rd_T42 x3_2 (ji11)).f1) > ((rd_T42 (rd_L5 l0 x4_1) x5_2).f1) then (storagebarterref28_Merge.l2 k3 l0 x3_2 x4_1 x5_2 ji11 ((rd_T42 (rd_L5 l0 x4_1) x5_2).f0) ((rd_T42 (rd_L5 l0 x4_1) x5_2).f1) ((rd_T42 (rd_L5 l0 x4_1) x5_2).f2) ((rd_T42 (rd_L5 l0 x4_1) x5_2).f3)) else (if 0 ≤ x7_3 then (if x7_3 ≤ (x3_2.length : Int) then ((some (x3_2.take (x7_3 : Int).toNat : List (S42))).bind fun y246 => (if ([] : List (S42)).length + y246.length < 4398046511104 then ((some (([] : List (S42)) ++ y246 : List (S42))).bind fun y250 => (if y250.length < 4398046511104 then ((some (y250 ++ [(⟨((rd_T42 (rd_L5 l0 x4_1) x5_2).f0), ((rd_T42 (rd_L5 l0 x4_1) x5_2).f1), ((rd_T42 (rd_L5 l0 x4_1) x5_2).f2), ((rd_T42 (rd_L5 l0 x4_1) x5_2).f3)⟩ : S42)] : List (S42))).bind fun y253 => ((some (x3_2.drop (x7_3 : Int).toNat : List (S42))).bind fun y256 => (if y253.length + y256.length < 4398046511104 then (storagebarterref28_Merge.l1 k3 l0 (y253 ++ y256) x4_1 (wrap64 (x5_2 + 1))) else (none)))) else (none))) else (none))) else (none)) else (none))) else (if 0 ≤ x7_3 then (if x7_3 ≤ (x3_2.length : Int) then ((some (x3_2.take (x7_3 : Int).toNat : List (S42))).bind fun y263 => (if ([] : List (S42)).length + y263.length < 4398046511104 then ((some (([] : List (S42)) ++ y263 : List (S42))).bind fun y267 => (if y267.length < 4398046511104 then ((some (y267 ++ [(⟨((rd_T42 (rd_L5 l0 x4_1) x5_2).f0), ((rd_T42 (rd_L5 l0 x4_1) x5_2).f1), ((rd_T42 (rd_L5 l0 x4_1) x5_2).f2), ((rd_T42 (rd_L5 l0 x4_1) x5_2).f3)⟩ : S42)] : List (S42))).bind fun y270 => ((some (x3_2.drop (x7_3 : Int).toNat : List (S42))).bind fun y273 => (if y270.length + y273.length < 4398046511104 then (storagebarterref28_Merge.l1 k3 l0 (y270 ++ y273) x4_1 (wrap64 (x5_2 + 1))) else (none)))) else (none))) else (none))) else (none)) else (none)))) else (none)) else (none)) = some r := by first | (rw [hji11] at H; exact H) | (simp only [hji11] at H ⊢; exact H)
              have hji11w : (IntKind.i64.wrap (x7_3 - 1)) = ji11 := (i64_w _).trans hji11
              by_cases c12 : 0 ≤ (ji11)
              ·rw [if_pos c12] at H
               have c12b0 : decide (0 ≤ (ji11)) = true := decide_eq_true c12
               clear c12
               by_cases c13 : (ji11) < (x3_2.length : Int)
               ·rw [if_pos c13] at H
                have c13b0 : decide ((ji11) < (x3_2.length : Int)) = true := decide_eq_true c13
                clear c13
                by_cases c14 : ((rd_T42 x3_2 (ji11)).f0) > ((rd_T42 (rd_L5 l0 x4_1) x5_2).f0)
                ·rw [if_pos c14] at H
                 have c14b0 : decide (((rd_T42 (rd_L5 l0 x4_1) x5_2).f0) < ((rd_T42 x3_2 (ji11)).f0)) = true := decide_eq_true c14
                 clear c14
                 have H' := Aside0.mk H
                 clear H
                 have p243 : 0 ≤ ((ji11) : Int) := of_decide_eq_true (by first | (with_reducible assumption) | assumption)
                 have q243 : (ji11) < (x3_2.length : Int) := of_decide_eq_true (by first | (with_reducible assumption) | assumption)
                 obtain ⟨ad243, e243, hx243_0, hx243_1, hx243_2, hx243_3⟩ := at_T42 (Kd.R_reads' HO_3.out).2.2 (ji11) p243 q243
                 cases e243
                 replace p243 := eq_true p243
                 replace q243 := eq_true q243
                 have hcz15_0 : wr.cell? ⟨gb242, 0, none⟩ = some (.int .i64 ((rd_T42 (rd_L5 l0 x4_1) x5_2).f0)) := (blk_cell BK242.out 0).trans rfl
                 have hcz15_1 : wr.cell? ⟨gb242, 1, none⟩ = some (.int .i64 ((rd_T42 (rd_L5 l0 x4_1) x5_2).f1)) := (blk_cell BK242.out 1).trans rfl
                 have hcz15_2 : wr.cell? ⟨gb242, 2, none⟩ = some (.int .i64 ((rd_T42 (rd_L5 l0 x4_1) x5_2).f2)) := (blk_cell BK242.out 2).trans rfl
                 have hcz15_3 : wr.cell? ⟨gb242, 3, none⟩ = some (.int .i64 ((rd_T42 (rd_L5 l0 x4_1) x5_2).f3)) := (blk_cell BK242.out 3).trans rfl
                 have hfz15_0 := blk_frozen BK242.out 0
                 have hfz15_1 := blk_frozen BK242.out 1
                 have hfz15_2 := blk_frozen BK242.out 2
                 have hfz15_3 := blk_frozen BK242.out 3
                 go_wp2
                 repeat (go_quiet (fail); try go_wp2)
                 go_roundg k3
                 case measure => have := HK1.out; have := HK2.out; have := HK3.out; omega
                 case rel => exact ⟨(ji11), (by first | rfl | (simp; done) | (simp only [← hji11] <;> (first | rfl | simp)) | (simp [*]; done)), H', ⟨by have := HK1.out; have := HK2.out; have := HK3.out; omega⟩, ⟨by (with_reducible repeat (first | apply Kd.R_alloc | apply Kd.R_drewN | apply Kd.R_drew)); exact HO_3.out⟩, ⟨by (with_reducible repeat (first | refine blk_drewN ?_ _ | refine blk_drew ?_ | refine blk_alloc ?_ _)); exact BK242.out⟩, ⟨by repeat (first | (with_reducible first | exact HB.out | apply below_alloc | apply pw_below_drewN | apply below_drew1 | refine below_set ?_ GE242.out) | exact HB.out)⟩⟩
                ·rw [if_neg c14] at H
                 have c14b0 : decide (((rd_T42 (rd_L5 l0 x4_1) x5_2).f0) < ((rd_T42 x3_2 (ji11)).f0)) = false := decide_eq_false c14
                 clear c14
                 by_cases c16 : ((rd_T42 x3_2 (ji11)).f0) = ((rd_T42 (rd_L5 l0 x4_1) x5_2).f0)
                 ·rw [if_pos c16] at H
                  have c16b0 : (((rd_T42 x3_2 (ji11)).f0) == ((rd_T42 (rd_L5 l0 x4_1) x5_2).f0)) = true := beq_iff_eq.mpr c16
                  have c16b1 : (((rd_T42 x3_2 (ji11)).f0) != ((rd_T42 (rd_L5 l0 x4_1) x5_2).f0)) = false := bne_eq_false_iff_eq.mpr c16
                  clear c16
                  by_cases c17 : ((rd_T42 x3_2 (ji11)).f1) > ((rd_T42 (rd_L5 l0 x4_1) x5_2).f1)
                  ·rw [if_pos c17] at H
                   have c17b0 : decide (((rd_T42 (rd_L5 l0 x4_1) x5_2).f1) < ((rd_T42 x3_2 (ji11)).f1)) = true := decide_eq_true c17
                   clear c17
                   have H' := Aside0.mk H
                   clear H
                   have p243 : 0 ≤ ((ji11) : Int) := of_decide_eq_true (by first | (with_reducible assumption) | assumption)
                   have q243 : (ji11) < (x3_2.length : Int) := of_decide_eq_true (by first | (with_reducible assumption) | assumption)
                   obtain ⟨ad243, e243, hx243_0, hx243_1, hx243_2, hx243_3⟩ := at_T42 (Kd.R_reads' HO_3.out).2.2 (ji11) p243 q243
                   cases e243
                   replace p243 := eq_true p243
                   replace q243 := eq_true q243
                   have hcz18_0 : wr.cell? ⟨gb242, 0, none⟩ = some (.int .i64 ((rd_T42 (rd_L5 l0 x4_1) x5_2).f0)) := (blk_cell BK242.out 0).trans rfl
                   have hcz18_1 : wr.cell? ⟨gb242, 1, none⟩ = some (.int .i64 ((rd_T42 (rd_L5 l0 x4_1) x5_2).f1)) := (blk_cell BK242.out 1).trans rfl
                   have hcz18_2 : wr.cell? ⟨gb242, 2, none⟩ = some (.int .i64 ((rd_T42 (rd_L5 l0 x4_1) x5_2).f2)) := (blk_cell BK242.out 2).trans rfl
                   have hcz18_3 : wr.cell? ⟨gb242, 3, none⟩ = some (.int .i64 ((rd_T42 (rd_L5 l0 x4_1) x5_2).f3)) := (blk_cell BK242.out 3).trans rfl
                   have hfz18_0 := blk_frozen BK242.out 0
                   have hfz18_1 := blk_frozen BK242.out 1
                   have hfz18_2 := blk_frozen BK242.out 2
                   have hfz18_3 := blk_frozen BK242.out 3
                   have p244 : 0 ≤ ((ji11) : Int) := of_decide_eq_true (by first | (with_reducible assumption) | assumption)
                   have q244 : (ji11) < (x3_2.length : Int) := of_decide_eq_true (by first | (with_reducible assumption) | assumption)
                   obtain ⟨ad244, e244, hx244_0, hx244_1, hx244_2, hx244_3⟩ := at_T42 (Kd.R_reads' HO_3.out).2.2 (ji11) p244 q244
                   obtain rfl : ad243 = ad244 := (by injection e244)
                   replace p244 := eq_true p244
                   replace q244 := eq_true q244
                   have p245 : 0 ≤ ((ji11) : Int) := of_decide_eq_true (by first | (with_reducible assumption) | assumption)
                   have q245 : (ji11) < (x3_2.length : Int) := of_decide_eq_true (by first | (with_reducible assumption) | assumption)
                   obtain ⟨ad245, e245, hx245_0, hx245_1, hx245_2, hx245_3⟩ := at_T42 (Kd.R_reads' HO_3.out).2.2 (ji11) p245 q245
                   obtain rfl : ad243 = ad245 := (by injection e245)
                   replace p245 := eq_true p245
                   replace q245 := eq_true q245
                   go_wp2
                   repeat (go_quiet (fail); try go_wp2)
                   go_roundg k3
                   case measure => have := HK1.out; have := HK2.out; have := HK3.out; omega
                   case rel => exact ⟨(ji11), (by first | rfl | (simp; done) | (simp only [← hji11] <;> (first | rfl | simp)) | (simp [*]; done)), H', ⟨by have := HK1.out; have := HK2.out; have := HK3.out; omega⟩, ⟨by (with_reducible repeat (first | apply Kd.R_alloc | apply Kd.R_drewN | apply Kd.R_drew)); exact HO_3.out⟩, ⟨by (with_reducible repeat (first | refine blk_drewN ?_ _ | refine blk_drew ?_ | refine blk_alloc ?_ _)); exact BK242.out⟩, ⟨by repeat (first | (with_reducible first | exact HB.out | apply below_alloc | apply pw_below_drewN | apply below_drew1 | refine below_set ?_ GE242.out) | exact HB.out)⟩⟩
                  ·rw [if_neg c17] at H
                   have c17b0 : decide (((rd_T42 (rd_L5 l0 x4_1) x5_2).f1) < ((rd_T42 x3_2 (ji11)).f1)) = false := decide_eq_false c17
                   clear c17
                   by_cases c19 : 0 ≤ x7_3
                   ·rw [if_pos c19] at H
                    have c19b0 := eq_true c19
                    have c19b1 : decide (0 ≤ x7_3) = true := decide_eq_true c19
                    clear c19
                    by_cases c20 : x7_3 ≤ (x3_2.length : Int)
                    ·rw [if_pos c20] at H
                     have c20b0 := eq_true c20
                     have c20b1 : decide (x7_3 ≤ (x3_2.length : Int)) = true := decide_eq_true c20
                     clear c20
                     obtain ⟨y246, hy246⟩ : ∃ y_ : List (S42), y_ = (x3_2.take (x7_3 : Int).toNat) := ⟨_, rfl⟩
                     replace H : (if ([] : List (S42)).length + y246.length < 4398046511104 then ((some (([] : List (S42)) ++ y246 : List (S42))).bind fun y250 => (if y250.length < 4398046511104 then ((some (y250 ++ [(⟨((rd_T42 (rd_L5 l0 x4_1) x5_2).f0), ((rd_T42 (rd_L5 l0 x4_1) x5_2).f1), ((rd_T42 (rd_L5 l0 x4_1) x5_2).f2), ((rd_T42 (rd_L5 l0 x4_1) x5_2).f3)⟩ : S42)] : List (S42))).bind fun y253 => ((some (x3_2.drop (x7_3 : Int).toNat : List (S42))).bind fun y256 => (if y253.length + y256.length < 4398046511104 then (storagebarterref28_Merge.l1 k3 l0 (y253 ++ y256) x4_1 (wrap64 (x5_2 + 1))) else (none)))) else (none))) else (none)) = some r := by first | (rw [hy246]; with_reducible exact H) | (have H2_ := (Option.bind_some _ _).symm.trans H; rw [hy246]; with_reducible exact H2_) | (have H2_ := (Option.bind_some _ _).symm.trans H; with_reducible exact H2_) | with_reducible exact H | (rw [hy246]; exact H) | exact H
                     have Ny246 := Aside0.mk hy246
                     clear hy246
                     by_cases c21 : ([] : List (S42)).length + y246.length < 4398046511104
                     ·rw [if_pos c21] at H
                      have LMc21 := Aside0.mk c21
                      clear c21
                      obtain ⟨y250, hy250⟩ : ∃ y_ : List (S42), y_ = (([] : List (S42)) ++ y246) := ⟨_, rfl⟩
                      replace H : (if y250.length < 4398046511104 then ((some (y250 ++ [(⟨((rd_T42 (rd_L5 l0 x4_1) x5_2).f0), ((rd_T42 (rd_L5 l0 x4_1) x5_2).f1), ((rd_T42 (rd_L5 l0 x4_1) x5_2).f2), ((rd_T42 (rd_L5 l0 x4_1) x5_2).f3)⟩ : S42)] : List (S42))).bind fun y253 => ((some (x3_2.drop (x7_3 : Int).toNat : List (S42))).bind fun y256 => (if y253.length + y256.length < 4398046511104 then (storagebarterref28_Merge.l1 k3 l0 (y253 ++ y256) x4_1 (wrap64 (x5_2 + 1))) else (none)))) else (none)) = some r := by first | (rw [hy250]; with_reducible exact H) | (have H2_ := (Option.bind_some _ _).symm.trans H; rw [hy250]; with_reducible exact H2_) | (have H2_ := (Option.bind_some _ _).symm.trans H; with_reducible exact H2_) | with_reducible exact H | (rw [hy250]; exact H) | exact H
                      have Ny250 := Aside0.mk hy250
                      clear hy250
                      by_cases c22 : y250.length < 4398046511104
                      ·rw [if_pos c22] at H
                       have LMc22 := Aside0.mk c22
                       clear c22
                       obtain ⟨y253, hy253⟩ : ∃ y_ : List (S42), y_ = (y250 ++ [(⟨((rd_T42 (rd_L5 l0 x4_1) x5_2).f0), ((rd_T42 (rd_L5 l0 x4_1) x5_2).f1), ((rd_T42 (rd_L5 l0 x4_1) x5_2).f2), ((rd_T42 (rd_L5 l0 x4_1) x5_2).f3)⟩ : S42)]) := ⟨_, rfl⟩
                       replace H : ((some (x3_2.drop (x7_3 : Int).toNat : List (S42))).bind fun y256 => (if y253.length + y256.length < 4398046511104 then (storagebarterref28_Merge.l1 k3 l0 (y253 ++ y256) x4_1 (wrap64 (x5_2 + 1))) else (none))) = some r := by first | (rw [hy253]; with_reducible exact H) | (have H2_ := (Option.bind_some _ _).symm.trans H; rw [hy253]; with_reducible exact H2_) | (have H2_ := (Option.bind_some _ _).symm.trans H; with_reducible exact H2_) | with_reducible exact H | (rw [hy253]; exact H) | exact H
                       have Ny253 := Aside0.mk hy253
                       clear hy253
                       have c23b0 := eq_true (of_decide_eq_true (by first | (with_reducible assumption) | assumption) : 0 ≤ x7_3)
                       have c24b0 := eq_true (of_decide_eq_true (by first | (with_reducible assumption) | assumption) : x7_3 ≤ (x3_2.length : Int))
                       obtain ⟨y256, hy256⟩ : ∃ y_ : List (S42), y_ = (x3_2.drop (x7_3 : Int).toNat) := ⟨_, rfl⟩
                       replace H : (if y253.length + y256.length < 4398046511104 then (storagebarterref28_Merge.l1 k3 l0 (y253 ++ y256) x4_1 (wrap64 (x5_2 + 1))) else (none)) = some r := by first | (rw [hy256]; with_reducible exact H) | (have H2_ := (Option.bind_some _ _).symm.trans H; rw [hy256]; with_reducible exact H2_) | (have H2_ := (Option.bind_some _ _).symm.trans H; with_reducible exact H2_) | with_reducible exact H | (rw [hy256]; exact H) | exact H
                       have Ny256 := Aside0.mk hy256
                       clear hy256
                       by_cases c25 : y253.length + y256.length < 4398046511104
                       ·rw [if_pos c25] at H
                        have LMc25 := Aside0.mk c25
                        clear c25
                        obtain ⟨y260, hy260⟩ : ∃ y_ : List (S42), y_ = (y253 ++ y256) := ⟨_, rfl⟩
                        replace H : (storagebarterref28_Merge.l1 k3 l0 y260 x4_1 (wrap64 (x5_2 + 1))) = some r := by first | (rw [hy260]; with_reducible exact H) | (have H2_ := (Option.bind_some _ _).symm.trans H; rw [hy260]; with_reducible exact H2_) | (have H2_ := (Option.bind_some _ _).symm.trans H; with_reducible exact H2_) | with_reducible exact H | (rw [hy260]; exact H) | exact H
                        have Ny260 := Aside0.mk hy260
                        clear hy260
                        have H' := Aside0.mk H
                        clear H
                        have p243 : 0 ≤ ((ji11) : Int) := of_decide_eq_true (by first | (with_reducible assumption) | assumption)
                        have q243 : (ji11) < (x3_2.length : Int) := of_decide_eq_true (by first | (with_reducible assumption) | assumption)
                        obtain ⟨ad243, e243, hx243_0, hx243_1, hx243_2, hx243_3⟩ := at_T42 (Kd.R_reads' HO_3.out).2.2 (ji11) p243 q243
                        cases e243
                        replace p243 := eq_true p243
                        replace q243 := eq_true q243
                        have hcz26_0 : wr.cell? ⟨gb242, 0, none⟩ = some (.int .i64 ((rd_T42 (rd_L5 l0 x4_1) x5_2).f0)) := (blk_cell BK242.out 0).trans rfl
                        have hcz26_1 : wr.cell? ⟨gb242, 1, none⟩ = some (.int .i64 ((rd_T42 (rd_L5 l0 x4_1) x5_2).f1)) := (blk_cell BK242.out 1).trans rfl
                        have hcz26_2 : wr.cell? ⟨gb242, 2, none⟩ = some (.int .i64 ((rd_T42 (rd_L5 l0 x4_1) x5_2).f2)) := (blk_cell BK242.out 2).trans rfl
                        have hcz26_3 : wr.cell? ⟨gb242, 3, none⟩ = some (.int .i64 ((rd_T42 (rd_L5 l0 x4_1) x5_2).f3)) := (blk_cell BK242.out 3).trans rfl
                        have hfz26_0 := blk_frozen BK242.out 0
                        have hfz26_1 := blk_frozen BK242.out 1
                        have hfz26_2 := blk_frozen BK242.out 2
                        have hfz26_3 := blk_frozen BK242.out 3
                        have p244 : 0 ≤ ((ji11) : Int) := of_decide_eq_true (by first | (with_reducible assumption) | assumption)
                        have q244 : (ji11) < (x3_2.length : Int) := of_decide_eq_true (by first | (with_reducible assumption) | assumption)
                        obtain ⟨ad244, e244, hx244_0, hx244_1, hx244_2, hx244_3⟩ := at_T42 (Kd.R_reads' HO_3.out).2.2 (ji11) p244 q244
                        obtain rfl : ad243 = ad244 := (by injection e244)
                        replace p244 := eq_true p244
                        replace q244 := eq_true q244
                        have p245 : 0 ≤ ((ji11) : Int) := of_decide_eq_true (by first | (with_reducible assumption) | assumption)
                        have q245 : (ji11) < (x3_2.length : Int) := of_decide_eq_true (by first | (with_reducible assumption) | assumption)
                        obtain ⟨ad245, e245, hx245_0, hx245_1, hx245_2, hx245_3⟩ := at_T42 (Kd.R_reads' HO_3.out).2.2 (ji11) p245 q245
                        obtain rfl : ad243 = ad245 := (by injection e245)
                        replace p245 := eq_true p245
                        replace q245 := eq_true q245
                        have q27 : (x7_3 : Int) ≤ ((x3_2.length : Int) : Int) := of_decide_eq_true (by first | (with_reducible assumption) | assumption)
                        obtain ⟨i027, hi027, _, hsz27, _⟩ := info_parts info42
                        have hroom27 : x3_2.length ≤ co9 := (Kd.R_reads' HO_3.out).2.1
                        have hC27 : Kd.C k42 _ (some ad243) x3_2.length x3_2 := (Kd.R_reads' HO_3.out).2.2
                        have hcut27 := cut_to (P := Tryd.prog) 28 42 .i64 Tryd.underlying28 hi027 (some ad243) x3_2.length co9 x7_3 (of_decide_eq_true (by first | (with_reducible assumption) | assumption)) q27 hroom27
                        have hr27 := Kd.C_take (m := (x7_3 : Int).toNat) hC27 (by omega)
                        have hy27 : y246.length = (x7_3 : Int).toNat := (by rw [Ny246.out, List.length_take]; omega)
                        rw [← Ny246.out] at hr27
                        rw [← hy27] at hcut27
                        have HR249 := Aside0.mk hr27
                        have HC249 := Aside0.mk (show y246.length ≤ co9 from by omega)
                        clear hr27 hC27 hroom27 hi027 hsz27
                        have KY27 := Aside0.mk hy27
                        clear hy27
                        have KL27 := Aside0.mk (show (x7_3 : Int).toNat ≤ x3_2.length from by omega)
                        replace q27 := eq_true q27
                        go_wp2_with (first | ((with_reducible refine gate_builtin (b := .append) (xs := #[.tmp 70, .tmp 73]) rfl ?_); at_builtin; refine Kd.R_append_rows k42 (w0 := w) w.heap.size rfl (.tmp 70) (.tmp 73) 28 42 (.agg #[(.int .i64 0), (.int .i64 0), (.int .i64 0), (.int .i64 0)]) 32 rfl Tryd.underlying28 info42 rfl (by decide) (by omega) (.slice none 0 0) ([] : List (S42)) y246 _ _ _ (fun k_ => some k_ ≠ (.slice (some ad243) x3_2.length co9 : Value).ownBlock ∧ k_ ≠ gb242) (fun _ => False) rfl rfl ?aO ?aR (fun _ _ h => h) (fun _ h => h.elim) ?aF ?aB ?aS ?aL ?_; (case aR => repeat (first | exact (by repeat (first | (with_reducible exact HR249.out) | (with_reducible refine Kd.C_alloc ?_ _) | (with_reducible refine Kd.C_drewN ?_ _) | (with_reducible refine Kd.C_drew ?_) | exact HR249.out)) | (with_reducible refine Kd.C_alloc ?_ _) | (with_reducible refine Kd.C_drewN ?_ _) | (with_reducible refine Kd.C_drew ?_))); (case aB => exact (by repeat (first | (with_reducible first | exact HB.out | apply below_alloc | apply pw_below_drewN | apply below_drew1 | refine below_set ?_ GE242.out) | exact HB.out))); (case aF => exact (fun k_ hk => ⟨Kd.fresh' (Kd.R_lt (by (with_reducible repeat (first | apply Kd.R_alloc | apply Kd.R_drewN | apply Kd.R_drew)); exact HO_3.out)) k_ hk, Kd.freshB (g := gb242) (o := .cells #[.int .i64 ((rd_T42 (rd_L5 l0 x4_1) x5_2).f0), .int .i64 ((rd_T42 (rd_L5 l0 x4_1) x5_2).f1), .int .i64 ((rd_T42 (rd_L5 l0 x4_1) x5_2).f2), .int .i64 ((rd_T42 (rd_L5 l0 x4_1) x5_2).f3)] 42 (0, 0)) (by (with_reducible repeat (first | refine blk_drewN ?_ _ | refine blk_drew ?_ | refine blk_alloc ?_ _)); exact BK242.out) k_ hk⟩)); (case aO => exact ((Kd.R_nil _ _ _ _ (fun k_ => some k_ ≠ (.slice (some ad243) x3_2.length co9 : Value).ownBlock ∧ k_ ≠ gb242)))); (case aS => exact (below_size (by repeat (first | (with_reducible first | exact HB.out | apply below_alloc | apply pw_below_drewN | apply below_drew1 | refine below_set ?_ GE242.out) | exact HB.out)))); (case aL => have := LMc21.out; omega); intro v251 w28 ho hb hg hat; rw [← Ny250.out] at ho; have n0_ := Aside0.mk (Kd.R_after (Kd.R_apart_nil (by (with_reducible repeat (first | apply Kd.R_alloc | apply Kd.R_drewN | apply Kd.R_drew)); exact HO_3.out)) hg hat); have n1_ := Aside0.mk (blk_grown (g := gb242) (o := .cells #[.int .i64 ((rd_T42 (rd_L5 l0 x4_1) x5_2).f0), .int .i64 ((rd_T42 (rd_L5 l0 x4_1) x5_2).f1), .int .i64 ((rd_T42 (rd_L5 l0 x4_1) x5_2).f2), .int .i64 ((rd_T42 (rd_L5 l0 x4_1) x5_2).f3)] 42 (0, 0)) (by (with_reducible repeat (first | refine blk_drewN ?_ _ | refine blk_drew ?_ | refine blk_alloc ?_ _)); exact BK242.out) hg (by simp [Value.ownBlock])); have n2_ := Aside0.mk (hb); have n3_ := Aside0.mk ((show Kd.C k42 w28 (some ad243) y246.length y246 from by rw [Ny246.out]; exact Kd.C_take (m := (x7_3 : Int).toNat) ((Kd.R_reads' (Kd.R_after (Kd.R_apart_nil (by (with_reducible repeat (first | apply Kd.R_alloc | apply Kd.R_drewN | apply Kd.R_drew)); exact HO_3.out)) hg hat)).2.2) KL27.out)); have n4_ := Aside0.mk (ho); clear HO_3; clear BK242; clear HB; clear HR249; have HO_3 := n0_; have BK242 := n1_; have HB := n2_; have HR249 := n3_; have HO252 := n4_; clear n0_ n1_ n2_ n3_ n4_; clear ho hb hg hat; have hcz29_0 : w28.cell? ⟨gb242, 0, none⟩ = some (.int .i64 ((rd_T42 (rd_L5 l0 x4_1) x5_2).f0)) := (blk_cell BK242.out 0).trans rfl; have hcz29_1 : w28.cell? ⟨gb242, 1, none⟩ = some (.int .i64 ((rd_T42 (rd_L5 l0 x4_1) x5_2).f1)) := (blk_cell BK242.out 1).trans rfl; have hcz29_2 : w28.cell? ⟨gb242, 2, none⟩ = some (.int .i64 ((rd_T42 (rd_L5 l0 x4_1) x5_2).f2)) := (blk_cell BK242.out 2).trans rfl; have hcz29_3 : w28.cell? ⟨gb242, 3, none⟩ = some (.int .i64 ((rd_T42 (rd_L5 l0 x4_1) x5_2).f3)) := (blk_cell BK242.out 3).trans rfl; have hfz29_0 := blk_frozen BK242.out 0; have hfz29_1 := blk_frozen BK242.out 1; have hfz29_2 := blk_frozen BK242.out 2; have hfz29_3 := blk_frozen BK242.out 3) | ((with_reducible refine gate_builtin (b := .append) (xs := #[.tmp 75, .tmp 77]) rfl ?_); at_builtin; refine Kd.R_append k42 (w0 := w) w.heap.size rfl (.tmp 75) (.tmp 77) 28 42 (.agg #[(.int .i64 0), (.int .i64 0), (.int .i64 0), (.int .i64 0)]) 32 rfl Tryd.underlying28 info42 rfl (by decide) (by omega) v251 y250 (⟨((rd_T42 (rd_L5 l0 x4_1) x5_2).f0), ((rd_T42 (rd_L5 l0 x4_1) x5_2).f1), ((rd_T42 (rd_L5 l0 x4_1) x5_2).f2), ((rd_T42 (rd_L5 l0 x4_1) x5_2).f3)⟩ : S42) [.int .i64 ((rd_T42 (rd_L5 l0 x4_1) x5_2).f0), .int .i64 ((rd_T42 (rd_L5 l0 x4_1) x5_2).f1), .int .i64 ((rd_T42 (rd_L5 l0 x4_1) x5_2).f2), .int .i64 ((rd_T42 (rd_L5 l0 x4_1) x5_2).f3)] (fun k_ => some k_ ≠ (.slice (some ad243) x3_2.length co9 : Value).ownBlock ∧ k_ ≠ gb242) (fun _ => False) rfl rfl ?aP (fun _ hk => hk.elim) ?aF ?aO ?aB ?aS ?aL ?_; (case aP => exact k42_mkM _ _ _ (⟨((rd_T42 (rd_L5 l0 x4_1) x5_2).f0), ((rd_T42 (rd_L5 l0 x4_1) x5_2).f1), ((rd_T42 (rd_L5 l0 x4_1) x5_2).f2), ((rd_T42 (rd_L5 l0 x4_1) x5_2).f3)⟩ : S42)); (case aB => exact (by repeat (first | (with_reducible first | exact HB.out | apply below_alloc | apply pw_below_drewN | apply below_drew1 | refine below_set ?_ GE242.out) | exact HB.out))); (case aF => exact (fun k_ hk => ⟨Kd.fresh' (Kd.R_lt (by (with_reducible repeat (first | apply Kd.R_alloc | apply Kd.R_drewN | apply Kd.R_drew)); exact HO_3.out)) k_ hk, Kd.freshB (g := gb242) (o := .cells #[.int .i64 ((rd_T42 (rd_L5 l0 x4_1) x5_2).f0), .int .i64 ((rd_T42 (rd_L5 l0 x4_1) x5_2).f1), .int .i64 ((rd_T42 (rd_L5 l0 x4_1) x5_2).f2), .int .i64 ((rd_T42 (rd_L5 l0 x4_1) x5_2).f3)] 42 (0, 0)) (by (with_reducible repeat (first | refine blk_drewN ?_ _ | refine blk_drew ?_ | refine blk_alloc ?_ _)); exact BK242.out) k_ hk⟩)); (case aO => exact (by (with_reducible repeat (first | apply Kd.R_alloc | apply Kd.R_drewN | apply Kd.R_drew)); exact HO252.out)); (case aS => exact (below_size (by repeat (first | (with_reducible first | exact HB.out | apply below_alloc | apply pw_below_drewN | apply below_drew1 | refine below_set ?_ GE242.out) | exact HB.out)))); (case aL => have := LMc22.out; omega); intro v254 w30 ho hb hg hat; rw [← Ny253.out] at ho; have n0_ := Aside0.mk (Kd.R_after (ok := (fun k_ => k_ ≠ gb242)) (by (with_reducible repeat (first | apply Kd.R_alloc | apply Kd.R_drewN | apply Kd.R_drew)); exact HO_3.out) hg hat); have n1_ := Aside0.mk (blk_grown (g := gb242) (o := .cells #[.int .i64 ((rd_T42 (rd_L5 l0 x4_1) x5_2).f0), .int .i64 ((rd_T42 (rd_L5 l0 x4_1) x5_2).f1), .int .i64 ((rd_T42 (rd_L5 l0 x4_1) x5_2).f2), .int .i64 ((rd_T42 (rd_L5 l0 x4_1) x5_2).f3)] 42 (0, 0)) (by (with_reducible repeat (first | refine blk_drewN ?_ _ | refine blk_drew ?_ | refine blk_alloc ?_ _)); exact BK242.out) hg (Kd.R_away HO252.out (fun _ hk => hk.2))); have n2_ := Aside0.mk (hb); have n3_ := Aside0.mk ((show Kd.C k42 w30 (some ad243) y246.length y246 from by rw [Ny246.out]; exact Kd.C_take (m := (x7_3 : Int).toNat) ((Kd.R_reads' (Kd.R_after (ok := (fun k_ => k_ ≠ gb242)) (by (with_reducible repeat (first | apply Kd.R_alloc | apply Kd.R_drewN | apply Kd.R_drew)); exact HO_3.out) hg hat)).2.2) KL27.out)); have n4_ := Aside0.mk (ho); clear HO_3; clear BK242; clear HB; clear HR249; clear HO252; have HO_3 := n0_; have BK242 := n1_; have HB := n2_; have HR249 := n3_; have HO255 := n4_; clear n0_ n1_ n2_ n3_ n4_; clear ho hb hg hat; have q31 : (x7_3 : Int) ≤ ((x3_2.length : Int) : Int) := of_decide_eq_true (by first | (with_reducible assumption) | assumption); obtain ⟨i031, hi031, _, hsz31, _⟩ := info_parts info42; have hroom31 : x3_2.length ≤ co9 := (Kd.R_reads' HO_3.out).2.1; have hC31 : Kd.C k42 _ (some ad243) x3_2.length x3_2 := (Kd.R_reads' HO_3.out).2.2; have q031 : (0 : Int) ≤ (x7_3 : Int) := of_decide_eq_true (by first | (with_reducible assumption) | assumption); have hcut31 := cut_from (P := Tryd.prog) 28 42 .i64 Tryd.underlying28 hi031 4 hsz31 (some ad243) x3_2.length co9 x7_3 q031 q31; have hr31 := Kd.C_drop (m := (x7_3 : Int).toNat) (c := co9) hC31 (by omega) hroom31; obtain ⟨A31, hA31⟩ : ∃ A1, A1 = (if co9 = (x7_3 : Int).toNat then (some ad243) else ((some ad243) : Option Addr).map (·.add ((x7_3 : Int).toNat * 4))) := ⟨_, rfl⟩; obtain ⟨c31, hc31⟩ : ∃ c1, c1 = co9 - (x7_3 : Int).toNat := ⟨_, rfl⟩; have hy31 : y256.length = x3_2.length - (x7_3 : Int).toNat := (by rw [Ny256.out, List.length_drop] <;> omega); rw [show (x3_2).drop (x7_3 : Int).toNat = y256 from Ny256.out.symm] at hr31; replace hr31 : Kd.C k42 _ A31 y256.length y256 := (by rw [hA31]; exact hr31); rw [← hy31, ← hA31, ← hc31] at hcut31; have HR259 := Aside0.mk hr31; have HC259 := Aside0.mk (show y256.length ≤ c31 from by rw [hy31, hc31]; exact Nat.sub_le_sub_right hroom31 _); clear hr31 hC31 hroom31 hi031 hsz31 hc31; have KY31 := Aside0.mk hy31; have KA31 := Aside0.mk hA31; clear hy31 hA31; have KL31 := Aside0.mk (show (x7_3 : Int).toNat ≤ x3_2.length from by omega); replace q31 := eq_true q31) | ((with_reducible refine gate_builtin (b := .append) (xs := #[.tmp 79, .tmp 82]) rfl ?_); at_builtin; refine Kd.R_append_rows k42 (w0 := w) w.heap.size rfl (.tmp 79) (.tmp 82) 28 42 (.agg #[(.int .i64 0), (.int .i64 0), (.int .i64 0), (.int .i64 0)]) 32 rfl Tryd.underlying28 info42 rfl (by decide) (by omega) v254 y253 y256 _ _ _ (fun k_ => some k_ ≠ (.slice (some ad243) x3_2.length co9 : Value).ownBlock ∧ k_ ≠ gb242) (fun _ => False) rfl rfl ?aO ?aR (fun _ _ h => h) (fun _ h => h.elim) ?aF ?aB ?aS ?aL ?_; (case aR => repeat (first | exact (by repeat (first | (with_reducible exact HR259.out) | (with_reducible refine Kd.C_alloc ?_ _) | (with_reducible refine Kd.C_drewN ?_ _) | (with_reducible refine Kd.C_drew ?_) | exact HR259.out)) | (with_reducible refine Kd.C_alloc ?_ _) | (with_reducible refine Kd.C_drewN ?_ _) | (with_reducible refine Kd.C_drew ?_))); (case aB => exact (by repeat (first | (with_reducible first | exact HB.out | apply below_alloc | apply pw_below_drewN | apply below_drew1 | refine below_set ?_ GE242.out) | exact HB.out))); (case aF => exact (fun k_ hk => ⟨Kd.fresh' (Kd.R_lt (by (with_reducible repeat (first | apply Kd.R_alloc | apply Kd.R_drewN | apply Kd.R_drew)); exact HO_3.out)) k_ hk, Kd.freshB (g := gb242) (o := .cells #[.int .i64 ((rd_T42 (rd_L5 l0 x4_1) x5_2).f0), .int .i64 ((rd_T42 (rd_L5 l0 x4_1) x5_2).f1), .int .i64 ((rd_T42 (rd_L5 l0 x4_1) x5_2).f2), .int .i64 ((rd_T42 (rd_L5 l0 x4_1) x5_2).f3)] 42 (0, 0)) (by (with_reducible repeat (first | refine blk_drewN ?_ _ | refine blk_drew ?_ | refine blk_alloc ?_ _)); exact BK242.out) k_ hk⟩)); (case aO => exact (by (with_reducible repeat (first | apply Kd.R_alloc | apply Kd.R_drewN | apply Kd.R_drew)); exact HO255.out)); (case aS => exact (below_size (by repeat (first | (with_reducible first | exact HB.out | apply below_alloc | apply pw_below_drewN | apply below_drew1 | refine below_set ?_ GE242.out) | exact HB.out)))); (case aL => have := LMc25.out; omega); intro v261 w32 ho hb hg hat; rw [← Ny260.out] at ho; have n0_ := Aside0.mk (Kd.R_after (ok := (fun k_ => k_ ≠ gb242)) (by (with_reducible repeat (first | apply Kd.R_alloc | apply Kd.R_drewN | apply Kd.R_drew)); exact HO_3.out) hg hat); have n1_ := Aside0.mk (blk_grown (g := gb242) (o := .cells #[.int .i64 ((rd_T42 (rd_L5 l0 x4_1) x5_2).f0), .int .i64 ((rd_T42 (rd_L5 l0 x4_1) x5_2).f1), .int .i64 ((rd_T42 (rd_L5 l0 x4_1) x5_2).f2), .int .i64 ((rd_T42 (rd_L5 l0 x4_1) x5_2).f3)] 42 (0, 0)) (by (with_reducible repeat (first | refine blk_drewN ?_ _ | refine blk_drew ?_ | refine blk_alloc ?_ _)); exact BK242.out) hg (Kd.R_away HO255.out (fun _ hk => hk.2))); have n2_ := Aside0.mk (hb); have n3_ := Aside0.mk ((show Kd.C k42 w32 (some ad243) y246.length y246 from by rw [Ny246.out]; exact Kd.C_take (m := (x7_3 : Int).toNat) ((Kd.R_reads' (Kd.R_after (ok := (fun k_ => k_ ≠ gb242)) (by (with_reducible repeat (first | apply Kd.R_alloc | apply Kd.R_drewN | apply Kd.R_drew)); exact HO_3.out) hg hat)).2.2) KL27.out)); have n4_ := Aside0.mk ((show Kd.C k42 w32 A31 y256.length y256 from by rw [Ny256.out, KA31.out]; exact Kd.C_drop (m := (x7_3 : Int).toNat) (c := co9) ((Kd.R_reads' (Kd.R_after (ok := (fun k_ => k_ ≠ gb242)) (by (with_reducible repeat (first | apply Kd.R_alloc | apply Kd.R_drewN | apply Kd.R_drew)); exact HO_3.out) hg hat)).2.2) KL31.out ((Kd.R_reads' (Kd.R_after (ok := (fun k_ => k_ ≠ gb242)) (by (with_reducible repeat (first | apply Kd.R_alloc | apply Kd.R_drewN | apply Kd.R_drew)); exact HO_3.out) hg hat)).2.1))); have n5_ := Aside0.mk (ho); clear HO_3; clear BK242; clear HB; clear HR249; clear HR259; clear HO255; have HO_3 := n0_; have BK242 := n1_; have HB := n2_; have HR249 := n3_; have HR259 := n4_; have HO262 := n5_; clear n0_ n1_ n2_ n3_ n4_ n5_; clear ho hb hg hat))
                        repeat (go_quiet (fail); try go_wp2_with (first | ((with_reducible refine gate_builtin (b := .append) (xs := #[.tmp 70, .tmp 73]) rfl ?_); at_builtin; refine Kd.R_append_rows k42 (w0 := w) w.heap.size rfl (.tmp 70) (.tmp 73) 28 42 (.agg #[(.int .i64 0), (.int .i64 0), (.int .i64 0), (.int .i64 0)]) 32 rfl Tryd.underlying28 info42 rfl (by decide) (by omega) (.slice none 0 0) ([] : List (S42)) y246 _ _ _ (fun k_ => some k_ ≠ (.slice (some ad243) x3_2.length co9 : Value).ownBlock ∧ k_ ≠ gb242) (fun _ => False) rfl rfl ?aO ?aR (fun _ _ h => h) (fun _ h => h.elim) ?aF ?aB ?aS ?aL ?_; (case aR => repeat (first | exact (by repeat (first | (with_reducible exact HR249.out) | (with_reducible refine Kd.C_alloc ?_ _) | (with_reducible refine Kd.C_drewN ?_ _) | (with_reducible refine Kd.C_drew ?_) | exact HR249.out)) | (with_reducible refine Kd.C_alloc ?_ _) | (with_reducible refine Kd.C_drewN ?_ _) | (with_reducible refine Kd.C_drew ?_))); (case aB => exact (by repeat (first | (with_reducible first | exact HB.out | apply below_alloc | apply pw_below_drewN | apply below_drew1 | refine below_set ?_ GE242.out) | exact HB.out))); (case aF => exact (fun k_ hk => ⟨Kd.fresh' (Kd.R_lt (by (with_reducible repeat (first | apply Kd.R_alloc | apply Kd.R_drewN | apply Kd.R_drew)); exact HO_3.out)) k_ hk, Kd.freshB (g := gb242) (o := .cells #[.int .i64 ((rd_T42 (rd_L5 l0 x4_1) x5_2).f0), .int .i64 ((rd_T42 (rd_L5 l0 x4_1) x5_2).f1), .int .i64 ((rd_T42 (rd_L5 l0 x4_1) x5_2).f2), .int .i64 ((rd_T42 (rd_L5 l0 x4_1) x5_2).f3)] 42 (0, 0)) (by (with_reducible repeat (first | refine blk_drewN ?_ _ | refine blk_drew ?_ | refine blk_alloc ?_ _)); exact BK242.out) k_ hk⟩)); (case aO => exact ((Kd.R_nil _ _ _ _ (fun k_ => some k_ ≠ (.slice (some ad243) x3_2.length co9 : Value).ownBlock ∧ k_ ≠ gb242)))); (case aS => exact (below_size (by repeat (first | (with_reducible first | exact HB.out | apply below_alloc | apply pw_below_drewN | apply below_drew1 | refine below_set ?_ GE242.out) | exact HB.out)))); (case aL => have := LMc21.out; omega); intro v251 w28 ho hb hg hat; rw [← Ny250.out] at ho; have n0_ := Aside0.mk (Kd.R_after (Kd.R_apart_nil (by (with_reducible repeat (first | apply Kd.R_alloc | apply Kd.R_drewN | apply Kd.R_drew)); exact HO_3.out)) hg hat); have n1_ := Aside0.mk (blk_grown (g := gb242) (o := .cells #[.int .i64 ((rd_T42 (rd_L5 l0 x4_1) x5_2).f0), .int .i64 ((rd_T42 (rd_L5 l0 x4_1) x5_2).f1), .int .i64 ((rd_T42 (rd_L5 l0 x4_1) x5_2).f2), .int .i64 ((rd_T42 (rd_L5 l0 x4_1) x5_2).f3)] 42 (0, 0)) (by (with_reducible repeat (first | refine blk_drewN ?_ _ | refine blk_drew ?_ | refine blk_alloc ?_ _)); exact BK242.out) hg (by simp [Value.ownBlock])); have n2_ := Aside0.mk (hb); have n3_ := Aside0.mk ((show Kd.C k42 w28 (some ad243) y246.length y246 from by rw [Ny246.out]; exact Kd.C_take (m := (x7_3 : Int).toNat) ((Kd.R_reads' (Kd.R_after (Kd.R_apart_nil (by (with_reducible repeat (first | apply Kd.R_alloc | apply Kd.R_drewN | apply Kd.R_drew)); exact HO_3.out)) hg hat)).2.2) KL27.out)); have n4_ := Aside0.mk (ho); clear HO_3; clear BK242; clear HB; clear HR249; have HO_3 := n0_; have BK242 := n1_; have HB := n2_; have HR249 := n3_; have HO252 := n4_; clear n0_ n1_ n2_ n3_ n4_; clear ho hb hg hat; have hcz29_0 : w28.cell? ⟨gb242, 0, none⟩ = some (.int .i64 ((rd_T42 (rd_L5 l0 x4_1) x5_2).f0)) := (blk_cell BK242.out 0).trans rfl; have hcz29_1 : w28.cell? ⟨gb242, 1, none⟩ = some (.int .i64 ((rd_T42 (rd_L5 l0 x4_1) x5_2).f1)) := (blk_cell BK242.out 1).trans rfl; have hcz29_2 : w28.cell? ⟨gb242, 2, none⟩ = some (.int .i64 ((rd_T42 (rd_L5 l0 x4_1) x5_2).f2)) := (blk_cell BK242.out 2).trans rfl; have hcz29_3 : w28.cell? ⟨gb242, 3, none⟩ = some (.int .i64 ((rd_T42 (rd_L5 l0 x4_1) x5_2).f3)) := (blk_cell BK242.out 3).trans rfl; have hfz29_0 := blk_frozen BK242.out 0; have hfz29_1 := blk_frozen BK242.out 1; have hfz29_2 := blk_frozen BK242.out 2; have hfz29_3 := blk_frozen BK242.out 3) | ((with_reducible refine gate_builtin (b := .append) (xs := #[.tmp 75, .tmp 77]) rfl ?_); at_builtin; refine Kd.R_append k42 (w0 := w) w.heap.size rfl (.tmp 75) (.tmp 77) 28 42 (.agg #[(.int .i64 0), (.int .i64 0), (.int .i64 0), (.int .i64 0)]) 32 rfl Tryd.underlying28 info42 rfl (by decide) (by omega) v251 y250 (⟨((rd_T42 (rd_L5 l0 x4_1) x5_2).f0), ((rd_T42 (rd_L5 l0 x4_1) x5_2).f1), ((rd_T42 (rd_L5 l0 x4_1) x5_2).f2), ((rd_T42 (rd_L5 l0 x4_1) x5_2).f3)⟩ : S42) [.int .i64 ((rd_T42 (rd_L5 l0 x4_1) x5_2).f0), .int .i64 ((rd_T42 (rd_L5 l0 x4_1) x5_2).f1), .int .i64 ((rd_T42 (rd_L5 l0 x4_1) x5_2).f2), .int .i64 ((rd_T42 (rd_L5 l0 x4_1) x5_2).f3)] (fun k_ => some k_ ≠ (.slice (some ad243) x3_2.length co9 : Value).ownBlock ∧ k_ ≠ gb242) (fun _ => False) rfl rfl ?aP (fun _ hk => hk.elim) ?aF ?aO ?aB ?aS ?aL ?_; (case aP => exact k42_mkM _ _ _ (⟨((rd_T42 (rd_L5 l0 x4_1) x5_2).f0), ((rd_T42 (rd_L5 l0 x4_1) x5_2).f1), ((rd_T42 (rd_L5 l0 x4_1) x5_2).f2), ((rd_T42 (rd_L5 l0 x4_1) x5_2).f3)⟩ : S42)); (case aB => exact (by repeat (first | (with_reducible first | exact HB.out | apply below_alloc | apply pw_below_drewN | apply below_drew1 | refine below_set ?_ GE242.out) | exact HB.out))); (case aF => exact (fun k_ hk => ⟨Kd.fresh' (Kd.R_lt (by (with_reducible repeat (first | apply Kd.R_alloc | apply Kd.R_drewN | apply Kd.R_drew)); exact HO_3.out)) k_ hk, Kd.freshB (g := gb242) (o := .cells #[.int .i64 ((rd_T42 (rd_L5 l0 x4_1) x5_2).f0), .int .i64 ((rd_T42 (rd_L5 l0 x4_1) x5_2).f1), .int .i64 ((rd_T42 (rd_L5 l0 x4_1) x5_2).f2), .int .i64 ((rd_T42 (rd_L5 l0 x4_1) x5_2).f3)] 42 (0, 0)) (by (with_reducible repeat (first | refine blk_drewN ?_ _ | refine blk_drew ?_ | refine blk_alloc ?_ _)); exact BK242.out) k_ hk⟩)); (case aO => exact (by (with_reducible repeat (first | apply Kd.R_alloc | apply Kd.R_drewN | apply Kd.R_drew)); exact HO252.out)); (case aS => exact (below_size (by repeat (first | (with_reducible first | exact HB.out | apply below_alloc | apply pw_below_drewN | apply below_drew1 | refine below_set ?_ GE242.out) | exact HB.out)))); (case aL => have := LMc22.out; omega); intro v254 w30 ho hb hg hat; rw [← Ny253.out] at ho; have n0_ := Aside0.mk (Kd.R_after (ok := (fun k_ => k_ ≠ gb242)) (by (with_reducible repeat (first | apply Kd.R_alloc | apply Kd.R_drewN | apply Kd.R_drew)); exact HO_3.out) hg hat); have n1_ := Aside0.mk (blk_grown (g := gb242) (o := .cells #[.int .i64 ((rd_T42 (rd_L5 l0 x4_1) x5_2).f0), .int .i64 ((rd_T42 (rd_L5 l0 x4_1) x5_2).f1), .int .i64 ((rd_T42 (rd_L5 l0 x4_1) x5_2).f2), .int .i64 ((rd_T42 (rd_L5 l0 x4_1) x5_2).f3)] 42 (0, 0)) (by (with_reducible repeat (first | refine blk_drewN ?_ _ | refine blk_drew ?_ | refine blk_alloc ?_ _)); exact BK242.out) hg (Kd.R_away HO252.out (fun _ hk => hk.2))); have n2_ := Aside0.mk (hb); have n3_ := Aside0.mk ((show Kd.C k42 w30 (some ad243) y246.length y246 from by rw [Ny246.out]; exact Kd.C_take (m := (x7_3 : Int).toNat) ((Kd.R_reads' (Kd.R_after (ok := (fun k_ => k_ ≠ gb242)) (by (with_reducible repeat (first | apply Kd.R_alloc | apply Kd.R_drewN | apply Kd.R_drew)); exact HO_3.out) hg hat)).2.2) KL27.out)); have n4_ := Aside0.mk (ho); clear HO_3; clear BK242; clear HB; clear HR249; clear HO252; have HO_3 := n0_; have BK242 := n1_; have HB := n2_; have HR249 := n3_; have HO255 := n4_; clear n0_ n1_ n2_ n3_ n4_; clear ho hb hg hat; have q31 : (x7_3 : Int) ≤ ((x3_2.length : Int) : Int) := of_decide_eq_true (by first | (with_reducible assumption) | assumption); obtain ⟨i031, hi031, _, hsz31, _⟩ := info_parts info42; have hroom31 : x3_2.length ≤ co9 := (Kd.R_reads' HO_3.out).2.1; have hC31 : Kd.C k42 _ (some ad243) x3_2.length x3_2 := (Kd.R_reads' HO_3.out).2.2; have q031 : (0 : Int) ≤ (x7_3 : Int) := of_decide_eq_true (by first | (with_reducible assumption) | assumption); have hcut31 := cut_from (P := Tryd.prog) 28 42 .i64 Tryd.underlying28 hi031 4 hsz31 (some ad243) x3_2.length co9 x7_3 q031 q31; have hr31 := Kd.C_drop (m := (x7_3 : Int).toNat) (c := co9) hC31 (by omega) hroom31; obtain ⟨A31, hA31⟩ : ∃ A1, A1 = (if co9 = (x7_3 : Int).toNat then (some ad243) else ((some ad243) : Option Addr).map (·.add ((x7_3 : Int).toNat * 4))) := ⟨_, rfl⟩; obtain ⟨c31, hc31⟩ : ∃ c1, c1 = co9 - (x7_3 : Int).toNat := ⟨_, rfl⟩; have hy31 : y256.length = x3_2.length - (x7_3 : Int).toNat := (by rw [Ny256.out, List.length_drop] <;> omega); rw [show (x3_2).drop (x7_3 : Int).toNat = y256 from Ny256.out.symm] at hr31; replace hr31 : Kd.C k42 _ A31 y256.length y256 := (by rw [hA31]; exact hr31); rw [← hy31, ← hA31, ← hc31] at hcut31; have HR259 := Aside0.mk hr31; have HC259 := Aside0.mk (show y256.length ≤ c31 from by rw [hy31, hc31]; exact Nat.sub_le_sub_right hroom31 _); clear hr31 hC31 hroom31 hi031 hsz31 hc31; have KY31 := Aside0.mk hy31; have KA31 := Aside0.mk hA31; clear hy31 hA31; have KL31 := Aside0.mk (show (x7_3 : Int).toNat ≤ x3_2.length from by omega); replace q31 := eq_true q31) | ((with_reducible refine gate_builtin (b := .append) (xs := #[.tmp 79, .tmp 82]) rfl ?_); at_builtin; refine Kd.R_append_rows k42 (w0 := w) w.heap.size rfl (.tmp 79) (.tmp 82) 28 42 (.agg #[(.int .i64 0), (.int .i64 0), (.int .i64 0), (.int .i64 0)]) 32 rfl Tryd.underlying28 info42 rfl (by decide) (by omega) v254 y253 y256 _ _ _ (fun k_ => some k_ ≠ (.slice (some ad243) x3_2.length co9 : Value).ownBlock ∧ k_ ≠ gb242) (fun _ => False) rfl rfl ?aO ?aR (fun _ _ h => h) (fun _ h => h.elim) ?aF ?aB ?aS ?aL ?_; (case aR => repeat (first | exact (by repeat (first | (with_reducible exact HR259.out) | (with_reducible refine Kd.C_alloc ?_ _) | (with_reducible refine Kd.C_drewN ?_ _) | (with_reducible refine Kd.C_drew ?_) | exact HR259.out)) | (with_reducible refine Kd.C_alloc ?_ _) | (with_reducible refine Kd.C_drewN ?_ _) | (with_reducible refine Kd.C_drew ?_))); (case aB => exact (by repeat (first | (with_reducible first | exact HB.out | apply below_alloc | apply pw_below_drewN | apply below_drew1 | refine below_set ?_ GE242.out) | exact HB.out))); (case aF => exact (fun k_ hk => ⟨Kd.fresh' (Kd.R_lt (by (with_reducible repeat (first | apply Kd.R_alloc | apply Kd.R_drewN | apply Kd.R_drew)); exact HO_3.out)) k_ hk, Kd.freshB (g := gb242) (o := .cells #[.int .i64 ((rd_T42 (rd_L5 l0 x4_1) x5_2).f0), .int .i64 ((rd_T42 (rd_L5 l0 x4_1) x5_2).f1), .int .i64 ((rd_T42 (rd_L5 l0 x4_1) x5_2).f2), .int .i64 ((rd_T42 (rd_L5 l0 x4_1) x5_2).f3)] 42 (0, 0)) (by (with_reducible repeat (first | refine blk_drewN ?_ _ | refine blk_drew ?_ | refine blk_alloc ?_ _)); exact BK242.out) k_ hk⟩)); (case aO => exact (by (with_reducible repeat (first | apply Kd.R_alloc | apply Kd.R_drewN | apply Kd.R_drew)); exact HO255.out)); (case aS => exact (below_size (by repeat (first | (with_reducible first | exact HB.out | apply below_alloc | apply pw_below_drewN | apply below_drew1 | refine below_set ?_ GE242.out) | exact HB.out)))); (case aL => have := LMc25.out; omega); intro v261 w32 ho hb hg hat; rw [← Ny260.out] at ho; have n0_ := Aside0.mk (Kd.R_after (ok := (fun k_ => k_ ≠ gb242)) (by (with_reducible repeat (first | apply Kd.R_alloc | apply Kd.R_drewN | apply Kd.R_drew)); exact HO_3.out) hg hat); have n1_ := Aside0.mk (blk_grown (g := gb242) (o := .cells #[.int .i64 ((rd_T42 (rd_L5 l0 x4_1) x5_2).f0), .int .i64 ((rd_T42 (rd_L5 l0 x4_1) x5_2).f1), .int .i64 ((rd_T42 (rd_L5 l0 x4_1) x5_2).f2), .int .i64 ((rd_T42 (rd_L5 l0 x4_1) x5_2).f3)] 42 (0, 0)) (by (with_reducible repeat (first | refine blk_drewN ?_ _ | refine blk_drew ?_ | refine blk_alloc ?_ _)); exact BK242.out) hg (Kd.R_away HO255.out (fun _ hk => hk.2))); have n2_ := Aside0.mk (hb); have n3_ := Aside0.mk ((show Kd.C k42 w32 (some ad243) y246.length y246 from by rw [Ny246.out]; exact Kd.C_take (m := (x7_3 : Int).toNat) ((Kd.R_reads' (Kd.R_after (ok := (fun k_ => k_ ≠ gb242)) (by (with_reducible repeat (first | apply Kd.R_alloc | apply Kd.R_drewN | apply Kd.R_drew)); exact HO_3.out) hg hat)).2.2) KL27.out)); have n4_ := Aside0.mk ((show Kd.C k42 w32 A31 y256.length y256 from by rw [Ny256.out, KA31.out]; exact Kd.C_drop (m := (x7_3 : Int).toNat) (c := co9) ((Kd.R_reads' (Kd.R_after (ok := (fun k_ => k_ ≠ gb242)) (by (with_reducible repeat (first | apply Kd.R_alloc | apply Kd.R_drewN | apply Kd.R_drew)); exact HO_3.out) hg hat)).2.2) KL31.out ((Kd.R_reads' (Kd.R_after (ok := (fun k_ => k_ ≠ gb242)) (by (with_reducible repeat (first | apply Kd.R_alloc | apply Kd.R_drewN | apply Kd.R_drew)); exact HO_3.out) hg hat)).2.1))); have n5_ := Aside0.mk (ho); clear HO_3; clear BK242; clear HB; clear HR249; clear HR259; clear HO255; have HO_3 := n0_; have BK242 := n1_; have HB := n2_; have HR249 := n3_; have HR259 := n4_; have HO262 := n5_; clear n0_ n1_ n2_ n3_ n4_ n5_; clear ho hb hg hat)))
                        go_roundg k3
                        case measure => have := HK1.out; have := HK2.out; have := HK3.out; omega
                        case rel => exact ⟨(y260), (wrap64 (x5_2 + 1)), (by first | rfl | (simp; done) | (simp [*]; done)), H', ⟨by have := HK1.out; have := HK2.out; have := HK3.out; omega⟩, ⟨by (with_reducible repeat (first | apply Kd.R_alloc | apply Kd.R_drewN | apply Kd.R_drew)); exact Kd.R_mono HO262.out (fun _ hk => trivial)⟩, ⟨by repeat (first | (with_reducible first | exact HB.out | apply below_alloc | apply pw_below_drewN | apply below_drew1 | refine below_set ?_ GE242.out) | exact HB.out)⟩⟩
                       ·rw [if_neg c25] at H
                        exact absurd H (by simp)
                      ·rw [if_neg c22] at H
                       exact absurd H (by simp)
                     ·rw [if_neg c21] at H
                      exact absurd H (by simp)
                    ·rw [if_neg c20] at H
                     exact absurd H (by simp)
                   ·rw [if_neg c19] at H
                    exact absurd H (by simp)
                 ·rw [if_neg c16] at H
                  have c16b0 : (((rd_T42 x3_2 (ji11)).f0) == ((rd_T42 (rd_L5 l0 x4_1) x5_2).f0)) = false := beq_eq_false_iff_ne.mpr c16
                  have c16b1 : (((rd_T42 x3_2 (ji11)).f0) != ((rd_T42 (rd_L5 l0 x4_1) x5_2).f0)) = true := bne_iff_ne.mpr c16
                  by_cases c33 : 0 ≤ x7_3
                  ·rw [if_pos c33] at H
                   have c33b0 := eq_true c33
                   have c33b1 : decide (0 ≤ x7_3) = true := decide_eq_true c33
                   clear c33
                   by_cases c34 : x7_3 ≤ (x3_2.length : Int)
                   ·rw [if_pos c34] at H
                    have c34b0 := eq_true c34
                    have c34b1 : decide (x7_3 ≤ (x3_2.length : Int)) = true := decide_eq_true c34
                    clear c34
                    obtain ⟨y263, hy263⟩ : ∃ y_ : List (S42), y_ = (x3_2.take (x7_3 : Int).toNat) := ⟨_, rfl⟩
                    replace H : (if ([] : List (S42)).length + y263.length < 4398046511104 then ((some (([] : List (S42)) ++ y263 : List (S42))).bind fun y267 => (if y267.length < 4398046511104 then ((some (y267 ++ [(⟨((rd_T42 (rd_L5 l0 x4_1) x5_2).f0), ((rd_T42 (rd_L5 l0 x4_1) x5_2).f1), ((rd_T42 (rd_L5 l0 x4_1) x5_2).f2), ((rd_T42 (rd_L5 l0 x4_1) x5_2).f3)⟩ : S42)] : List (S42))).bind fun y270 => ((some (x3_2.drop (x7_3 : Int).toNat : List (S42))).bind fun y273 => (if y270.length + y273.length < 4398046511104 then (storagebarterref28_Merge.l1 k3 l0 (y270 ++ y273) x4_1 (wrap64 (x5_2 + 1))) else (none)))) else (none))) else (none)) = some r := by first | (rw [hy263]; with_reducible exact H) | (have H2_ := (Option.bind_some _ _).symm.trans H; rw [hy263]; with_reducible exact H2_) | (have H2_ := (Option.bind_some _ _).symm.trans H; with_reducible exact H2_) | with_reducible exact H | (rw [hy263]; exact H) | exact H
                    have Ny263 := Aside0.mk hy263
                    clear hy263
                    by_cases c35 : ([] : List (S42)).length + y263.length < 4398046511104
                    ·rw [if_pos c35] at H
                     have LMc35 := Aside0.mk c35
                     clear c35
                     obtain ⟨y267, hy267⟩ : ∃ y_ : List (S42), y_ = (([] : List (S42)) ++ y263) := ⟨_, rfl⟩
                     replace H : (if y267.length < 4398046511104 then ((some (y267 ++ [(⟨((rd_T42 (rd_L5 l0 x4_1) x5_2).f0), ((rd_T42 (rd_L5 l0 x4_1) x5_2).f1), ((rd_T42 (rd_L5 l0 x4_1) x5_2).f2), ((rd_T42 (rd_L5 l0 x4_1) x5_2).f3)⟩ : S42)] : List (S42))).bind fun y270 => ((some (x3_2.drop (x7_3 : Int).toNat : List (S42))).bind fun y273 => (if y270.length + y273.length < 4398046511104 then (storagebarterref28_Merge.l1 k3 l0 (y270 ++ y273) x4_1 (wrap64 (x5_2 + 1))) else (none)))) else (none)) = some r := by first | (rw [hy267]; with_reducible exact H) | (have H2_ := (Option.bind_some _ _).symm.trans H; rw [hy267]; with_reducible exact H2_) | (have H2_ := (Option.bind_some _ _).symm.trans H; with_reducible exact H2_) | with_reducible exact H | (rw [hy267]; exact H) | exact H
                     have Ny267 := Aside0.mk hy267
                     clear hy267
                     by_cases c36 : y267.length < 4398046511104
                     ·rw [if_pos c36] at H
                      have LMc36 := Aside0.mk c36
                      clear c36
                      obtain ⟨y270, hy270⟩ : ∃ y_ : List (S42), y_ = (y267 ++ [(⟨((rd_T42 (rd_L5 l0 x4_1) x5_2).f0), ((rd_T42 (rd_L5 l0 x4_1) x5_2).f1), ((rd_T42 (rd_L5 l0 x4_1) x5_2).f2), ((rd_T42 (rd_L5 l0 x4_1) x5_2).f3)⟩ : S42)]) := ⟨_, rfl⟩
                      replace H : ((some (x3_2.drop (x7_3 : Int).toNat : List (S42))).bind fun y273 => (if y270.length + y273.length < 4398046511104 then (storagebarterref28_Merge.l1 k3 l0 (y270 ++ y273) x4_1 (wrap64 (x5_2 + 1))) else (none))) = some r := by first | (rw [hy270]; with_reducible exact H) | (have H2_ := (Option.bind_some _ _).symm.trans H; rw [hy270]; with_reducible exact H2_) | (have H2_ := (Option.bind_some _ _).symm.trans H; with_reducible exact H2_) | with_reducible exact H | (rw [hy270]; exact H) | exact H
                      have Ny270 := Aside0.mk hy270
                      clear hy270
                      have c37b0 := eq_true (of_decide_eq_true (by first | (with_reducible assumption) | assumption) : 0 ≤ x7_3)
                      have c38b0 := eq_true (of_decide_eq_true (by first | (with_reducible assumption) | assumption) : x7_3 ≤ (x3_2.length : Int))
                      obtain ⟨y273, hy273⟩ : ∃ y_ : List (S42), y_ = (x3_2.drop (x7_3 : Int).toNat) := ⟨_, rfl⟩
                      replace H : (if y270.length + y273.length < 4398046511104 then (storagebarterref28_Merge.l1 k3 l0 (y270 ++ y273) x4_1 (wrap64 (x5_2 + 1))) else (none)) = some r := by first | (rw [hy273]; with_reducible exact H) | (have H2_ := (Option.bind_some _ _).symm.trans H; rw [hy273]; with_reducible exact H2_) | (have H2_ := (Option.bind_some _ _).symm.trans H; with_reducible exact H2_) | with_reducible exact H | (rw [hy273]; exact H) | exact H
                      have Ny273 := Aside0.mk hy273
                      clear hy273
                      by_cases c39 : y270.length + y273.length < 4398046511104
                      ·rw [if_pos c39] at H
                       have LMc39 := Aside0.mk c39
                       clear c39
                       obtain ⟨y277, hy277⟩ : ∃ y_ : List (S42), y_ = (y270 ++ y273) := ⟨_, rfl⟩
                       replace H : (storagebarterref28_Merge.l1 k3 l0 y277 x4_1 (wrap64 (x5_2 + 1))) = some r := by first | (rw [hy277]; with_reducible exact H) | (have H2_ := (Option.bind_some _ _).symm.trans H; rw [hy277]; with_reducible exact H2_) | (have H2_ := (Option.bind_some _ _).symm.trans H; with_reducible exact H2_) | with_reducible exact H | (rw [hy277]; exact H) | exact H
                       have Ny277 := Aside0.mk hy277
                       clear hy277
                       have H' := Aside0.mk H
                       clear H
                       have p243 : 0 ≤ ((ji11) : Int) := of_decide_eq_true (by first | (with_reducible assumption) | assumption)
                       have q243 : (ji11) < (x3_2.length : Int) := of_decide_eq_true (by first | (with_reducible assumption) | assumption)
                       obtain ⟨ad243, e243, hx243_0, hx243_1, hx243_2, hx243_3⟩ := at_T42 (Kd.R_reads' HO_3.out).2.2 (ji11) p243 q243
                       cases e243
                       replace p243 := eq_true p243
                       replace q243 := eq_true q243
                       have hcz40_0 : wr.cell? ⟨gb242, 0, none⟩ = some (.int .i64 ((rd_T42 (rd_L5 l0 x4_1) x5_2).f0)) := (blk_cell BK242.out 0).trans rfl
                       have hcz40_1 : wr.cell? ⟨gb242, 1, none⟩ = some (.int .i64 ((rd_T42 (rd_L5 l0 x4_1) x5_2).f1)) := (blk_cell BK242.out 1).trans rfl
                       have hcz40_2 : wr.cell? ⟨gb242, 2, none⟩ = some (.int .i64 ((rd_T42 (rd_L5 l0 x4_1) x5_2).f2)) := (blk_cell BK242.out 2).trans rfl
                       have hcz40_3 : wr.cell? ⟨gb242, 3, none⟩ = some (.int .i64 ((rd_T42 (rd_L5 l0 x4_1) x5_2).f3)) := (blk_cell BK242.out 3).trans rfl
                       have hfz40_0 := blk_frozen BK242.out 0
                       have hfz40_1 := blk_frozen BK242.out 1
                       have hfz40_2 := blk_frozen BK242.out 2
                       have hfz40_3 := blk_frozen BK242.out 3
                       have p244 : 0 ≤ ((ji11) : Int) := of_decide_eq_true (by first | (with_reducible assumption) | assumption)
                       have q244 : (ji11) < (x3_2.length : Int) := of_decide_eq_true (by first | (with_reducible assumption) | assumption)
                       obtain ⟨ad244, e244, hx244_0, hx244_1, hx244_2, hx244_3⟩ := at_T42 (Kd.R_reads' HO_3.out).2.2 (ji11) p244 q244
                       obtain rfl : ad243 = ad244 := (by injection e244)
                       replace p244 := eq_true p244
                       replace q244 := eq_true q244
                       have q41 : (x7_3 : Int) ≤ ((x3_2.length : Int) : Int) := of_decide_eq_true (by first | (with_reducible assumption) | assumption)
                       obtain ⟨i041, hi041, _, hsz41, _⟩ := info_parts info42
                       have hroom41 : x3_2.length ≤ co9 := (Kd.R_reads' HO_3.out).2.1
                       have hC41 : Kd.C k42 _ (some ad243) x3_2.length x3_2 := (Kd.R_reads' HO_3.out).2.2
                       have hcut41 := cut_to (P := Tryd.prog) 28 42 .i64 Tryd.underlying28 hi041 (some ad243) x3_2.length co9 x7_3 (of_decide_eq_true (by first | (with_reducible assumption) | assumption)) q41 hroom41
                       have hr41 := Kd.C_take (m := (x7_3 : Int).toNat) hC41 (by omega)
                       have hy41 : y263.length = (x7_3 : Int).toNat := (by rw [Ny263.out, List.length_take]; omega)
                       rw [← Ny263.out] at hr41
                       rw [← hy41] at hcut41
                       have HR266 := Aside0.mk hr41
                       have HC266 := Aside0.mk (show y263.length ≤ co9 from by omega)
                       clear hr41 hC41 hroom41 hi041 hsz41
                       have KY41 := Aside0.mk hy41
                       clear hy41
                       have KL41 := Aside0.mk (show (x7_3 : Int).toNat ≤ x3_2.length from by omega)
                       replace q41 := eq_true q41
                       go_wp2_with (first | ((with_reducible refine gate_builtin (b := .append) (xs := #[.tmp 70, .tmp 73]) rfl ?_); at_builtin; refine Kd.R_append_rows k42 (w0 := w) w.heap.size rfl (.tmp 70) (.tmp 73) 28 42 (.agg #[(.int .i64 0), (.int .i64 0), (.int .i64 0), (.int .i64 0)]) 32 rfl Tryd.underlying28 info42 rfl (by decide) (by omega) (.slice none 0 0) ([] : List (S42)) y263 _ _ _ (fun k_ => some k_ ≠ (.slice (some ad243) x3_2.length co9 : Value).ownBlock ∧ k_ ≠ gb242) (fun _ => False) rfl rfl ?aO ?aR (fun _ _ h => h) (fun _ h => h.elim) ?aF ?aB ?aS ?aL ?_; (case aR => repeat (first | exact (by repeat (first | (with_reducible exact HR266.out) | (with_reducible refine Kd.C_alloc ?_ _) | (with_reducible refine Kd.C_drewN ?_ _) | (with_reducible refine Kd.C_drew ?_) | exact HR266.out)) | (with_reducible refine Kd.C_alloc ?_ _) | (with_reducible refine Kd.C_drewN ?_ _) | (with_reducible refine Kd.C_drew ?_))); (case aB => exact (by repeat (first | (with_reducible first | exact HB.out | apply below_alloc | apply pw_below_drewN | apply below_drew1 | refine below_set ?_ GE242.out) | exact HB.out))); (case aF => exact (fun k_ hk => ⟨Kd.fresh' (Kd.R_lt (by (with_reducible repeat (first | apply Kd.R_alloc | apply Kd.R_drewN | apply Kd.R_drew)); exact HO_3.out)) k_ hk, Kd.freshB (g := gb242) (o := .cells #[.int .i64 ((rd_T42 (rd_L5 l0 x4_1) x5_2).f0), .int .i64 ((rd_T42 (rd_L5 l0 x4_1) x5_2).f1), .int .i64 ((rd_T42 (rd_L5 l0 x4_1) x5_2).f2), .int .i64 ((rd_T42 (rd_L5 l0 x4_1) x5_2).f3)] 42 (0, 0)) (by (with_reducible repeat (first | refine blk_drewN ?_ _ | refine blk_drew ?_ | refine blk_alloc ?_ _)); exact BK242.out) k_ hk⟩)); (case aO => exact ((Kd.R_nil _ _ _ _ (fun k_ => some k_ ≠ (.slice (some ad243) x3_2.length co9 : Value).ownBlock ∧ k_ ≠ gb242)))); (case aS => exact (below_size (by repeat (first | (with_reducible first | exact HB.out | apply below_alloc | apply pw_below_drewN | apply below_drew1 | refine below_set ?_ GE242.out) | exact HB.out)))); (case aL => have := LMc35.out; omega); intro v268 w42 ho hb hg hat; rw [← Ny267.out] at ho; have n0_ := Aside0.mk (Kd.R_after (Kd.R_apart_nil (by (with_reducible repeat (first | apply Kd.R_alloc | apply Kd.R_drewN | apply Kd.R_drew)); exact HO_3.out)) hg hat); have n1_ := Aside0.mk (blk_grown (g := gb242) (o := .cells #[.int .i64 ((rd_T42 (rd_L5 l0 x4_1) x5_2).f0), .int .i64 ((rd_T42 (rd_L5 l0 x4_1) x5_2).f1), .int .i64 ((rd_T42 (rd_L5 l0 x4_1) x5_2).f2), .int .i64 ((rd_T42 (rd_L5 l0 x4_1) x5_2).f3)] 42 (0, 0)) (by (with_reducible repeat (first | refine blk_drewN ?_ _ | refine blk_drew ?_ | refine blk_alloc ?_ _)); exact BK242.out) hg (by simp [Value.ownBlock])); have n2_ := Aside0.mk (hb); have n3_ := Aside0.mk ((show Kd.C k42 w42 (some ad243) y263.length y263 from by rw [Ny263.out]; exact Kd.C_take (m := (x7_3 : Int).toNat) ((Kd.R_reads' (Kd.R_after (Kd.R_apart_nil (by (with_reducible repeat (first | apply Kd.R_alloc | apply Kd.R_drewN | apply Kd.R_drew)); exact HO_3.out)) hg hat)).2.2) KL41.out)); have n4_ := Aside0.mk (ho); clear HO_3; clear BK242; clear HB; clear HR266; have HO_3 := n0_; have BK242 := n1_; have HB := n2_; have HR266 := n3_; have HO269 := n4_; clear n0_ n1_ n2_ n3_ n4_; clear ho hb hg hat; have hcz43_0 : w42.cell? ⟨gb242, 0, none⟩ = some (.int .i64 ((rd_T42 (rd_L5 l0 x4_1) x5_2).f0)) := (blk_cell BK242.out 0).trans rfl; have hcz43_1 : w42.cell? ⟨gb242, 1, none⟩ = some (.int .i64 ((rd_T42 (rd_L5 l0 x4_1) x5_2).f1)) := (blk_cell BK242.out 1).trans rfl; have hcz43_2 : w42.cell? ⟨gb242, 2, none⟩ = some (.int .i64 ((rd_T42 (rd_L5 l0 x4_1) x5_2).f2)) := (blk_cell BK242.out 2).trans rfl; have hcz43_3 : w42.cell? ⟨gb242, 3, none⟩ = some (.int .i64 ((rd_T42 (rd_L5 l0 x4_1) x5_2).f3)) := (blk_cell BK242.out 3).trans rfl; have hfz43_0 := blk_frozen BK242.out 0; have hfz43_1 := blk_frozen BK242.out 1; have hfz43_2 := blk_frozen BK242.out 2; have hfz43_3 := blk_frozen BK242.out 3) | ((with_reducible refine gate_builtin (b := .append) (xs := #[.tmp 75, .tmp 77]) rfl ?_); at_builtin; refine Kd.R_append k42 (w0 := w) w.heap.size rfl (.tmp 75) (.tmp 77) 28 42 (.agg #[(.int .i64 0), (.int .i64 0), (.int .i64 0), (.int .i64 0)]) 32 rfl Tryd.underlying28 info42 rfl (by decide) (by omega) v268 y267 (⟨((rd_T42 (rd_L5 l0 x4_1) x5_2).f0), ((rd_T42 (rd_L5 l0 x4_1) x5_2).f1), ((rd_T42 (rd_L5 l0 x4_1) x5_2).f2), ((rd_T42 (rd_L5 l0 x4_1) x5_2).f3)⟩ : S42) [.int .i64 ((rd_T42 (rd_L5 l0 x4_1) x5_2).f0), .int .i64 ((rd_T42 (rd_L5 l0 x4_1) x5_2).f1), .int .i64 ((rd_T42 (rd_L5 l0 x4_1) x5_2).f2), .int .i64 ((rd_T42 (rd_L5 l0 x4_1) x5_2).f3)] (fun k_ => some k_ ≠ (.slice (some ad243) x3_2.length co9 : Value).ownBlock ∧ k_ ≠ gb242) (fun _ => False) rfl rfl ?aP (fun _ hk => hk.elim) ?aF ?aO ?aB ?aS ?aL ?_; (case aP => exact k42_mkM _ _ _ (⟨((rd_T42 (rd_L5 l0 x4_1) x5_2).f0), ((rd_T42 (rd_L5 l0 x4_1) x5_2).f1), ((rd_T42 (rd_L5 l0 x4_1) x5_2).f2), ((rd_T42 (rd_L5 l0 x4_1) x5_2).f3)⟩ : S42)); (case aB => exact (by repeat (first | (with_reducible first | exact HB.out | apply below_alloc | apply pw_below_drewN | apply below_drew1 | refine below_set ?_ GE242.out) | exact HB.out))); (case aF => exact (fun k_ hk => ⟨Kd.fresh' (Kd.R_lt (by (with_reducible repeat (first | apply Kd.R_alloc | apply Kd.R_drewN | apply Kd.R_drew)); exact HO_3.out)) k_ hk, Kd.freshB (g := gb242) (o := .cells #[.int .i64 ((rd_T42 (rd_L5 l0 x4_1) x5_2).f0), .int .i64 ((rd_T42 (rd_L5 l0 x4_1) x5_2).f1), .int .i64 ((rd_T42 (rd_L5 l0 x4_1) x5_2).f2), .int .i64 ((rd_T42 (rd_L5 l0 x4_1) x5_2).f3)] 42 (0, 0)) (by (with_reducible repeat (first | refine blk_drewN ?_ _ | refine blk_drew ?_ | refine blk_alloc ?_ _)); exact BK242.out) k_ hk⟩)); (case aO => exact (by (with_reducible repeat (first | apply Kd.R_alloc | apply Kd.R_drewN | apply Kd.R_drew)); exact HO269.out)); (case aS => exact (below_size (by repeat (first | (with_reducible first | exact HB.out | apply below_alloc | apply pw_below_drewN | apply below_drew1 | refine below_set ?_ GE242.out) | exact HB.out)))); (case aL => have := LMc36.out; omega); intro v271 w44 ho hb hg hat; rw [← Ny270.out] at ho; have n0_ := Aside0.mk (Kd.R_after (ok := (fun k_ => k_ ≠ gb242)) (by (with_reducible repeat (first | apply Kd.R_alloc | apply Kd.R_drewN | apply Kd.R_drew)); exact HO_3.out) hg hat); have n1_ := Aside0.mk (blk_grown (g := gb242) (o := .cells #[.int .i64 ((rd_T42 (rd_L5 l0 x4_1) x5_2).f0), .int .i64 ((rd_T42 (rd_L5 l0 x4_1) x5_2).f1), .int .i64 ((rd_T42 (rd_L5 l0 x4_1) x5_2).f2), .int .i64 ((rd_T42 (rd_L5 l0 x4_1) x5_2).f3)] 42 (0, 0)) (by (with_reducible repeat (first | refine blk_drewN ?_ _ | refine blk_drew ?_ | refine blk_alloc ?_ _)); exact BK242.out) hg (Kd.R_away HO269.out (fun _ hk => hk.2))); have n2_ := Aside0.mk (hb); have n3_ := Aside0.mk ((show Kd.C k42 w44 (some ad243) y263.length y263 from by rw [Ny263.out]; exact Kd.C_take (m := (x7_3 : Int).toNat) ((Kd.R_reads' (Kd.R_after (ok := (fun k_ => k_ ≠ gb242)) (by (with_reducible repeat (first | apply Kd.R_alloc | apply Kd.R_drewN | apply Kd.R_drew)); exact HO_3.out) hg hat)).2.2) KL41.out)); have n4_ := Aside0.mk (ho); clear HO_3; clear BK242; clear HB; clear HR266; clear HO269; have HO_3 := n0_; have BK242 := n1_; have HB := n2_; have HR266 := n3_; have HO272 := n4_; clear n0_ n1_ n2_ n3_ n4_; clear ho hb hg hat; have q45 : (x7_3 : Int) ≤ ((x3_2.length : Int) : Int) := of_decide_eq_true (by first | (with_reducible assumption) | assumption); obtain ⟨i045, hi045, _, hsz45, _⟩ := info_parts info42; have hroom45 : x3_2.length ≤ co9 := (Kd.R_reads' HO_3.out).2.1; have hC45 : Kd.C k42 _ (some ad243) x3_2.length x3_2 := (Kd.R_reads' HO_3.out).2.2; have q045 : (0 : Int) ≤ (x7_3 : Int) := of_decide_eq_true (by first | (with_reducible assumption) | assumption); have hcut45 := cut_from (P := Tryd.prog) 28 42 .i64 Tryd.underlying28 hi045 4 hsz45 (some ad243) x3_2.length co9 x7_3 q045 q45; have hr45 := Kd.C_drop (m := (x7_3 : Int).toNat) (c := co9) hC45 (by omega) hroom45; obtain ⟨A45, hA45⟩ : ∃ A1, A1 = (if co9 = (x7_3 : Int).toNat then (some ad243) else ((some ad243) : Option Addr).map (·.add ((x7_3 : Int).toNat * 4))) := ⟨_, rfl⟩; obtain ⟨c45, hc45⟩ : ∃ c1, c1 = co9 - (x7_3 : Int).toNat := ⟨_, rfl⟩; have hy45 : y273.length = x3_2.length - (x7_3 : Int).toNat := (by rw [Ny273.out, List.length_drop] <;> omega); rw [show (x3_2).drop (x7_3 : Int).toNat = y273 from Ny273.out.symm] at hr45; replace hr45 : Kd.C k42 _ A45 y273.length y273 := (by rw [hA45]; exact hr45); rw [← hy45, ← hA45, ← hc45] at hcut45; have HR276 := Aside0.mk hr45; have HC276 := Aside0.mk (show y273.length ≤ c45 from by rw [hy45, hc45]; exact Nat.sub_le_sub_right hroom45 _); clear hr45 hC45 hroom45 hi045 hsz45 hc45; have KY45 := Aside0.mk hy45; have KA45 := Aside0.mk hA45; clear hy45 hA45; have KL45 := Aside0.mk (show (x7_3 : Int).toNat ≤ x3_2.length from by omega); replace q45 := eq_true q45) | ((with_reducible refine gate_builtin (b := .append) (xs := #[.tmp 79, .tmp 82]) rfl ?_); at_builtin; refine Kd.R_append_rows k42 (w0 := w) w.heap.size rfl (.tmp 79) (.tmp 82) 28 42 (.agg #[(.int .i64 0), (.int .i64 0), (.int .i64 0), (.int .i64 0)]) 32 rfl Tryd.underlying28 info42 rfl (by decide) (by omega) v271 y270 y273 _ _ _ (fun k_ => some k_ ≠ (.slice (some ad243) x3_2.length co9 : Value).ownBlock ∧ k_ ≠ gb242) (fun _ => False) rfl rfl ?aO ?aR (fun _ _ h => h) (fun _ h => h.elim) ?aF ?aB ?aS ?aL ?_; (case aR => repeat (first | exact (by repeat (first | (with_reducible exact HR276.out) | (with_reducible refine Kd.C_alloc ?_ _) | (with_reducible refine Kd.C_drewN ?_ _) | (with_reducible refine Kd.C_drew ?_) | exact HR276.out)) | (with_reducible refine Kd.C_alloc ?_ _) | (with_reducible refine Kd.C_drewN ?_ _) | (with_reducible refine Kd.C_drew ?_))); (case aB => exact (by repeat (first | (with_reducible first | exact HB.out | apply below_alloc | apply pw_below_drewN | apply below_drew1 | refine below_set ?_ GE242.out) | exact HB.out))); (case aF => exact (fun k_ hk => ⟨Kd.fresh' (Kd.R_lt (by (with_reducible repeat (first | apply Kd.R_alloc | apply Kd.R_drewN | apply Kd.R_drew)); exact HO_3.out)) k_ hk, Kd.freshB (g := gb242) (o := .cells #[.int .i64 ((rd_T42 (rd_L5 l0 x4_1) x5_2).f0), .int .i64 ((rd_T42 (rd_L5 l0 x4_1) x5_2).f1), .int .i64 ((rd_T42 (rd_L5 l0 x4_1) x5_2).f2), .int .i64 ((rd_T42 (rd_L5 l0 x4_1) x5_2).f3)] 42 (0, 0)) (by (with_reducible repeat (first | refine blk_drewN ?_ _ | refine blk_drew ?_ | refine blk_alloc ?_ _)); exact BK242.out) k_ hk⟩)); (case aO => exact (by (with_reducible repeat (first | apply Kd.R_alloc | apply Kd.R_drewN | apply Kd.R_drew)); exact HO272.out)); (case aS => exact (below_size (by repeat (first | (with_reducible first | exact HB.out | apply below_alloc | apply pw_below_drewN | apply below_drew1 | refine below_set ?_ GE242.out) | exact HB.out)))); (case aL => have := LMc39.out; omega); intro v278 w46 ho hb hg hat; rw [← Ny277.out] at ho; have n0_ := Aside0.mk (Kd.R_after (ok := (fun k_ => k_ ≠ gb242)) (by (with_reducible repeat (first | apply Kd.R_alloc | apply Kd.R_drewN | apply Kd.R_drew)); exact HO_3.out) hg hat); have n1_ := Aside0.mk (blk_grown (g := gb242) (o := .cells #[.int .i64 ((rd_T42 (rd_L5 l0 x4_1) x5_2).f0), .int .i64 ((rd_T42 (rd_L5 l0 x4_1) x5_2).f1), .int .i64 ((rd_T42 (rd_L5 l0 x4_1) x5_2).f2), .int .i64 ((rd_T42 (rd_L5 l0 x4_1) x5_2).f3)] 42 (0, 0)) (by (with_reducible repeat (first | refine blk_drewN ?_ _ | refine blk_drew ?_ | refine blk_alloc ?_ _)); exact BK242.out) hg (Kd.R_away HO272.out (fun _ hk => hk.2))); have n2_ := Aside0.mk (hb); have n3_ := Aside0.mk ((show Kd.C k42 w46 (some ad243) y263.length y263 from by rw [Ny263.out]; exact Kd.C_take (m := (x7_3 : Int).toNat) ((Kd.R_reads' (Kd.R_after (ok := (fun k_ => k_ ≠ gb242)) (by (with_reducible repeat (first | apply Kd.R_alloc | apply Kd.R_drewN | apply Kd.R_drew)); exact HO_3.out) hg hat)).2.2) KL41.out)); have n4_ := Aside0.mk ((show Kd.C k42 w46 A45 y273.length y273 from by rw [Ny273.out, KA45.out]; exact Kd.C_drop (m := (x7_3 : Int).toNat) (c := co9) ((Kd.R_reads' (Kd.R_after (ok := (fun k_ => k_ ≠ gb242)) (by (with_reducible repeat (first | apply Kd.R_alloc | apply Kd.R_drewN | apply Kd.R_drew)); exact HO_3.out) hg hat)).2.2) KL45.out ((Kd.R_reads' (Kd.R_after (ok := (fun k_ => k_ ≠ gb242)) (by (with_reducible repeat (first | apply Kd.R_alloc | apply Kd.R_drewN | apply Kd.R_drew)); exact HO_3.out) hg hat)).2.1))); have n5_ := Aside0.mk (ho); clear HO_3; clear BK242; clear HB; clear HR266; clear HR276; clear HO272; have HO_3 := n0_; have BK242 := n1_; have HB := n2_; have HR266 := n3_; have HR276 := n4_; have HO279 := n5_; clear n0_ n1_ n2_ n3_ n4_ n5_; clear ho hb hg hat))
                       repeat (go_quiet (fail); try go_wp2_with (first | ((with_reducible refine gate_builtin (b := .append) (xs := #[.tmp 70, .tmp 73]) rfl ?_); at_builtin; refine Kd.R_append_rows k42 (w0 := w) w.heap.size rfl (.tmp 70) (.tmp 73) 28 42 (.agg #[(.int .i64 0), (.int .i64 0), (.int .i64 0), (.int .i64 0)]) 32 rfl Tryd.underlying28 info42 rfl (by decide) (by omega) (.slice none 0 0) ([] : List (S42)) y263 _ _ _ (fun k_ => some k_ ≠ (.slice (some ad243) x3_2.length co9 : Value).ownBlock ∧ k_ ≠ gb242) (fun _ => False) rfl rfl ?aO ?aR (fun _ _ h => h) (fun _ h => h.elim) ?aF ?aB ?aS ?aL ?_; (case aR => repeat (first | exact (by repeat (first | (with_reducible exact HR266.out) | (with_reducible refine Kd.C_alloc ?_ _) | (with_reducible refine Kd.C_drewN ?_ _) | (with_reducible refine Kd.C_drew ?_) | exact HR266.out)) | (with_reducible refine Kd.C_alloc ?_ _) | (with_reducible refine Kd.C_drewN ?_ _) | (with_reducible refine Kd.C_drew ?_))); (case aB => exact (by repeat (first | (with_reducible first | exact HB.out | apply below_alloc | apply pw_below_drewN | apply below_drew1 | refine below_set ?_ GE242.out) | exact HB.out))); (case aF => exact (fun k_ hk => ⟨Kd.fresh' (Kd.R_lt (by (with_reducible repeat (first | apply Kd.R_alloc | apply Kd.R_drewN | apply Kd.R_drew)); exact HO_3.out)) k_ hk, Kd.freshB (g := gb242) (o := .cells #[.int .i64 ((rd_T42 (rd_L5 l0 x4_1) x5_2).f0), .int .i64 ((rd_T42 (rd_L5 l0 x4_1) x5_2).f1), .int .i64 ((rd_T42 (rd_L5 l0 x4_1) x5_2).f2), .int .i64 ((rd_T42 (rd_L5 l0 x4_1) x5_2).f3)] 42 (0, 0)) (by (with_reducible repeat (first | refine blk_drewN ?_ _ | refine blk_drew ?_ | refine blk_alloc ?_ _)); exact BK242.out) k_ hk⟩)); (case aO => exact ((Kd.R_nil _ _ _ _ (fun k_ => some k_ ≠ (.slice (some ad243) x3_2.length co9 : Value).ownBlock ∧ k_ ≠ gb242)))); (case aS => exact (below_size (by repeat (first | (with_reducible first | exact HB.out | apply below_alloc | apply pw_below_drewN | apply below_drew1 | refine below_set ?_ GE242.out) | exact HB.out)))); (case aL => have := LMc35.out; omega); intro v268 w42 ho hb hg hat; rw [← Ny267.out] at ho; have n0_ := Aside0.mk (Kd.R_after (Kd.R_apart_nil (by (with_reducible repeat (first | apply Kd.R_alloc | apply Kd.R_drewN | apply Kd.R_drew)); exact HO_3.out)) hg hat); have n1_ := Aside0.mk (blk_grown (g := gb242) (o := .cells #[.int .i64 ((rd_T42 (rd_L5 l0 x4_1) x5_2).f0), .int .i64 ((rd_T42 (rd_L5 l0 x4_1) x5_2).f1), .int .i64 ((rd_T42 (rd_L5 l0 x4_1) x5_2).f2), .int .i64 ((rd_T42 (rd_L5 l0 x4_1) x5_2).f3)] 42 (0, 0)) (by (with_reducible repeat (first | refine blk_drewN ?_ _ | refine blk_drew ?_ | refine blk_alloc ?_ _)); exact BK242.out) hg (by simp [Value.ownBlock])); have n2_ := Aside0.mk (hb); have n3_ := Aside0.mk ((show Kd.C k42 w42 (some ad243) y263.length y263 from by rw [Ny263.out]; exact Kd.C_take (m := (x7_3 : Int).toNat) ((Kd.R_reads' (Kd.R_after (Kd.R_apart_nil (by (with_reducible repeat (first | apply Kd.R_alloc | apply Kd.R_drewN | apply Kd.R_drew)); exact HO_3.out)) hg hat)).2.2) KL41.out)); have n4_ := Aside0.mk (ho); clear HO_3; clear BK242; clear HB; clear HR266; have HO_3 := n0_; have BK242 := n1_; have HB := n2_; have HR266 := n3_; have HO269 := n4_; clear n0_ n1_ n2_ n3_ n4_; clear ho hb hg hat; have hcz43_0 : w42.cell? ⟨gb242, 0, none⟩ = some (.int .i64 ((rd_T42 (rd_L5 l0 x4_1) x5_2).f0)) := (blk_cell BK242.out 0).trans rfl; have hcz43_1 : w42.cell? ⟨gb242, 1, none⟩ = some (.int .i64 ((rd_T42 (rd_L5 l0 x4_1) x5_2).f1)) := (blk_cell BK242.out 1).trans rfl; have hcz43_2 : w42.cell? ⟨gb242, 2, none⟩ = some (.int .i64 ((rd_T42 (rd_L5 l0 x4_1) x5_2).f2)) := (blk_cell BK242.out 2).trans rfl; have hcz43_3 : w42.cell? ⟨gb242, 3, none⟩ = some (.int .i64 ((rd_T42 (rd_L5 l0 x4_1) x5_2).f3)) := (blk_cell BK242.out 3).trans rfl; have hfz43_0 := blk_frozen BK242.out 0; have hfz43_1 := blk_frozen BK242.out 1; have hfz43_2 := blk_frozen BK242.out 2; have hfz43_3 := blk_frozen BK242.out 3) | ((with_reducible refine gate_builtin (b := .append) (xs := #[.tmp 75, .tmp 77]) rfl ?_); at_builtin; refine Kd.R_append k42 (w0 := w) w.heap.size rfl (.tmp 75) (.tmp 77) 28 42 (.agg #[(.int .i64 0), (.int .i64 0), (.int .i64 0), (.int .i64 0)]) 32 rfl Tryd.underlying28 info42 rfl (by decide) (by omega) v268 y267 (⟨((rd_T42 (rd_L5 l0 x4_1) x5_2).f0), ((rd_T42 (rd_L5 l0 x4_1) x5_2).f1), ((rd_T42 (rd_L5 l0 x4_1) x5_2).f2), ((rd_T42 (rd_L5 l0 x4_1) x5_2).f3)⟩ : S42) [.int .i64 ((rd_T42 (rd_L5 l0 x4_1) x5_2).f0), .int .i64 ((rd_T42 (rd_L5 l0 x4_1) x5_2).f1), .int .i64 ((rd_T42 (rd_L5 l0 x4_1) x5_2).f2), .int .i64 ((rd_T42 (rd_L5 l0 x4_1) x5_2).f3)] (fun k_ => some k_ ≠ (.slice (some ad243) x3_2.length co9 : Value).ownBlock ∧ k_ ≠ gb242) (fun _ => False) rfl rfl ?aP (fun _ hk => hk.elim) ?aF ?aO ?aB ?aS ?aL ?_; (case aP => exact k42_mkM _ _ _ (⟨((rd_T42 (rd_L5 l0 x4_1) x5_2).f0), ((rd_T42 (rd_L5 l0 x4_1) x5_2).f1), ((rd_T42 (rd_L5 l0 x4_1) x5_2).f2), ((rd_T42 (rd_L5 l0 x4_1) x5_2).f3)⟩ : S42)); (case aB => exact (by repeat (first | (with_reducible first | exact HB.out | apply below_alloc | apply pw_below_drewN | apply below_drew1 | refine below_set ?_ GE242.out) | exact HB.out))); (case aF => exact (fun k_ hk => ⟨Kd.fresh' (Kd.R_lt (by (with_reducible repeat (first | apply Kd.R_alloc | apply Kd.R_drewN | apply Kd.R_drew)); exact HO_3.out)) k_ hk, Kd.freshB (g := gb242) (o := .cells #[.int .i64 ((rd_T42 (rd_L5 l0 x4_1) x5_2).f0), .int .i64 ((rd_T42 (rd_L5 l0 x4_1) x5_2).f1), .int .i64 ((rd_T42 (rd_L5 l0 x4_1) x5_2).f2), .int .i64 ((rd_T42 (rd_L5 l0 x4_1) x5_2).f3)] 42 (0, 0)) (by (with_reducible repeat (first | refine blk_drewN ?_ _ | refine blk_drew ?_ | refine blk_alloc ?_ _)); exact BK242.out) k_ hk⟩)); (case aO => exact (by (with_reducible repeat (first | apply Kd.R_alloc | apply Kd.R_drewN | apply Kd.R_drew)); exact HO269.out)); (case aS => exact (below_size (by repeat (first | (with_reducible first | exact HB.out | apply below_alloc | apply pw_below_drewN | apply below_drew1 | refine below_set ?_ GE242.out) | exact HB.out)))); (case aL => have := LMc36.out; omega); intro v271 w44 ho hb hg hat; rw [← Ny270.out] at ho; have n0_ := Aside0.mk (Kd.R_after (ok := (fun k_ => k_ ≠ gb242)) (by (with_reducible repeat (first | apply Kd.R_alloc | apply Kd.R_drewN | apply Kd.R_drew)); exact HO_3.out) hg hat); have n1_ := Aside0.mk (blk_grown (g := gb242) (o := .cells #[.int .i64 ((rd_T42 (rd_L5 l0 x4_1) x5_2).f0), .int .i64 ((rd_T42 (rd_L5 l0 x4_1) x5_2).f1), .int .i64 ((rd_T42 (rd_L5 l0 x4_1) x5_2).f2), .int .i64 ((rd_T42 (rd_L5 l0 x4_1) x5_2).f3)] 42 (0, 0)) (by (with_reducible repeat (first | refine blk_drewN ?_ _ | refine blk_drew ?_ | refine blk_alloc ?_ _)); exact BK242.out) hg (Kd.R_away HO269.out (fun _ hk => hk.2))); have n2_ := Aside0.mk (hb); have n3_ := Aside0.mk ((show Kd.C k42 w44 (some ad243) y263.length y263 from by rw [Ny263.out]; exact Kd.C_take (m := (x7_3 : Int).toNat) ((Kd.R_reads' (Kd.R_after (ok := (fun k_ => k_ ≠ gb242)) (by (with_reducible repeat (first | apply Kd.R_alloc | apply Kd.R_drewN | apply Kd.R_drew)); exact HO_3.out) hg hat)).2.2) KL41.out)); have n4_ := Aside0.mk (ho); clear HO_3; clear BK242; clear HB; clear HR266; clear HO269; have HO_3 := n0_; have BK242 := n1_; have HB := n2_; have HR266 := n3_; have HO272 := n4_; clear n0_ n1_ n2_ n3_ n4_; clear ho hb hg hat; have q45 : (x7_3 : Int) ≤ ((x3_2.length : Int) : Int) := of_decide_eq_true (by first | (with_reducible assumption) | assumption); obtain ⟨i045, hi045, _, hsz45, _⟩ := info_parts info42; have hroom45 : x3_2.length ≤ co9 := (Kd.R_reads' HO_3.out).2.1; have hC45 : Kd.C k42 _ (some ad243) x3_2.length x3_2 := (Kd.R_reads' HO_3.out).2.2; have q045 : (0 : Int) ≤ (x7_3 : Int) := of_decide_eq_true (by first | (with_reducible assumption) | assumption); have hcut45 := cut_from (P := Tryd.prog) 28 42 .i64 Tryd.underlying28 hi045 4 hsz45 (some ad243) x3_2.length co9 x7_3 q045 q45; have hr45 := Kd.C_drop (m := (x7_3 : Int).toNat) (c := co9) hC45 (by omega) hroom45; obtain ⟨A45, hA45⟩ : ∃ A1, A1 = (if co9 = (x7_3 : Int).toNat then (some ad243) else ((some ad243) : Option Addr).map (·.add ((x7_3 : Int).toNat * 4))) := ⟨_, rfl⟩; obtain ⟨c45, hc45⟩ : ∃ c1, c1 = co9 - (x7_3 : Int).toNat := ⟨_, rfl⟩; have hy45 : y273.length = x3_2.length - (x7_3 : Int).toNat := (by rw [Ny273.out, List.length_drop] <;> omega); rw [show (x3_2).drop (x7_3 : Int).toNat = y273 from Ny273.out.symm] at hr45; replace hr45 : Kd.C k42 _ A45 y273.length y273 := (by rw [hA45]; exact hr45); rw [← hy45, ← hA45, ← hc45] at hcut45; have HR276 := Aside0.mk hr45; have HC276 := Aside0.mk (show y273.length ≤ c45 from by rw [hy45, hc45]; exact Nat.sub_le_sub_right hroom45 _); clear hr45 hC45 hroom45 hi045 hsz45 hc45; have KY45 := Aside0.mk hy45; have KA45 := Aside0.mk hA45; clear hy45 hA45; have KL45 := Aside0.mk (show (x7_3 : Int).toNat ≤ x3_2.length from by omega); replace q45 := eq_true q45) | ((with_reducible refine gate_builtin (b := .append) (xs := #[.tmp 79, .tmp 82]) rfl ?_); at_builtin; refine Kd.R_append_rows k42 (w0 := w) w.heap.size rfl (.tmp 79) (.tmp 82) 28 42 (.agg #[(.int .i64 0), (.int .i64 0), (.int .i64 0), (.int .i64 0)]) 32 rfl Tryd.underlying28 info42 rfl (by decide) (by omega) v271 y270 y273 _ _ _ (fun k_ => some k_ ≠ (.slice (some ad243) x3_2.length co9 : Value).ownBlock ∧ k_ ≠ gb242) (fun _ => False) rfl rfl ?aO ?aR (fun _ _ h => h) (fun _ h => h.elim) ?aF ?aB ?aS ?aL ?_; (case aR => repeat (first | exact (by repeat (first | (with_reducible exact HR276.out) | (with_reducible refine Kd.C_alloc ?_ _) | (with_reducible refine Kd.C_drewN ?_ _) | (with_reducible refine Kd.C_drew ?_) | exact HR276.out)) | (with_reducible refine Kd.C_alloc ?_ _) | (with_reducible refine Kd.C_drewN ?_ _) | (with_reducible refine Kd.C_drew ?_))); (case aB => exact (by repeat (first | (with_reducible first | exact HB.out | apply below_alloc | apply pw_below_drewN | apply below_drew1 | refine below_set ?_ GE242.out) | exact HB.out))); (case aF => exact (fun k_ hk => ⟨Kd.fresh' (Kd.R_lt (by (with_reducible repeat (first | apply Kd.R_alloc | apply Kd.R_drewN | apply Kd.R_drew)); exact HO_3.out)) k_ hk, Kd.freshB (g := gb242) (o := .cells #[.int .i64 ((rd_T42 (rd_L5 l0 x4_1) x5_2).f0), .int .i64 ((rd_T42 (rd_L5 l0 x4_1) x5_2).f1), .int .i64 ((rd_T42 (rd_L5 l0 x4_1) x5_2).f2), .int .i64 ((rd_T42 (rd_L5 l0 x4_1) x5_2).f3)] 42 (0, 0)) (by (with_reducible repeat (first | refine blk_drewN ?_ _ | refine blk_drew ?_ | refine blk_alloc ?_ _)); exact BK242.out) k_ hk⟩)); (case aO => exact (by (with_reducible repeat (first | apply Kd.R_alloc | apply Kd.R_drewN | apply Kd.R_drew)); exact HO272.out)); (case aS => exact (below_size (by repeat (first | (with_reducible first | exact HB.out | apply below_alloc | apply pw_below_drewN | apply below_drew1 | refine below_set ?_ GE242.out) | exact HB.out)))); (case aL => have := LMc39.out; omega); intro v278 w46 ho hb hg hat; rw [← Ny277.out] at ho; have n0_ := Aside0.mk (Kd.R_after (ok := (fun k_ => k_ ≠ gb242)) (by (with_reducible repeat (first | apply Kd.R_alloc | apply Kd.R_drewN | apply Kd.R_drew)); exact HO_3.out) hg hat); have n1_ := Aside0.mk (blk_grown (g := gb242) (o := .cells #[.int .i64 ((rd_T42 (rd_L5 l0 x4_1) x5_2).f0), .int .i64 ((rd_T42 (rd_L5 l0 x4_1) x5_2).f1), .int .i64 ((rd_T42 (rd_L5 l0 x4_1) x5_2).f2), .int .i64 ((rd_T42 (rd_L5 l0 x4_1) x5_2).f3)] 42 (0, 0)) (by (with_reducible repeat (first | refine blk_drewN ?_ _ | refine blk_drew ?_ | refine blk_alloc ?_ _)); exact BK242.out) hg (Kd.R_away HO272.out (fun _ hk => hk.2))); have n2_ := Aside0.mk (hb); have n3_ := Aside0.mk ((show Kd.C k42 w46 (some ad243) y263.length y263 from by rw [Ny263.out]; exact Kd.C_take (m := (x7_3 : Int).toNat) ((Kd.R_reads' (Kd.R_after (ok := (fun k_ => k_ ≠ gb242)) (by (with_reducible repeat (first | apply Kd.R_alloc | apply Kd.R_drewN | apply Kd.R_drew)); exact HO_3.out) hg hat)).2.2) KL41.out)); have n4_ := Aside0.mk ((show Kd.C k42 w46 A45 y273.length y273 from by rw [Ny273.out, KA45.out]; exact Kd.C_drop (m := (x7_3 : Int).toNat) (c := co9) ((Kd.R_reads' (Kd.R_after (ok := (fun k_ => k_ ≠ gb242)) (by (with_reducible repeat (first | apply Kd.R_alloc | apply Kd.R_drewN | apply Kd.R_drew)); exact HO_3.out) hg hat)).2.2) KL45.out ((Kd.R_reads' (Kd.R_after (ok := (fun k_ => k_ ≠ gb242)) (by (with_reducible repeat (first | apply Kd.R_alloc | apply Kd.R_drewN | apply Kd.R_drew)); exact HO_3.out) hg hat)).2.1))); have n5_ := Aside0.mk (ho); clear HO_3; clear BK242; clear HB; clear HR266; clear HR276; clear HO272; have HO_3 := n0_; have BK242 := n1_; have HB := n2_; have HR266 := n3_; have HR276 := n4_; have HO279 := n5_; clear n0_ n1_ n2_ n3_ n4_ n5_; clear ho hb hg hat)))
                       go_roundg k3
                       case measure => have := HK1.out; have := HK2.out; have := HK3.out; omega
                       case rel => exact ⟨(y277), (wrap64 (x5_2 + 1)), (by first | rfl | (simp; done) | (simp [*]; done)), H', ⟨by have := HK1.out; have := HK2.out; have := HK3.out; omega⟩, ⟨by (with_reducible repeat (first | apply Kd.R_alloc | apply Kd.R_drewN | apply Kd.R_drew)); exact Kd.R_mono HO279.out (fun _ hk => trivial)⟩, ⟨by repeat (first | (with_reducible first | exact HB.out | apply below_alloc | apply pw_below_drewN | apply below_drew1 | refine below_set ?_ GE242.out) | exact HB.out)⟩⟩
                      ·rw [if_neg c39] at H
                       exact absurd H (by simp)
                     ·rw [if_neg c36] at H
                      exact absurd H (by simp)
                    ·rw [if_neg c35] at H
                     exact absurd H (by simp)
                   ·rw [if_neg c34] at H
                    exact absurd H (by simp)
                  ·rw [if_neg c33] at H
                   exact absurd H (by simp)
               ·rw [if_neg c13] at H
                exact absurd H (by simp)
              ·rw [if_neg c12] at H
               exact absurd H (by simp)
             ·rw [if_neg c10] at H
              have c10b0 : decide (0 < x7_3) = false := decide_eq_false c10
              clear c10
              by_cases c47 : 0 ≤ x7_3
              ·rw [if_pos c47] at H
               have c47b0 := eq_true c47
               have c47b1 : decide (0 ≤ x7_3) = true := decide_eq_true c47
               clear c47
               by_cases c48 : x7_3 ≤ (x3_2.length : Int)
               ·rw [if_pos c48] at H
                have c48b0 := eq_true c48
                have c48b1 : decide (x7_3 ≤ (x3_2.length : Int)) = true := decide_eq_true c48
                clear c48
                obtain ⟨y280, hy280⟩ : ∃ y_ : List (S42), y_ = (x3_2.take (x7_3 : Int).toNat) := ⟨_, rfl⟩
                replace H : (if ([] : List (S42)).length + y280.length < 4398046511104 then ((some (([] : List (S42)) ++ y280 : List (S42))).bind fun y284 => (if y284.length < 4398046511104 then ((some (y284 ++ [(⟨((rd_T42 (rd_L5 l0 x4_1) x5_2).f0), ((rd_T42 (rd_L5 l0 x4_1) x5_2).f1), ((rd_T42 (rd_L5 l0 x4_1) x5_2).f2), ((rd_T42 (rd_L5 l0 x4_1) x5_2).f3)⟩ : S42)] : List (S42))).bind fun y287 => ((some (x3_2.drop (x7_3 : Int).toNat : List (S42))).bind fun y290 => (if y287.length + y290.length < 4398046511104 then (storagebarterref28_Merge.l1 k3 l0 (y287 ++ y290) x4_1 (wrap64 (x5_2 + 1))) else (none)))) else (none))) else (none)) = some r := by first | (rw [hy280]; with_reducible exact H) | (have H2_ := (Option.bind_some _ _).symm.trans H; rw [hy280]; with_reducible exact H2_) | (have H2_ := (Option.bind_some _ _).symm.trans H; with_reducible exact H2_) | with_reducible exact H | (rw [hy280]; exact H) | exact H
                have Ny280 := Aside0.mk hy280
                clear hy280
                by_cases c49 : ([] : List (S42)).length + y280.length < 4398046511104
                ·rw [if_pos c49] at H
                 have LMc49 := Aside0.mk c49
                 clear c49
                 obtain ⟨y284, hy284⟩ : ∃ y_ : List (S42), y_ = (([] : List (S42)) ++ y280) := ⟨_, rfl⟩
                 replace H : (if y284.length < 4398046511104 then ((some (y284 ++ [(⟨((rd_T42 (rd_L5 l0 x4_1) x5_2).f0), ((rd_T42 (rd_L5 l0 x4_1) x5_2).f1), ((rd_T42 (rd_L5 l0 x4_1) x5_2).f2), ((rd_T42 (rd_L5 l0 x4_1) x5_2).f3)⟩ : S42)] : List (S42))).bind fun y287 => ((some (x3_2.drop (x7_3 : Int).toNat : List (S42))).bind fun y290 => (if y287.length + y290.length < 4398046511104 then (storagebarterref28_Merge.l1 k3 l0 (y287 ++ y290) x4_1 (wrap64 (x5_2 + 1))) else (none)))) else (none)) = some r := by first | (rw [hy284]; with_reducible exact H) | (have H2_ := (Option.bind_some _ _).symm.trans H; rw [hy284]; with_reducible exact H2_) | (have H2_ := (Option.bind_some _ _).symm.trans H; with_reducible exact H2_) | with_reducible exact H | (rw [hy284]; exact H) | exact H
                 have Ny284 := Aside0.mk hy284
                 clear hy284
                 by_cases c50 : y284.length < 4398046511104
                 ·rw [if_pos c50] at H
                  have LMc50 := Aside0.mk c50
                  clear c50
                  obtain ⟨y287, hy287⟩ : ∃ y_ : List (S42), y_ = (y284 ++ [(⟨((rd_T42 (rd_L5 l0 x4_1) x5_2).f0), ((rd_T42 (rd_L5 l0 x4_1) x5_2).f1), ((rd_T42 (rd_L5 l0 x4_1) x5_2).f2), ((rd_T42 (rd_L5 l0 x4_1) x5_2).f3)⟩ : S42)]) := ⟨_, rfl⟩
                  replace H : ((some (x3_2.drop (x7_3 : Int).toNat : List (S42))).bind fun y290 => (if y287.length + y290.length < 4398046511104 then (storagebarterref28_Merge.l1 k3 l0 (y287 ++ y290) x4_1 (wrap64 (x5_2 + 1))) else (none))) = some r := by first | (rw [hy287]; with_reducible exact H) | (have H2_ := (Option.bind_some _ _).symm.trans H; rw [hy287]; with_reducible exact H2_) | (have H2_ := (Option.bind_some _ _).symm.trans H; with_reducible exact H2_) | with_reducible exact H | (rw [hy287]; exact H) | exact H
                  have Ny287 := Aside0.mk hy287
                  clear hy287
                  have c51b0 := eq_true (of_decide_eq_true (by first | (with_reducible assumption) | assumption) : 0 ≤ x7_3)
                  have c52b0 := eq_true (of_decide_eq_true (by first | (with_reducible assumption) | assumption) : x7_3 ≤ (x3_2.length : Int))
                  obtain ⟨y290, hy290⟩ : ∃ y_ : List (S42), y_ = (x3_2.drop (x7_3 : Int).toNat) := ⟨_, rfl⟩
                  replace H : (if y287.length + y290.length < 4398046511104 then (storagebarterref28_Merge.l1 k3 l0 (y287 ++ y290) x4_1 (wrap64 (x5_2 + 1))) else (none)) = some r := by first | (rw [hy290]; with_reducible exact H) | (have H2_ := (Option.bind_some _ _).symm.trans H; rw [hy290]; with_reducible exact H2_) | (have H2_ := (Option.bind_some _ _).symm.trans H; with_reducible exact H2_) | with_reducible exact H | (rw [hy290]; exact H) | exact H
                  have Ny290 := Aside0.mk hy290
                  clear hy290
                  by_cases c53 : y287.length + y290.length < 4398046511104
                  ·rw [if_pos c53] at H
                   have LMc53 := Aside0.mk c53
                   clear c53
                   obtain ⟨y294, hy294⟩ : ∃ y_ : List (S42), y_ = (y287 ++ y290) := ⟨_, rfl⟩
                   replace H : (storagebarterref28_Merge.l1 k3 l0 y294 x4_1 (wrap64 (x5_2 + 1))) = some r := by first | (rw [hy294]; with_reducible exact H) | (have H2_ := (Option.bind_some _ _).symm.trans H; rw [hy294]; with_reducible exact H2_) | (have H2_ := (Option.bind_some _ _).symm.trans H; with_reducible exact H2_) | with_reducible exact H | (rw [hy294]; exact H) | exact H
                   have Ny294 := Aside0.mk hy294
                   clear hy294
                   have H' := Aside0.mk H
                   clear H
                   have q54 : (x7_3 : Int) ≤ ((x3_2.length : Int) : Int) := of_decide_eq_true (by first | (with_reducible assumption) | assumption)
                   obtain ⟨i054, hi054, _, hsz54, _⟩ := info_parts info42
                   have hroom54 : x3_2.length ≤ co9 := (Kd.R_reads' HO_3.out).2.1
                   have hC54 : Kd.C k42 _ Ao9 x3_2.length x3_2 := (Kd.R_reads' HO_3.out).2.2
                   have hcut54 := cut_to (P := Tryd.prog) 28 42 .i64 Tryd.underlying28 hi054 Ao9 x3_2.length co9 x7_3 (of_decide_eq_true (by first | (with_reducible assumption) | assumption)) q54 hroom54
                   have hr54 := Kd.C_take (m := (x7_3 : Int).toNat) hC54 (by omega)
                   have hy54 : y280.length = (x7_3 : Int).toNat := (by rw [Ny280.out, List.length_take]; omega)
                   rw [← Ny280.out] at hr54
                   rw [← hy54] at hcut54
                   have HR283 := Aside0.mk hr54
                   have HC283 := Aside0.mk (show y280.length ≤ co9 from by omega)
                   clear hr54 hC54 hroom54 hi054 hsz54
                   have KY54 := Aside0.mk hy54
                   clear hy54
                   have KL54 := Aside0.mk (show (x7_3 : Int).toNat ≤ x3_2.length from by omega)
                   replace q54 := eq_true q54
                   go_wp2_with (first | ((with_reducible refine gate_builtin (b := .append) (xs := #[.tmp 70, .tmp 73]) rfl ?_); at_builtin; refine Kd.R_append_rows k42 (w0 := w) w.heap.size rfl (.tmp 70) (.tmp 73) 28 42 (.agg #[(.int .i64 0), (.int .i64 0), (.int .i64 0), (.int .i64 0)]) 32 rfl Tryd.underlying28 info42 rfl (by decide) (by omega) (.slice none 0 0) ([] : List (S42)) y280 _ _ _ (fun k_ => some k_ ≠ (.slice Ao9 x3_2.length co9 : Value).ownBlock ∧ k_ ≠ gb242) (fun _ => False) rfl rfl ?aO ?aR (fun _ _ h => h) (fun _ h => h.elim) ?aF ?aB ?aS ?aL ?_; (case aR => repeat (first | exact (by repeat (first | (with_reducible exact HR283.out) | (with_reducible refine Kd.C_alloc ?_ _) | (with_reducible refine Kd.C_drewN ?_ _) | (with_reducible refine Kd.C_drew ?_) | exact HR283.out)) | (with_reducible refine Kd.C_alloc ?_ _) | (with_reducible refine Kd.C_drewN ?_ _) | (with_reducible refine Kd.C_drew ?_))); (case aB => exact (by repeat (first | (with_reducible first | exact HB.out | apply below_alloc | apply pw_below_drewN | apply below_drew1 | refine below_set ?_ GE242.out) | exact HB.out))); (case aF => exact (fun k_ hk => ⟨Kd.fresh' (Kd.R_lt (by (with_reducible repeat (first | apply Kd.R_alloc | apply Kd.R_drewN | apply Kd.R_drew)); exact HO_3.out)) k_ hk, Kd.freshB (g := gb242) (o := .cells #[.int .i64 ((rd_T42 (rd_L5 l0 x4_1) x5_2).f0), .int .i64 ((rd_T42 (rd_L5 l0 x4_1) x5_2).f1), .int .i64 ((rd_T42 (rd_L5 l0 x4_1) x5_2).f2), .int .i64 ((rd_T42 (rd_L5 l0 x4_1) x5_2).f3)] 42 (0, 0)) (by (with_reducible repeat (first | refine blk_drewN ?_ _ | refine blk_drew ?_ | refine blk_alloc ?_ _)); exact BK242.out) k_ hk⟩)); (case aO => exact ((Kd.R_nil _ _ _ _ (fun k_ => some k_ ≠ (.slice Ao9 x3_2.length co9 : Value).ownBlock ∧ k_ ≠ gb242)))); (case aS => exact (below_size (by repeat (first | (with_reducible first | exact HB.out | apply below_alloc | apply pw_below_drewN | apply below_drew1 | refine below_set ?_ GE242.out) | exact HB.out)))); (case aL => have := LMc49.out; omega); intro v285 w55 ho hb hg hat; rw [← Ny284.out] at ho; have n0_ := Aside0.mk (Kd.R_after (Kd.R_apart_nil (by (with_reducible repeat (first | apply Kd.R_alloc | apply Kd.R_drewN | apply Kd.R_drew)); exact HO_3.out)) hg hat); have n1_ := Aside0.mk (blk_grown (g := gb242) (o := .cells #[.int .i64 ((rd_T42 (rd_L5 l0 x4_1) x5_2).f0), .int .i64 ((rd_T42 (rd_L5 l0 x4_1) x5_2).f1), .int .i64 ((rd_T42 (rd_L5 l0 x4_1) x5_2).f2), .int .i64 ((rd_T42 (rd_L5 l0 x4_1) x5_2).f3)] 42 (0, 0)) (by (with_reducible repeat (first | refine blk_drewN ?_ _ | refine blk_drew ?_ | refine blk_alloc ?_ _)); exact BK242.out) hg (by simp [Value.ownBlock])); have n2_ := Aside0.mk (hb); have n3_ := Aside0.mk ((show Kd.C k42 w55 Ao9 y280.length y280 from by rw [Ny280.out]; exact Kd.C_take (m := (x7_3 : Int).toNat) ((Kd.R_reads' (Kd.R_after (Kd.R_apart_nil (by (with_reducible repeat (first | apply Kd.R_alloc | apply Kd.R_drewN | apply Kd.R_drew)); exact HO_3.out)) hg hat)).2.2) KL54.out)); have n4_ := Aside0.mk (ho); clear HO_3; clear BK242; clear HB; clear HR283; have HO_3 := n0_; have BK242 := n1_; have HB := n2_; have HR283 := n3_; have HO286 := n4_; clear n0_ n1_ n2_ n3_ n4_; clear ho hb hg hat; have hcz56_0 : w55.cell? ⟨gb242, 0, none⟩ = some (.int .i64 ((rd_T42 (rd_L5 l0 x4_1) x5_2).f0)) := (blk_cell BK242.out 0).trans rfl; have hcz56_1 : w55.cell? ⟨gb242, 1, none⟩ = some (.int .i64 ((rd_T42 (rd_L5 l0 x4_1) x5_2).f1)) := (blk_cell BK242.out 1).trans rfl; have hcz56_2 : w55.cell? ⟨gb242, 2, none⟩ = some (.int .i64 ((rd_T42 (rd_L5 l0 x4_1) x5_2).f2)) := (blk_cell BK242.out 2).trans rfl; have hcz56_3 : w55.cell? ⟨gb242, 3, none⟩ = some (.int .i64 ((rd_T42 (rd_L5 l0 x4_1) x5_2).f3)) := (blk_cell BK242.out 3).trans rfl; have hfz56_0 := blk_frozen BK242.out 0; have hfz56_1 := blk_frozen BK242.out 1; have hfz56_2 := blk_frozen BK242.out 2; have hfz56_3 := blk_frozen BK242.out 3) | ((with_reducible refine gate_builtin (b := .append) (xs := #[.tmp 75, .tmp 77]) rfl ?_); at_builtin; refine Kd.R_append k42 (w0 := w) w.heap.size rfl (.tmp 75) (.tmp 77) 28 42 (.agg #[(.int .i64 0), (.int .i64 0), (.int .i64 0), (.int .i64 0)]) 32 rfl Tryd.underlying28 info42 rfl (by decide) (by omega) v285 y284 (⟨((rd_T42 (rd_L5 l0 x4_1) x5_2).f0), ((rd_T42 (rd_L5 l0 x4_1) x5_2).f1), ((rd_T42 (rd_L5 l0 x4_1) x5_2).f2), ((rd_T42 (rd_L5 l0 x4_1) x5_2).f3)⟩ : S42) [.int .i64 ((rd_T42 (rd_L5 l0 x4_1) x5_2).f0), .int .i64 ((rd_T42 (rd_L5 l0 x4_1) x5_2).f1), .int .i64 ((rd_T42 (rd_L5 l0 x4_1) x5_2).f2), .int .i64 ((rd_T42 (rd_L5 l0 x4_1) x5_2).f3)] (fun k_ => some k_ ≠ (.slice Ao9 x3_2.length co9 : Value).ownBlock ∧ k_ ≠ gb242) (fun _ => False) rfl rfl ?aP (fun _ hk => hk.elim) ?aF ?aO ?aB ?aS ?aL ?_; (case aP => exact k42_mkM _ _ _ (⟨((rd_T42 (rd_L5 l0 x4_1) x5_2).f0), ((rd_T42 (rd_L5 l0 x4_1) x5_2).f1), ((rd_T42 (rd_L5 l0 x4_1) x5_2).f2), ((rd_T42 (rd_L5 l0 x4_1) x5_2).f3)⟩ : S42)); (case aB => exact (by repeat (first | (with_reducible first | exact HB.out | apply below_alloc | apply pw_below_drewN | apply below_drew1 | refine below_set ?_ GE242.out) | exact HB.out))); (case aF => exact (fun k_ hk => ⟨Kd.fresh' (Kd.R_lt (by (with_reducible repeat (first | apply Kd.R_alloc | apply Kd.R_drewN | apply Kd.R_drew)); exact HO_3.out)) k_ hk, Kd.freshB (g := gb242) (o := .cells #[.int .i64 ((rd_T42 (rd_L5 l0 x4_1) x5_2).f0), .int .i64 ((rd_T42 (rd_L5 l0 x4_1) x5_2).f1), .int .i64 ((rd_T42 (rd_L5 l0 x4_1) x5_2).f2), .int .i64 ((rd_T42 (rd_L5 l0 x4_1) x5_2).f3)] 42 (0, 0)) (by (with_reducible repeat (first | refine blk_drewN ?_ _ | refine blk_drew ?_ | refine blk_alloc ?_ _)); exact BK242.out) k_ hk⟩)); (case aO => exact (by (with_reducible repeat (first | apply Kd.R_alloc | apply Kd.R_drewN | apply Kd.R_drew)); exact HO286.out)); (case aS => exact (below_size (by repeat (first | (with_reducible first | exact HB.out | apply below_alloc | apply pw_below_drewN | apply below_drew1 | refine below_set ?_ GE242.out) | exact HB.out)))); (case aL => have := LMc50.out; omega); intro v288 w57 ho hb hg hat; rw [← Ny287.out] at ho; have n0_ := Aside0.mk (Kd.R_after (ok := (fun k_ => k_ ≠ gb242)) (by (with_reducible repeat (first | apply Kd.R_alloc | apply Kd.R_drewN | apply Kd.R_drew)); exact HO_3.out) hg hat); have n1_ := Aside0.mk (blk_grown (g := gb242) (o := .cells #[.int .i64 ((rd_T42 (rd_L5 l0 x4_1) x5_2).f0), .int .i64 ((rd_T42 (rd_L5 l0 x4_1) x5_2).f1), .int .i64 ((rd_T42 (rd_L5 l0 x4_1) x5_2).f2), .int .i64 ((rd_T42 (rd_L5 l0 x4_1) x5_2).f3)] 42 (0, 0)) (by (with_reducible repeat (first | refine blk_drewN ?_ _ | refine blk_drew ?_ | refine blk_alloc ?_ _)); exact BK242.out) hg (Kd.R_away HO286.out (fun _ hk => hk.2))); have n2_ := Aside0.mk (hb); have n3_ := Aside0.mk ((show Kd.C k42 w57 Ao9 y280.length y280 from by rw [Ny280.out]; exact Kd.C_take (m := (x7_3 : Int).toNat) ((Kd.R_reads' (Kd.R_after (ok := (fun k_ => k_ ≠ gb242)) (by (with_reducible repeat (first | apply Kd.R_alloc | apply Kd.R_drewN | apply Kd.R_drew)); exact HO_3.out) hg hat)).2.2) KL54.out)); have n4_ := Aside0.mk (ho); clear HO_3; clear BK242; clear HB; clear HR283; clear HO286; have HO_3 := n0_; have BK242 := n1_; have HB := n2_; have HR283 := n3_; have HO289 := n4_; clear n0_ n1_ n2_ n3_ n4_; clear ho hb hg hat; have q58 : (x7_3 : Int) ≤ ((x3_2.length : Int) : Int) := of_decide_eq_true (by first | (with_reducible assumption) | assumption); obtain ⟨i058, hi058, _, hsz58, _⟩ := info_parts info42; have hroom58 : x3_2.length ≤ co9 := (Kd.R_reads' HO_3.out).2.1; have hC58 : Kd.C k42 _ Ao9 x3_2.length x3_2 := (Kd.R_reads' HO_3.out).2.2; have q058 : (0 : Int) ≤ (x7_3 : Int) := of_decide_eq_true (by first | (with_reducible assumption) | assumption); have hcut58 := cut_from (P := Tryd.prog) 28 42 .i64 Tryd.underlying28 hi058 4 hsz58 Ao9 x3_2.length co9 x7_3 q058 q58; have hr58 := Kd.C_drop (m := (x7_3 : Int).toNat) (c := co9) hC58 (by omega) hroom58; obtain ⟨A58, hA58⟩ : ∃ A1, A1 = (if co9 = (x7_3 : Int).toNat then Ao9 else (Ao9 : Option Addr).map (·.add ((x7_3 : Int).toNat * 4))) := ⟨_, rfl⟩; obtain ⟨c58, hc58⟩ : ∃ c1, c1 = co9 - (x7_3 : Int).toNat := ⟨_, rfl⟩; have hy58 : y290.length = x3_2.length - (x7_3 : Int).toNat := (by rw [Ny290.out, List.length_drop] <;> omega); rw [show (x3_2).drop (x7_3 : Int).toNat = y290 from Ny290.out.symm] at hr58; replace hr58 : Kd.C k42 _ A58 y290.length y290 := (by rw [hA58]; exact hr58); rw [← hy58, ← hA58, ← hc58] at hcut58; have HR293 := Aside0.mk hr58; have HC293 := Aside0.mk (show y290.length ≤ c58 from by rw [hy58, hc58]; exact Nat.sub_le_sub_right hroom58 _); clear hr58 hC58 hroom58 hi058 hsz58 hc58; have KY58 := Aside0.mk hy58; have KA58 := Aside0.mk hA58; clear hy58 hA58; have KL58 := Aside0.mk (show (x7_3 : Int).toNat ≤ x3_2.length from by omega); replace q58 := eq_true q58) | ((with_reducible refine gate_builtin (b := .append) (xs := #[.tmp 79, .tmp 82]) rfl ?_); at_builtin; refine Kd.R_append_rows k42 (w0 := w) w.heap.size rfl (.tmp 79) (.tmp 82) 28 42 (.agg #[(.int .i64 0), (.int .i64 0), (.int .i64 0), (.int .i64 0)]) 32 rfl Tryd.underlying28 info42 rfl (by decide) (by omega) v288 y287 y290 _ _ _ (fun k_ => some k_ ≠ (.slice Ao9 x3_2.length co9 : Value).ownBlock ∧ k_ ≠ gb242) (fun _ => False) rfl rfl ?aO ?aR (fun _ _ h => h) (fun _ h => h.elim) ?aF ?aB ?aS ?aL ?_; (case aR => repeat (first | exact (by repeat (first | (with_reducible exact HR293.out) | (with_reducible refine Kd.C_alloc ?_ _) | (with_reducible refine Kd.C_drewN ?_ _) | (with_reducible refine Kd.C_drew ?_) | exact HR293.out)) | (with_reducible refine Kd.C_alloc ?_ _) | (with_reducible refine Kd.C_drewN ?_ _) | (with_reducible refine Kd.C_drew ?_))); (case aB => exact (by repeat (first | (with_reducible first | exact HB.out | apply below_alloc | apply pw_below_drewN | apply below_drew1 | refine below_set ?_ GE242.out) | exact HB.out))); (case aF => exact (fun k_ hk => ⟨Kd.fresh' (Kd.R_lt (by (with_reducible repeat (first | apply Kd.R_alloc | apply Kd.R_drewN | apply Kd.R_drew)); exact HO_3.out)) k_ hk, Kd.freshB (g := gb242) (o := .cells #[.int .i64 ((rd_T42 (rd_L5 l0 x4_1) x5_2).f0), .int .i64 ((rd_T42 (rd_L5 l0 x4_1) x5_2).f1), .int .i64 ((rd_T42 (rd_L5 l0 x4_1) x5_2).f2), .int .i64 ((rd_T42 (rd_L5 l0 x4_1) x5_2).f3)] 42 (0, 0)) (by (with_reducible repeat (first | refine blk_drewN ?_ _ | refine blk_drew ?_ | refine blk_alloc ?_ _)); exact BK242.out) k_ hk⟩)); (case aO => exact (by (with_reducible repeat (first | apply Kd.R_alloc | apply Kd.R_drewN | apply Kd.R_drew)); exact HO289.out)); (case aS => exact (below_size (by repeat (first | (with_reducible first | exact HB.out | apply below_alloc | apply pw_below_drewN | apply below_drew1 | refine below_set ?_ GE242.out) | exact HB.out)))); (case aL => have := LMc53.out; omega); intro v295 w59 ho hb hg hat; rw [← Ny294.out] at ho; have n0_ := Aside0.mk (Kd.R_after (ok := (fun k_ => k_ ≠ gb242)) (by (with_reducible repeat (first | apply Kd.R_alloc | apply Kd.R_drewN | apply Kd.R_drew)); exact HO_3.out) hg hat); have n1_ := Aside0.mk (blk_grown (g := gb242) (o := .cells #[.int .i64 ((rd_T42 (rd_L5 l0 x4_1) x5_2).f0), .int .i64 ((rd_T42 (rd_L5 l0 x4_1) x5_2).f1), .int .i64 ((rd_T42 (rd_L5 l0 x4_1) x5_2).f2), .int .i64 ((rd_T42 (rd_L5 l0 x4_1) x5_2).f3)] 42 (0, 0)) (by (with_reducible repeat (first | refine blk_drewN ?_ _ | refine blk_drew ?_ | refine blk_alloc ?_ _)); exact BK242.out) hg (Kd.R_away HO289.out (fun _ hk => hk.2))); have n2_ := Aside0.mk (hb); have n3_ := Aside0.mk ((show Kd.C k42 w59 Ao9 y280.length y280 from by rw [Ny280.out]; exact Kd.C_take (m := (x7_3 : Int).toNat) ((Kd.R_reads' (Kd.R_after (ok := (fun k_ => k_ ≠ gb242)) (by (with_reducible repeat (first | apply Kd.R_alloc | apply Kd.R_drewN | apply Kd.R_drew)); exact HO_3.out) hg hat)).2.2) KL54.out)); have n4_ := Aside0.mk ((show Kd.C k42 w59 A58 y290.length y290 from by rw [Ny290.out, KA58.out]; exact Kd.C_drop (m := (x7_3 : Int).toNat) (c := co9) ((Kd.R_reads' (Kd.R_after (ok := (fun k_ => k_ ≠ gb242)) (by (with_reducible repeat (first | apply Kd.R_alloc | apply Kd.R_drewN | apply Kd.R_drew)); exact HO_3.out) hg hat)).2.2) KL58.out ((Kd.R_reads' (Kd.R_after (ok := (fun k_ => k_ ≠ gb242)) (by (with_reducible repeat (first | apply Kd.R_alloc | apply Kd.R_drewN | apply Kd.R_drew)); exact HO_3.out) hg hat)).2.1))); have n5_ := Aside0.mk (ho); clear HO_3; clear BK242; clear HB; clear HR283; clear HR293; clear HO289; have HO_3 := n0_; have BK242 := n1_; have HB := n2_; have HR283 := n3_; have HR293 := n4_; have HO296 := n5_; clear n0_ n1_ n2_ n3_ n4_ n5_; clear ho hb hg hat))
                   repeat (go_quiet (fail); try go_wp2_with (first | ((with_reducible refine gate_builtin (b := .append) (xs := #[.tmp 70, .tmp 73]) rfl ?_); at_builtin; refine Kd.R_append_rows k42 (w0 := w) w.heap.size rfl (.tmp 70) (.tmp 73) 28 42 (.agg #[(.int .i64 0), (.int .i64 0), (.int .i64 0), (.int .i64 0)]) 32 rfl Tryd.underlying28 info42 rfl (by decide) (by omega) (.slice none 0 0) ([] : List (S42)) y280 _ _ _ (fun k_ => some k_ ≠ (.slice Ao9 x3_2.length co9 : Value).ownBlock ∧ k_ ≠ gb242) (fun _ => False) rfl rfl ?aO ?aR (fun _ _ h => h) (fun _ h => h.elim) ?aF ?aB ?aS ?aL ?_; (case aR => repeat (first | exact (by repeat (first | (with_reducible exact HR283.out) | (with_reducible refine Kd.C_alloc ?_ _) | (with_reducible refine Kd.C_drewN ?_ _) | (with_reducible refine Kd.C_drew ?_) | exact HR283.out)) | (with_reducible refine Kd.C_alloc ?_ _) | (with_reducible refine Kd.C_drewN ?_ _) | (with_reducible refine Kd.C_drew ?_))); (case aB => exact (by repeat (first | (with_reducible first | exact HB.out | apply below_alloc | apply pw_below_drewN | apply below_drew1 | refine below_set ?_ GE242.out) | exact HB.out))); (case aF => exact (fun k_ hk => ⟨Kd.fresh' (Kd.R_lt (by (with_reducible repeat (first | apply Kd.R_alloc | apply Kd.R_drewN | apply Kd.R_drew)); exact HO_3.out)) k_ hk, Kd.freshB (g := gb242) (o := .cells #[.int .i64 ((rd_T42 (rd_L5 l0 x4_1) x5_2).f0), .int .i64 ((rd_T42 (rd_L5 l0 x4_1) x5_2).f1), .int .i64 ((rd_T42 (rd_L5 l0 x4_1) x5_2).f2), .int .i64 ((rd_T42 (rd_L5 l0 x4_1) x5_2).f3)] 42 (0, 0)) (by (with_reducible repeat (first | refine blk_drewN ?_ _ | refine blk_drew ?_ | refine blk_alloc ?_ _)); exact BK242.out) k_ hk⟩)); (case aO => exact ((Kd.R_nil _ _ _ _ (fun k_ => some k_ ≠ (.slice Ao9 x3_2.length co9 : Value).ownBlock ∧ k_ ≠ gb242)))); (case aS => exact (below_size (by repeat (first | (with_reducible first | exact HB.out | apply below_alloc | apply pw_below_drewN | apply below_drew1 | refine below_set ?_ GE242.out) | exact HB.out)))); (case aL => have := LMc49.out; omega); intro v285 w55 ho hb hg hat; rw [← Ny284.out] at ho; have n0_ := Aside0.mk (Kd.R_after (Kd.R_apart_nil (by (with_reducible repeat (first | apply Kd.R_alloc | apply Kd.R_drewN | apply Kd.R_drew)); exact HO_3.out)) hg hat); have n1_ := Aside0.mk (blk_grown (g := gb242) (o := .cells #[.int .i64 ((rd_T42 (rd_L5 l0 x4_1) x5_2).f0), .int .i64 ((rd_T42 (rd_L5 l0 x4_1) x5_2).f1), .int .i64 ((rd_T42 (rd_L5 l0 x4_1) x5_2).f2), .int .i64 ((rd_T42 (rd_L5 l0 x4_1) x5_2).f3)] 42 (0, 0)) (by (with_reducible repeat (first | refine blk_drewN ?_ _ | refine blk_drew ?_ | refine blk_alloc ?_ _)); exact BK242.out) hg (by simp [Value.ownBlock])); have n2_ := Aside0.mk (hb); have n3_ := Aside0.mk ((show Kd.C k42 w55 Ao9 y280.length y280 from by rw [Ny280.out]; exact Kd.C_take (m := (x7_3 : Int).toNat) ((Kd.R_reads' (Kd.R_after (Kd.R_apart_nil (by (with_reducible repeat (first | apply Kd.R_alloc | apply Kd.R_drewN | apply Kd.R_drew)); exact HO_3.out)) hg hat)).2.2) KL54.out)); have n4_ := Aside0.mk (ho); clear HO_3; clear BK242; clear HB; clear HR283; have HO_3 := n0_; have BK242 := n1_; have HB := n2_; have HR283 := n3_; have HO286 := n4_; clear n0_ n1_ n2_ n3_ n4_; clear ho hb hg hat; have hcz56_0 : w55.cell? ⟨gb242, 0, none⟩ = some (.int .i64 ((rd_T42 (rd_L5 l0 x4_1) x5_2).f0)) := (blk_cell BK242.out 0).trans rfl; have hcz56_1 : w55.cell? ⟨gb242, 1, none⟩ = some (.int .i64 ((rd_T42 (rd_L5 l0 x4_1) x5_2).f1)) := (blk_cell BK242.out 1).trans rfl; have hcz56_2 : w55.cell? ⟨gb242, 2, none⟩ = some (.int .i64 ((rd_T42 (rd_L5 l0 x4_1) x5_2).f2)) := (blk_cell BK242.out 2).trans rfl; have hcz56_3 : w55.cell? ⟨gb242, 3, none⟩ = some (.int .i64 ((rd_T42 (rd_L5 l0 x4_1) x5_2).f3)) := (blk_cell BK242.out 3).trans rfl; have hfz56_0 := blk_frozen BK242.out 0; have hfz56_1 := blk_frozen BK242.out 1; have hfz56_2 := blk_frozen BK242.out 2; have hfz56_3 := blk_frozen BK242.out 3) | ((with_reducible refine gate_builtin (b := .append) (xs := #[.tmp 75, .tmp 77]) rfl ?_); at_builtin; refine Kd.R_append k42 (w0 := w) w.heap.size rfl (.tmp 75) (.tmp 77) 28 42 (.agg #[(.int .i64 0), (.int .i64 0), (.int .i64 0), (.int .i64 0)]) 32 rfl Tryd.underlying28 info42 rfl (by decide) (by omega) v285 y284 (⟨((rd_T42 (rd_L5 l0 x4_1) x5_2).f0), ((rd_T42 (rd_L5 l0 x4_1) x5_2).f1), ((rd_T42 (rd_L5 l0 x4_1) x5_2).f2), ((rd_T42 (rd_L5 l0 x4_1) x5_2).f3)⟩ : S42) [.int .i64 ((rd_T42 (rd_L5 l0 x4_1) x5_2).f0), .int .i64 ((rd_T42 (rd_L5 l0 x4_1) x5_2).f1), .int .i64 ((rd_T42 (rd_L5 l0 x4_1) x5_2).f2), .int .i64 ((rd_T42 (rd_L5 l0 x4_1) x5_2).f3)] (fun k_ => some k_ ≠ (.slice Ao9 x3_2.length co9 : Value).ownBlock ∧ k_ ≠ gb242) (fun _ => False) rfl rfl ?aP (fun _ hk => hk.elim) ?aF ?aO ?aB ?aS ?aL ?_; (case aP => exact k42_mkM _ _ _ (⟨((rd_T42 (rd_L5 l0 x4_1) x5_2).f0), ((rd_T42 (rd_L5 l0 x4_1) x5_2).f1), ((rd_T42 (rd_L5 l0 x4_1) x5_2).f2), ((rd_T42 (rd_L5 l0 x4_1) x5_2).f3)⟩ : S42)); (case aB => exact (by repeat (first | (with_reducible first | exact HB.out | apply below_alloc | apply pw_below_drewN | apply below_drew1 | refine below_set ?_ GE242.out) | exact HB.out))); (case aF => exact (fun k_ hk => ⟨Kd.fresh' (Kd.R_lt (by (with_reducible repeat (first | apply Kd.R_alloc | apply Kd.R_drewN | apply Kd.R_drew)); exact HO_3.out)) k_ hk, Kd.freshB (g := gb242) (o := .cells #[.int .i64 ((rd_T42 (rd_L5 l0 x4_1) x5_2).f0), .int .i64 ((rd_T42 (rd_L5 l0 x4_1) x5_2).f1), .int .i64 ((rd_T42 (rd_L5 l0 x4_1) x5_2).f2), .int .i64 ((rd_T42 (rd_L5 l0 x4_1) x5_2).f3)] 42 (0, 0)) (by (with_reducible repeat (first | refine blk_drewN ?_ _ | refine blk_drew ?_ | refine blk_alloc ?_ _)); exact BK242.out) k_ hk⟩)); (case aO => exact (by (with_reducible repeat (first | apply Kd.R_alloc | apply Kd.R_drewN | apply Kd.R_drew)); exact HO286.out)); (case aS => exact (below_size (by repeat (first | (with_reducible first | exact HB.out | apply below_alloc | apply pw_below_drewN | apply below_drew1 | refine below_set ?_ GE242.out) | exact HB.out)))); (case aL => have := LMc50.out; omega); intro v288 w57 ho hb hg hat; rw [← Ny287.out] at ho; have n0_ := Aside0.mk (Kd.R_after (ok := (fun k_ => k_ ≠ gb242)) (by (with_reducible repeat (first | apply Kd.R_alloc | apply Kd.R_drewN | apply Kd.R_drew)); exact HO_3.out) hg hat); have n1_ := Aside0.mk (blk_grown (g := gb242) (o := .cells #[.int .i64 ((rd_T42 (rd_L5 l0 x4_1) x5_2).f0), .int .i64 ((rd_T42 (rd_L5 l0 x4_1) x5_2).f1), .int .i64 ((rd_T42 (rd_L5 l0 x4_1) x5_2).f2), .int .i64 ((rd_T42 (rd_L5 l0 x4_1) x5_2).f3)] 42 (0, 0)) (by (with_reducible repeat (first | refine blk_drewN ?_ _ | refine blk_drew ?_ | refine blk_alloc ?_ _)); exact BK242.out) hg (Kd.R_away HO286.out (fun _ hk => hk.2))); have n2_ := Aside0.mk (hb); have n3_ := Aside0.mk ((show Kd.C k42 w57 Ao9 y280.length y280 from by rw [Ny280.out]; exact Kd.C_take (m := (x7_3 : Int).toNat) ((Kd.R_reads' (Kd.R_after (ok := (fun k_ => k_ ≠ gb242)) (by (with_reducible repeat (first | apply Kd.R_alloc | apply Kd.R_drewN | apply Kd.R_drew)); exact HO_3.out) hg hat)).2.2) KL54.out)); have n4_ := Aside0.mk (ho); clear HO_3; clear BK242; clear HB; clear HR283; clear HO286; have HO_3 := n0_; have BK242 := n1_; have HB := n2_; have HR283 := n3_; have HO289 := n4_; clear n0_ n1_ n2_ n3_ n4_; clear ho hb hg hat; have q58 : (x7_3 : Int) ≤ ((x3_2.length : Int) : Int) := of_decide_eq_true (by first | (with_reducible assumption) | assumption); obtain ⟨i058, hi058, _, hsz58, _⟩ := info_parts info42; have hroom58 : x3_2.length ≤ co9 := (Kd.R_reads' HO_3.out).2.1; have hC58 : Kd.C k42 _ Ao9 x3_2.length x3_2 := (Kd.R_reads' HO_3.out).2.2; have q058 : (0 : Int) ≤ (x7_3 : Int) := of_decide_eq_true (by first | (with_reducible assumption) | assumption); have hcut58 := cut_from (P := Tryd.prog) 28 42 .i64 Tryd.underlying28 hi058 4 hsz58 Ao9 x3_2.length co9 x7_3 q058 q58; have hr58 := Kd.C_drop (m := (x7_3 : Int).toNat) (c := co9) hC58 (by omega) hroom58; obtain ⟨A58, hA58⟩ : ∃ A1, A1 = (if co9 = (x7_3 : Int).toNat then Ao9 else (Ao9 : Option Addr).map (·.add ((x7_3 : Int).toNat * 4))) := ⟨_, rfl⟩; obtain ⟨c58, hc58⟩ : ∃ c1, c1 = co9 - (x7_3 : Int).toNat := ⟨_, rfl⟩; have hy58 : y290.length = x3_2.length - (x7_3 : Int).toNat := (by rw [Ny290.out, List.length_drop] <;> omega); rw [show (x3_2).drop (x7_3 : Int).toNat = y290 from Ny290.out.symm] at hr58; replace hr58 : Kd.C k42 _ A58 y290.length y290 := (by rw [hA58]; exact hr58); rw [← hy58, ← hA58, ← hc58] at hcut58; have HR293 := Aside0.mk hr58; have HC293 := Aside0.mk (show y290.length ≤ c58 from by rw [hy58, hc58]; exact Nat.sub_le_sub_right hroom58 _); clear hr58 hC58 hroom58 hi058 hsz58 hc58; have KY58 := Aside0.mk hy58; have KA58 := Aside0.mk hA58; clear hy58 hA58; have KL58 := Aside0.mk (show (x7_3 : Int).toNat ≤ x3_2.length from by omega); replace q58 := eq_true q58) | ((with_reducible refine gate_builtin (b := .append) (xs := #[.tmp 79, .tmp 82]) rfl ?_); at_builtin; refine Kd.R_append_rows k42 (w0 := w) w.heap.size rfl (.tmp 79) (.tmp 82) 28 42 (.agg #[(.int .i64 0), (.int .i64 0), (.int .i64 0), (.int .i64 0)]) 32 rfl Tryd.underlying28 info42 rfl (by decide) (by omega) v288 y287 y290 _ _ _ (fun k_ => some k_ ≠ (.slice Ao9 x3_2.length co9 : Value).ownBlock ∧ k_ ≠ gb242) (fun _ => False) rfl rfl ?aO ?aR (fun _ _ h => h) (fun _ h => h.elim) ?aF ?aB ?aS ?aL ?_; (case aR => repeat (first | exact (by repeat (first | (with_reducible exact HR293.out) | (with_reducible refine Kd.C_alloc ?_ _) | (with_reducible refine Kd.C_drewN ?_ _) | (with_reducible refine Kd.C_drew ?_) | exact HR293.out)) | (with_reducible refine Kd.C_alloc ?_ _) | (with_reducible refine Kd.C_drewN ?_ _) | (with_reducible refine Kd.C_drew ?_))); (case aB => exact (by repeat (first | (with_reducible first | exact HB.out | apply below_alloc | apply pw_below_drewN | apply below_drew1 | refine below_set ?_ GE242.out) | exact HB.out))); (case aF => exact (fun k_ hk => ⟨Kd.fresh' (Kd.R_lt (by (with_reducible repeat (first | apply Kd.R_alloc | apply Kd.R_drewN | apply Kd.R_drew)); exact HO_3.out)) k_ hk, Kd.freshB (g := gb242) (o := .cells #[.int .i64 ((rd_T42 (rd_L5 l0 x4_1) x5_2).f0), .int .i64 ((rd_T42 (rd_L5 l0 x4_1) x5_2).f1), .int .i64 ((rd_T42 (rd_L5 l0 x4_1) x5_2).f2), .int .i64 ((rd_T42 (rd_L5 l0 x4_1) x5_2).f3)] 42 (0, 0)) (by (with_reducible repeat (first | refine blk_drewN ?_ _ | refine blk_drew ?_ | refine blk_alloc ?_ _)); exact BK242.out) k_ hk⟩)); (case aO => exact (by (with_reducible repeat (first | apply Kd.R_alloc | apply Kd.R_drewN | apply Kd.R_drew)); exact HO289.out)); (case aS => exact (below_size (by repeat (first | (with_reducible first | exact HB.out | apply below_alloc | apply pw_below_drewN | apply below_drew1 | refine below_set ?_ GE242.out) | exact HB.out)))); (case aL => have := LMc53.out; omega); intro v295 w59 ho hb hg hat; rw [← Ny294.out] at ho; have n0_ := Aside0.mk (Kd.R_after (ok := (fun k_ => k_ ≠ gb242)) (by (with_reducible repeat (first | apply Kd.R_alloc | apply Kd.R_drewN | apply Kd.R_drew)); exact HO_3.out) hg hat); have n1_ := Aside0.mk (blk_grown (g := gb242) (o := .cells #[.int .i64 ((rd_T42 (rd_L5 l0 x4_1) x5_2).f0), .int .i64 ((rd_T42 (rd_L5 l0 x4_1) x5_2).f1), .int .i64 ((rd_T42 (rd_L5 l0 x4_1) x5_2).f2), .int .i64 ((rd_T42 (rd_L5 l0 x4_1) x5_2).f3)] 42 (0, 0)) (by (with_reducible repeat (first | refine blk_drewN ?_ _ | refine blk_drew ?_ | refine blk_alloc ?_ _)); exact BK242.out) hg (Kd.R_away HO289.out (fun _ hk => hk.2))); have n2_ := Aside0.mk (hb); have n3_ := Aside0.mk ((show Kd.C k42 w59 Ao9 y280.length y280 from by rw [Ny280.out]; exact Kd.C_take (m := (x7_3 : Int).toNat) ((Kd.R_reads' (Kd.R_after (ok := (fun k_ => k_ ≠ gb242)) (by (with_reducible repeat (first | apply Kd.R_alloc | apply Kd.R_drewN | apply Kd.R_drew)); exact HO_3.out) hg hat)).2.2) KL54.out)); have n4_ := Aside0.mk ((show Kd.C k42 w59 A58 y290.length y290 from by rw [Ny290.out, KA58.out]; exact Kd.C_drop (m := (x7_3 : Int).toNat) (c := co9) ((Kd.R_reads' (Kd.R_after (ok := (fun k_ => k_ ≠ gb242)) (by (with_reducible repeat (first | apply Kd.R_alloc | apply Kd.R_drewN | apply Kd.R_drew)); exact HO_3.out) hg hat)).2.2) KL58.out ((Kd.R_reads' (Kd.R_after (ok := (fun k_ => k_ ≠ gb242)) (by (with_reducible repeat (first | apply Kd.R_alloc | apply Kd.R_drewN | apply Kd.R_drew)); exact HO_3.out) hg hat)).2.1))); have n5_ := Aside0.mk (ho); clear HO_3; clear BK242; clear HB; clear HR283; clear HR293; clear HO289; have HO_3 := n0_; have BK242 := n1_; have HB := n2_; have HR283 := n3_; have HR293 := n4_; have HO296 := n5_; clear n0_ n1_ n2_ n3_ n4_ n5_; clear ho hb hg hat)))
                   go_roundg k3
                   case measure => have := HK1.out; have := HK2.out; have := HK3.out; omega
                   case rel => exact ⟨(y294), (wrap64 (x5_2 + 1)), (by first | rfl | (simp; done) | (simp [*]; done)), H', ⟨by have := HK1.out; have := HK2.out; have := HK3.out; omega⟩, ⟨by (with_reducible repeat (first | apply Kd.R_alloc | apply Kd.R_drewN | apply Kd.R_drew)); exact Kd.R_mono HO296.out (fun _ hk => trivial)⟩, ⟨by repeat (first | (with_reducible first | exact HB.out | apply below_alloc | apply pw_below_drewN | apply below_drew1 | refine below_set ?_ GE242.out) | exact HB.out)⟩⟩
                  ·rw [if_neg c53] at H
                   exact absurd H (by simp)
                 ·rw [if_neg c50] at H
                  exact absurd H (by simp)
                ·rw [if_neg c49] at H
                 exact absurd H (by simp)
               ·rw [if_neg c48] at H
                exact absurd H (by simp)
              ·rw [if_neg c47] at H
               exact absurd H (by simp)
          ·rw [if_neg c6] at H
           exact absurd H (by simp)
         ·rw [if_neg c5] at H
          have c5b0 : decide (x5_2 < ((rd_L5 l0 x4_1).length : Int)) = false := decide_eq_false c5
          clear c5
          have H' := Aside0.mk H
          clear H
          have p239 : 0 ≤ (x4_1 : Int) := of_decide_eq_true (by first | (with_reducible assumption) | assumption)
          have q239 : x4_1 < (l0.length : Int) := of_decide_eq_true (by first | (with_reducible assumption) | assumption)
          obtain ⟨ad239, A239_0, c239_0, e239, hx239_0, hl239_0, hi239_0⟩ := at_L5 HR0.out x4_1 p239 q239
          cases e239
          replace hx239_0 := (HB.out.cell (World.block_lt_of_cell? w _ hx239_0)).trans hx239_0
          have HR239_0 := Aside0.mk hi239_0
          have HC239_0 := Aside0.mk hl239_0
          clear hi239_0 hl239_0
          replace p239 := eq_true p239
          replace q239 := eq_true q239
          go_wp2
          repeat (go_quiet (fail); try go_wp2)
          go_roundg k2
          case measure => have := HK1.out; have := HK2.out; omega
          case rel => exact ⟨(x3_2), (wrap64 (x4_1 + 1)), (by first | rfl | (simp; done) | (simp [*]; done)), H', ⟨by have := HK1.out; have := HK2.out; omega⟩, ⟨by (with_reducible repeat (first | apply Kd.R_alloc | apply Kd.R_drewN | apply Kd.R_drew)); exact HO_3.out⟩, ⟨by repeat (first | (with_reducible first | exact HB.out | apply below_alloc | apply pw_below_drewN | apply below_drew1) | exact HB.out)⟩⟩
        ·rw [if_neg c4] at H
         exact absurd H (by simp)
       ·rw [if_neg c3] at H
        exact absurd H (by simp)
    ·rw [if_neg c2] at H
     have c2b0 : decide (x4_1 < (l0.length : Int)) = false := decide_eq_false c2
     clear c2
     obtain rfl := Option.some.inj H
     go_wp2
     repeat (go_quiet (fail); try go_wp2)
     go_ret
     exact ⟨_, by first | rfl | (simp [errW_none, errW_some] <;> rfl) | (simp [*, errW_none, errW_some] <;> rfl), by (with_reducible repeat (first | apply Kd.R_alloc | apply Kd.R_drewN | apply Kd.R_drew)); exact HO_3.out, by repeat (first | (with_reducible first | exact HB.out | apply below_alloc | apply pw_below_drewN | apply below_drew1) | exact HB.out)⟩

/-! ### storagebarterref28_Same: function 12 -/
def storagebarterref28_Same.l0 : Nat → List (S42) → List (S42) → Int → Option (Bool)
  | 0, _, _, _ => none
  | k + 1, x0, x1, x5 => if x5 < (x0.length : Int) then (if 0 ≤ x5 then (if x5 < (x1.length : Int) then (if (!(((rd_T42 x0 x5).f0) == ((rd_T42 x1 x5).f0)) || (!(((rd_T42 x0 x5).f1) == ((rd_T42 x1 x5).f1)) || (!(((rd_T42 x0 x5).f2) == ((rd_T42 x1 x5).f2)) || (!(((rd_T42 x0 x5).f3) == ((rd_T42 x1 x5).f3)))))) = true then (some false) else (storagebarterref28_Same.l0 k x0 x1 (wrap64 (x5 + 1)))) else (none)) else (none)) else (some true)
def storagebarterref28_Same.f (k : Nat) (l0 : List (S42)) (l1 : List (S42)) : Option (Bool) := if (l0.length : Int) = (l1.length : Int) then (storagebarterref28_Same.l0 k l0 l1 0) else (some false)
theorem storagebarterref28_Same.mono_l : ∀ k, (∀ y0 y1 y2, LeO (storagebarterref28_Same.l0 k y0 y1 y2) (storagebarterref28_Same.l0 (k + 1) y0 y1 y2))
  | 0 => fun _ _ _ r h => by simp [storagebarterref28_Same.l0] at h
  | k + 1 => by
    have ih0 := storagebarterref28_Same.mono_l k
    · intro y0 y1 y2
      unfold storagebarterref28_Same.l0
      repeat' first
      | (with_reducible exact ih0 _ _ _)
      | (with_reducible exact LeO.refl _)
      | (with_reducible exact LeO.none _)
      | (with_reducible refine LeO.ite ?_ ?_)
      | (with_reducible refine LeO.bind ?_ (fun _ => ?_))
      | exact ih0 _ _ _
      | exact LeO.none _
      | refine LeO.ite ?_ ?_
      | refine LeO.bind ?_ (fun _ => ?_)
theorem storagebarterref28_Same.mono : ∀ a0 a1 k, LeO (storagebarterref28_Same.f k a0 a1) (storagebarterref28_Same.f (k + 1) a0 a1) := by
  intro a0 a1 k
  have ih0 := storagebarterref28_Same.mono_l k
  unfold storagebarterref28_Same.f
  repeat' first
      | (with_reducible exact ih0 _ _ _)
      | (with_reducible exact LeO.refl _)
      | (with_reducible exact LeO.none _)
      | (with_reducible refine LeO.ite ?_ ?_)
      | (with_reducible refine LeO.bind ?_ (fun _ => ?_))
      | exact ih0 _ _ _
      | exact LeO.none _
      | refine LeO.ite ?_ ?_
      | refine LeO.bind ?_ (fun _ => ?_)
set_option maxHeartbeats 8000000 in
set_option maxRecDepth 100000 in
theorem storagebarterref28_Same.calls (k : Nat) (A0 : Option Addr) (c0 : Nat) (l0 : List (S42)) (A1 : Option Addr) (c1 : Nat) (l1 : List (S42)) (r : Bool) (w : World) (hr0 : Kd.C k42 w A0 l0.length l0) (hc0 : l0.length ≤ c0) (hr1 : Kd.C k42 w A1 l1.length l1) (hc1 : l1.length ≤ c1) (h : storagebarterref28_Same.f k l0 l1 = some r) :
    Calls Tryd.prog 12 #[.slice A0 l0.length c0, .slice A1 l1.length c1] w fun e w' => e = .returned (.bool r) ∧ Drawn0 w w' := by
  have hu42 := Tryd.underlying42
  have HR0 := Aside0.mk hr0
  have HC0 := Aside0.mk hc0
  clear hr0 hc0
  have HR1 := Aside0.mk hr1
  have HC1 := Aside0.mk hc1
  clear hr1 hc1
  have H : (if (l0.length : Int) = (l1.length : Int) then (storagebarterref28_Same.l0 k l0 l1 0) else (some false)) = some r := h
  clear h
  by_cases c3 : (l0.length : Int) = (l1.length : Int)
  ·rw [if_pos c3] at H
   have c3b0 : ((l0.length : Int) == (l1.length : Int)) = true := beq_iff_eq.mpr c3
   have c3b1 : ((l0.length : Int) != (l1.length : Int)) = false := bne_eq_false_iff_eq.mpr c3
   have c3b2 : (l0.length == l1.length) = true := by first | simpa using c3 | (simp at c3 ⊢; omega)
   clear c3
   have H' := Aside0.mk H
   clear H
   go_enter Tryd.func12, Tryd.ntmps12
   go_wp2
   repeat (go_quiet (fail); try go_wp2)
   go_loopg [5] k (fun kq v5 w' => ∃ (x5_1 : Int), v5 = .int .i64 x5_1 ∧ Aside0 (storagebarterref28_Same.l0 kq l0 l1 x5_1 = some r) ∧ Aside0 (kq ≤ k) ∧ Drawn0 w w')
   case atStart => exact ⟨(0), (by first | rfl | (simp; done) | (simp [*]; done)), H', ⟨Nat.le_refl _⟩, by repeat (first | exact Drawn0.refl _ | apply Drawn0.step)⟩
   case round =>
    clear H'
    try clear c1
    try clear p2
    try clear c3
    try clear c3b0
    try clear c3b1
    try clear c3b2
    obtain ⟨x5_1, rfl, HA, HK1, ⟨m1, rfl⟩⟩ := hrel
    cases gk with
    | zero => exact absurd HA.out (by simp [storagebarterref28_Same.l0])
    | succ k1 =>
     have H := HA.out
     clear HA
     simp only [storagebarterref28_Same.l0] at H
     by_cases c4 : x5_1 < (l0.length : Int)
     ·rw [if_pos c4] at H
      have c4b0 : decide (x5_1 < (l0.length : Int)) = true := decide_eq_true c4
      clear c4
      by_cases c5 : 0 ≤ x5_1
      ·rw [if_pos c5] at H
       have c5b0 : decide (0 ≤ x5_1) = true := decide_eq_true c5
       clear c5
       by_cases c6 : x5_1 < (l1.length : Int)
       ·rw [if_pos c6] at H
        have c6b0 : decide (x5_1 < (l1.length : Int)) = true := decide_eq_true c6
        clear c6
        by_cases c7 : (!(((rd_T42 l0 x5_1).f0) == ((rd_T42 l1 x5_1).f0)) || (!(((rd_T42 l0 x5_1).f1) == ((rd_T42 l1 x5_1).f1)) || (!(((rd_T42 l0 x5_1).f2) == ((rd_T42 l1 x5_1).f2)) || (!(((rd_T42 l0 x5_1).f3) == ((rd_T42 l1 x5_1).f3)))))) = true
        ·rw [if_pos c7] at H
         have c7b0 : (!(((rd_T42 l0 x5_1).f0) == ((rd_T42 l1 x5_1).f0)) || (!(((rd_T42 l0 x5_1).f1) == ((rd_T42 l1 x5_1).f1)) || (!(((rd_T42 l0 x5_1).f2) == ((rd_T42 l1 x5_1).f2)) || (!(((rd_T42 l0 x5_1).f3) == ((rd_T42 l1 x5_1).f3)))))) = true := c7
         clear c7
         obtain rfl := Option.some.inj H
         have p297 : 0 ≤ (x5_1 : Int) := of_decide_eq_true (by first | (with_reducible assumption) | assumption)
         have q297 : x5_1 < (l0.length : Int) := of_decide_eq_true (by first | (with_reducible assumption) | assumption)
         obtain ⟨ad297, e297, hx297_0, hx297_1, hx297_2, hx297_3⟩ := at_T42 HR0.out x5_1 p297 q297
         cases e297
         replace p297 := eq_true p297
         replace q297 := eq_true q297
         have p298 : 0 ≤ (x5_1 : Int) := of_decide_eq_true (by first | (with_reducible assumption) | assumption)
         have q298 : x5_1 < (l1.length : Int) := of_decide_eq_true (by first | (with_reducible assumption) | assumption)
         obtain ⟨ad298, e298, hx298_0, hx298_1, hx298_2, hx298_3⟩ := at_T42 HR1.out x5_1 p298 q298
         cases e298
         replace p298 := eq_true p298
         replace q298 := eq_true q298
         go_wp2
         repeat (go_quiet (fail); try go_wp2)
         go_ret
         exact ⟨by first | rfl | (simp; done) | (simp [*]; done), by repeat (first | exact Drawn0.refl _ | apply Drawn0.step)⟩
        ·rw [if_neg c7] at H
         have c7b0 : (!(((rd_T42 l0 x5_1).f0) == ((rd_T42 l1 x5_1).f0)) || (!(((rd_T42 l0 x5_1).f1) == ((rd_T42 l1 x5_1).f1)) || (!(((rd_T42 l0 x5_1).f2) == ((rd_T42 l1 x5_1).f2)) || (!(((rd_T42 l0 x5_1).f3) == ((rd_T42 l1 x5_1).f3)))))) = false := by simpa using c7
         clear c7
         have H' := Aside0.mk H
         clear H
         have p297 : 0 ≤ (x5_1 : Int) := of_decide_eq_true (by first | (with_reducible assumption) | assumption)
         have q297 : x5_1 < (l0.length : Int) := of_decide_eq_true (by first | (with_reducible assumption) | assumption)
         obtain ⟨ad297, e297, hx297_0, hx297_1, hx297_2, hx297_3⟩ := at_T42 HR0.out x5_1 p297 q297
         cases e297
         replace p297 := eq_true p297
         replace q297 := eq_true q297
         have p298 : 0 ≤ (x5_1 : Int) := of_decide_eq_true (by first | (with_reducible assumption) | assumption)
         have q298 : x5_1 < (l1.length : Int) := of_decide_eq_true (by first | (with_reducible assumption) | assumption)
         obtain ⟨ad298, e298, hx298_0, hx298_1, hx298_2, hx298_3⟩ := at_T42 HR1.out x5_1 p298 q298
         cases e298
         replace p298 := eq_true p298
         replace q298 := eq_true q298
         go_wp2
         repeat (go_quiet (fail); try go_wp2)
         go_roundg k1
         case measure => have := HK1.out; omega
         case rel => exact ⟨(wrap64 (x5_1 + 1)), (by first | rfl | (simp; done) | (simp [*]; done)), H', ⟨by have := HK1.out; omega⟩, by repeat (first | exact Drawn0.refl _ | apply Drawn0.step)⟩
       ·rw [if_neg c6] at H
        exact absurd H (by simp)
      ·rw [if_neg c5] at H
       exact absurd H (by simp)
     ·rw [if_neg c4] at H
      have c4b0 : decide (x5_1 < (l0.length : Int)) = false := decide_eq_false c4
      clear c4
      obtain rfl := Option.some.inj H
      go_wp2
      repeat (go_quiet (fail); try go_wp2)
      go_ret
      exact ⟨by first | rfl | (simp; done) | (simp [*]; done), by repeat (first | exact Drawn0.refl _ | apply Drawn0.step)⟩
  ·rw [if_neg c3] at H
   have c3b0 : ((l0.length : Int) == (l1.length : Int)) = false := beq_eq_false_iff_ne.mpr c3
   have c3b1 : ((l0.length : Int) != (l1.length : Int)) = true := bne_iff_ne.mpr c3
   have c3b2 : (l0.length == l1.length) = false := by first | simpa using c3 | (simp at c3 ⊢; omega)
   obtain rfl := Option.some.inj H
   go_enter Tryd.func12, Tryd.ntmps12
   go_wp2
   repeat (go_quiet (fail); try go_wp2)
   go_ret
   exact ⟨by first | rfl | (simp; done) | (simp [*]; done), by repeat (first | exact Drawn0.refl _ | apply Drawn0.step)⟩

end Go.Proofs.YtccchkjbcokfnaaDoor.PDutyMerges
