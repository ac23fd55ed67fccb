-- Written by drive.py of this work: the kit's print.py with contracts of this work laid in.
import Derived.Test.YtealjhngfhlpaaaPBoundCountsx0
namespace Go.Proofs.Ytealjhngfhlpaaa.PBoundCounts
open Go.RowKit Go.Proofs.YtealjhngfhlpaaaW.PrintWords Go.Proofs.YtealjhngfhlpaaaW.PrintLast Go.Proofs.YtealjhngfhlpaaaW.PrintMore
attribute [local go_sem] max2_int min2_int max_two min_two max_three min_three max_four min_four   -- for this text's walks alone
set_option linter.unusedVariables false
set_option linter.unusedSimpArgs false

/-! ### bastilleref33_Large: function 32 -/
mutual
def bastilleref33_Large.l0 : Nat → Int → Int → Int → List (S101) → List (S103) → List (S45) → Option (Int)
  | 0, _, _, _, _, _, _ => none
  | k + 1, x3, x4, x164000, x164001, x164002, x164003 => if x4 < (x164003.length : Int) then (if 0 ≤ x4 then (bastilleref33_Large.l1 k (wrap64 ((wrap64 (x3 + (((rd_T45 x164003 x4).f2).length : Int))) + (((rd_T45 x164003 x4).f3).length : Int))) x4 0 x164000 x164001 x164002 x164003 ((rd_T45 x164003 x4).f0) ((rd_T45 x164003 x4).f1) ((rd_T45 x164003 x4).f2) ((rd_T45 x164003 x4).f3) ((rd_T45 x164003 x4).f4) ((rd_T45 x164003 x4).f5) ((rd_T45 x164003 x4).f6)) else (none)) else (some x3)
def bastilleref33_Large.l1 : Nat → Int → Int → Int → Int → List (S101) → List (S103) → List (S45) → ByteArray → Int → List (S113) → List (S116) → List (S108) → List (S137) → List (S139) → Option (Int)
  | 0, _, _, _, _, _, _, _, _, _, _, _, _, _, _ => none
  | k + 1, x3, x4, x6, x164000, x164001, x164002, x164003, x166000, x166001, x166002, x166003, x166004, x166005, x166006 => if x6 < (x166004.length : Int) then (if 0 ≤ x6 then (bastilleref33_Large.l1 k (wrap64 (x3 + (((rd_T108 x166004 x6).f1).length : Int))) x4 (wrap64 (x6 + 1)) x164000 x164001 x164002 x164003 x166000 x166001 x166002 x166003 x166004 x166005 x166006) else (none)) else (bastilleref33_Large.l0 k x3 (wrap64 (x4 + 1)) x164000 x164001 x164002 x164003)
end
def bastilleref33_Large.f (k : Nat) (a0_0 : Int) (l0_1 : List (S101)) (l0_2 : List (S103)) (l0_3 : List (S45)) : Option (Int) := bastilleref33_Large.l0 k 0 0 a0_0 l0_1 l0_2 l0_3
theorem bastilleref33_Large.mono_l : ∀ k, (∀ y0 y1 y2 y3 y4 y5, LeO (bastilleref33_Large.l0 k y0 y1 y2 y3 y4 y5) (bastilleref33_Large.l0 (k + 1) y0 y1 y2 y3 y4 y5)) ∧ (∀ y0 y1 y2 y3 y4 y5 y6 y7 y8 y9 y10 y11 y12 y13, LeO (bastilleref33_Large.l1 k y0 y1 y2 y3 y4 y5 y6 y7 y8 y9 y10 y11 y12 y13) (bastilleref33_Large.l1 (k + 1) y0 y1 y2 y3 y4 y5 y6 y7 y8 y9 y10 y11 y12 y13))
  | 0 => ⟨fun _ _ _ _ _ _ r h => by simp [bastilleref33_Large.l0] at h, fun _ _ _ _ _ _ _ _ _ _ _ _ _ _ r h => by simp [bastilleref33_Large.l1] at h⟩
  | k + 1 => by
    obtain ⟨ih0, ih1⟩ := bastilleref33_Large.mono_l k
    refine ⟨?_, ?_⟩
    · intro y0 y1 y2 y3 y4 y5
      unfold bastilleref33_Large.l0
      repeat' first
      | (with_reducible exact ih0 _ _ _ _ _ _)
      | (with_reducible exact ih1 _ _ _ _ _ _ _ _ _ _ _ _ _ _)
      | (with_reducible exact LeO.refl _)
      | (with_reducible exact LeO.none _)
      | (with_reducible refine LeO.ite ?_ ?_)
      | (with_reducible refine LeO.bind ?_ (fun _ => ?_))
      | exact ih0 _ _ _ _ _ _
      | exact ih1 _ _ _ _ _ _ _ _ _ _ _ _ _ _
      | exact LeO.none _
      | refine LeO.ite ?_ ?_
      | refine LeO.bind ?_ (fun _ => ?_)
    · intro y0 y1 y2 y3 y4 y5 y6 y7 y8 y9 y10 y11 y12 y13
      unfold bastilleref33_Large.l1
      repeat' first
      | (with_reducible exact ih0 _ _ _ _ _ _)
      | (with_reducible exact ih1 _ _ _ _ _ _ _ _ _ _ _ _ _ _)
      | (with_reducible exact LeO.refl _)
      | (with_reducible exact LeO.none _)
      | (with_reducible refine LeO.ite ?_ ?_)
      | (with_reducible refine LeO.bind ?_ (fun _ => ?_))
      | exact ih0 _ _ _ _ _ _
      | exact ih1 _ _ _ _ _ _ _ _ _ _ _ _ _ _
      | exact LeO.none _
      | refine LeO.ite ?_ ?_
      | refine LeO.bind ?_ (fun _ => ?_)
theorem bastilleref33_Large.mono : ∀ a0 a1 a2 a3 k, LeO (bastilleref33_Large.f k a0 a1 a2 a3) (bastilleref33_Large.f (k + 1) a0 a1 a2 a3) := by
  intro a0 a1 a2 a3 k
  obtain ⟨ih0, ih1⟩ := bastilleref33_Large.mono_l k
  unfold bastilleref33_Large.f
  repeat' first
      | (with_reducible exact ih0 _ _ _ _ _ _)
      | (with_reducible exact ih1 _ _ _ _ _ _ _ _ _ _ _ _ _ _)
      | (with_reducible exact LeO.refl _)
      | (with_reducible exact LeO.none _)
      | (with_reducible refine LeO.ite ?_ ?_)
      | (with_reducible refine LeO.bind ?_ (fun _ => ?_))
      | exact ih0 _ _ _ _ _ _
      | exact ih1 _ _ _ _ _ _ _ _ _ _ _ _ _ _
      | exact LeO.none _
      | refine LeO.ite ?_ ?_
      | refine LeO.bind ?_ (fun _ => ?_)
set_option maxHeartbeats 8000000 in
set_option maxRecDepth 100000 in
theorem bastilleref33_Large.calls (k : Nat) (a0_0 : Int) (A0_1 : Option Addr) (c0_1 : Nat) (l0_1 : List (S101)) (A0_2 : Option Addr) (c0_2 : Nat) (l0_2 : List (S103)) (A0_3 : Option Addr) (c0_3 : Nat) (l0_3 : List (S45)) (r : Int) (w : World) (hr0_1 : Kd.C k101 w A0_1 l0_1.length l0_1) (hc0_1 : l0_1.length ≤ c0_1) (hr0_2 : Kd.C k103 w A0_2 l0_2.length l0_2) (hc0_2 : l0_2.length ≤ c0_2) (hr0_3 : Kd.C k45 w A0_3 l0_3.length l0_3) (hc0_3 : l0_3.length ≤ c0_3) (h : bastilleref33_Large.f k a0_0 l0_1 l0_2 l0_3 = some r) :
    Calls Try.prog 32 #[.agg #[.int .i64 a0_0, .slice A0_1 l0_1.length c0_1, .slice A0_2 l0_2.length c0_2, .slice A0_3 l0_3.length c0_3]] w fun e w' => e = .returned (.int .i64 r) ∧ Below w.heap.size w w' := by
  have hu35 := Try.underlying35
  have hu45 := Try.underlying45
  have HR0_1 := Aside0.mk hr0_1
  have HC0_1 := Aside0.mk hc0_1
  clear hr0_1 hc0_1
  have HR0_2 := Aside0.mk hr0_2
  have HC0_2 := Aside0.mk hc0_2
  clear hr0_2 hc0_2
  have HR0_3 := Aside0.mk hr0_3
  have HC0_3 := Aside0.mk hc0_3
  clear hr0_3 hc0_3
  have HB := Aside0.mk (Below.refl w.heap.size w)
  have H : (bastilleref33_Large.l0 k 0 0 a0_0 l0_1 l0_2 l0_3) = some r := h
  clear h
  have H' := Aside0.mk H
  clear H
  go_enter Try.func32, Try.ntmps32
  go_wp2_with (first | ((with_reducible refine gate_dst (N := 1) rfl ?_); refine box_event ?hg (N := 1) ?hd (cs := #[.int .i64 a0_0, .slice A0_1 l0_1.length c0_1, .slice A0_2 l0_2.length c0_2, .slice A0_3 l0_3.length c0_3]) (t := 35) ?hr ?_; (case hd => rfl); (case hg => rfl); (case hr => first | (go_simp; done) | (go_simp; rfl)); intro gb163 hg w2 hbox hb; have n0_ := Aside0.mk (below_step (by repeat (first | (with_reducible first | exact HB.out | apply below_alloc | apply pw_below_drewN | apply below_drew1) | exact HB.out)) hb); have n1_ := Aside0.mk (hbox); have n2_ := Aside0.mk ((by rw [hg]; exact (below_size (by repeat (first | (with_reducible first | exact HB.out | apply below_alloc | apply pw_below_drewN | apply below_drew1) | exact HB.out))) : w.heap.size ≤ gb163)); have n3_ := Aside0.mk ((by rw [hg]; exact (below_size (by repeat (first | (with_reducible first | exact HB.out | apply below_alloc | apply pw_below_drewN | apply below_drew1) | exact HB.out))) : w.heap.size ≤ gb163)); clear HB; have HB := n0_; have BK163 := n1_; have GW163 := n2_; have GE163 := n3_; clear n0_ n1_ n2_ n3_; clear hb hbox hg))
  go_loopg [3, 4] k (fun kq v3 v4 w' => ∃ (x3_1 : Int) (x4_1 : Int), v3 = .int .i64 x3_1 ∧ v4 = .int .i64 x4_1 ∧ Aside0 (bastilleref33_Large.l0 kq x3_1 x4_1 a0_0 l0_1 l0_2 l0_3 = some r) ∧ Aside0 (kq ≤ k) ∧ Aside0 (w'.heap[gb163]? = some (.cells #[.int .i64 a0_0, (.slice A0_1 l0_1.length c0_1), (.slice A0_2 l0_2.length c0_2), (.slice A0_3 l0_3.length c0_3)] 35 (0, 0))) ∧ Aside0 (Below w.heap.size w w'))
  case atStart => exact ⟨(0), (0), (by first | rfl | (simp; done) | (simp [*]; done)), (by first | rfl | (simp; done) | (simp [*]; done)), H', ⟨Nat.le_refl _⟩, ⟨by (with_reducible repeat (first | refine blk_drewN ?_ _ | refine blk_drew ?_ | refine blk_alloc ?_ _)); exact BK163.out⟩, ⟨by repeat (first | (with_reducible first | exact HB.out | apply below_alloc | apply pw_below_drewN | apply below_drew1 | refine below_set ?_ GE163.out) | exact HB.out)⟩⟩
  case round =>
    clear H'
    try clear p2
    obtain ⟨x3_1, x4_1, rfl, rfl, HA, HK1, BK163, HB⟩ := hrel
    cases gk with
    | zero => exact absurd HA.out (by simp [bastilleref33_Large.l0])
    | succ k1 =>
      have H := HA.out
      clear HA
      simp only [bastilleref33_Large.l0] at H
      by_cases c3 : x4_1 < (l0_3.length : Int)
      · rw [if_pos c3] at H
        have c3b0 : decide (x4_1 < (l0_3.length : Int)) = true := decide_eq_true c3
        clear c3
        by_cases c4 : 0 ≤ x4_1
        · rw [if_pos c4] at H
          have c4b0 : decide (0 ≤ x4_1) = true := decide_eq_true c4
          clear c4
          have H' := Aside0.mk H
          clear H
          have hcz5_0 : wr.cell? ⟨gb163, 0, none⟩ = some (.int .i64 a0_0) := (blk_cell BK163.out 0).trans rfl
          have hcz5_1 : wr.cell? ⟨gb163, 1, none⟩ = some (.slice A0_1 l0_1.length c0_1) := (blk_cell BK163.out 1).trans rfl
          have hcz5_2 : wr.cell? ⟨gb163, 2, none⟩ = some (.slice A0_2 l0_2.length c0_2) := (blk_cell BK163.out 2).trans rfl
          have hcz5_3 : wr.cell? ⟨gb163, 3, none⟩ = some (.slice A0_3 l0_3.length c0_3) := (blk_cell BK163.out 3).trans rfl
          have hfz5_0 := blk_frozen BK163.out 0
          have hfz5_1 := blk_frozen BK163.out 1
          have hfz5_2 := blk_frozen BK163.out 2
          have hfz5_3 := blk_frozen BK163.out 3
          have p164 : 0 ≤ (x4_1 : Int) := of_decide_eq_true (by first | (with_reducible assumption) | assumption)
          have q164 : x4_1 < (l0_3.length : Int) := of_decide_eq_true (by first | (with_reducible assumption) | assumption)
          obtain ⟨ad164, A164_2, c164_2, A164_3, c164_3, A164_4, c164_4, A164_5, c164_5, A164_6, c164_6, e164, hx164_0, hx164_1, hx164_2, hx164_3, hx164_4, hx164_5, hx164_6, hl164_2, hi164_2, hl164_3, hi164_3, hl164_4, hi164_4, hl164_5, hi164_5, hl164_6, hi164_6⟩ := at_T45 HR0_3.out x4_1 p164 q164
          cases e164
          replace hx164_0 := (HB.out.cell (World.block_lt_of_cell? w _ hx164_0)).trans hx164_0
          replace hx164_1 := (HB.out.cell (World.block_lt_of_cell? w _ hx164_1)).trans hx164_1
          replace hx164_2 := (HB.out.cell (World.block_lt_of_cell? w _ hx164_2)).trans hx164_2
          replace hx164_3 := (HB.out.cell (World.block_lt_of_cell? w _ hx164_3)).trans hx164_3
          replace hx164_4 := (HB.out.cell (World.block_lt_of_cell? w _ hx164_4)).trans hx164_4
          replace hx164_5 := (HB.out.cell (World.block_lt_of_cell? w _ hx164_5)).trans hx164_5
          replace hx164_6 := (HB.out.cell (World.block_lt_of_cell? w _ hx164_6)).trans hx164_6
          have HR164_2 := Aside0.mk hi164_2
          have HC164_2 := Aside0.mk hl164_2
          clear hi164_2 hl164_2
          have HR164_3 := Aside0.mk hi164_3
          have HC164_3 := Aside0.mk hl164_3
          clear hi164_3 hl164_3
          have HR164_4 := Aside0.mk hi164_4
          have HC164_4 := Aside0.mk hl164_4
          clear hi164_4 hl164_4
          have HR164_5 := Aside0.mk hi164_5
          have HC164_5 := Aside0.mk hl164_5
          clear hi164_5 hl164_5
          have HR164_6 := Aside0.mk hi164_6
          have HC164_6 := Aside0.mk hl164_6
          clear hi164_6 hl164_6
          replace p164 := eq_true p164
          replace q164 := eq_true q164
          go_wp2_with (first | ((with_reducible refine gate_dst (N := 5) rfl ?_); refine box_event ?hg (N := 5) ?hd (cs := #[.string (⟨#[]⟩ : ByteArray), .int .i64 0, .slice none 0 0, .slice none 0 0, .slice none 0 0, .slice none 0 0, .slice none 0 0]) (t := 45) ?hr ?_; (case hd => rfl); (case hg => rfl); (case hr => first | (go_simp; done) | (go_simp; rfl)); intro gb165 hg w6 hbox hb; have n0_ := Aside0.mk (blk_below (g := gb163) (o := .cells #[.int .i64 a0_0, .slice A0_1 l0_1.length c0_1, .slice A0_2 l0_2.length c0_2, .slice (some ad164) l0_3.length c0_3] 35 (0, 0)) (by (with_reducible repeat (first | refine blk_drewN ?_ _ | refine blk_drew ?_ | refine blk_alloc ?_ _)); exact BK163.out) hb); have n1_ := Aside0.mk (below_step (by repeat (first | (with_reducible first | exact HB.out | apply below_alloc | apply pw_below_drewN | apply below_drew1 | refine below_set ?_ GE163.out) | exact HB.out)) hb); have n2_ := Aside0.mk (hbox); have n3_ := Aside0.mk ((by rw [hg]; exact (below_size (by repeat (first | (with_reducible first | exact HB.out | apply below_alloc | apply pw_below_drewN | apply below_drew1 | refine below_set ?_ GE163.out) | exact HB.out))) : w.heap.size ≤ gb165)); have n4_ := Aside0.mk ((by rw [hg]; exact (below_size (by repeat (first | (with_reducible first | exact HB.out | apply below_alloc | apply pw_below_drewN | apply below_drew1 | refine below_set ?_ GE163.out) | exact HB.out))) : w.heap.size ≤ gb165)); have n5_ := Aside0.mk ((by rw [hg]; exact Nat.ne_of_lt (blk_lt (g := gb163) (o := .cells #[.int .i64 a0_0, .slice A0_1 l0_1.length c0_1, .slice A0_2 l0_2.length c0_2, .slice (some ad164) l0_3.length c0_3] 35 (0, 0)) (by (with_reducible repeat (first | refine blk_drewN ?_ _ | refine blk_drew ?_ | refine blk_alloc ?_ _)); exact BK163.out)) : gb163 ≠ gb165)); have n6_ := Aside0.mk ((by rw [hg]; exact Nat.ne_of_gt (blk_lt (g := gb163) (o := .cells #[.int .i64 a0_0, .slice A0_1 l0_1.length c0_1, .slice A0_2 l0_2.length c0_2, .slice (some ad164) l0_3.length c0_3] 35 (0, 0)) (by (with_reducible repeat (first | refine blk_drewN ?_ _ | refine blk_drew ?_ | refine blk_alloc ?_ _)); exact BK163.out)) : gb165 ≠ gb163)); clear BK163; clear HB; have BK163 := n0_; have HB := n1_; have BK165 := n2_; have GW165 := n3_; have GE165 := n4_; have NB163_165 := n5_; have NB165_163 := n6_; clear n0_ n1_ n2_ n3_ n4_ n5_ n6_; clear hb hbox hg; have hnb7 := NB165_163.out; have hnc7 := NB163_165.out; have hcz8_0 : w6.cell? ⟨gb165, 0, none⟩ = some (.string (⟨#[]⟩ : ByteArray)) := (blk_cell BK165.out 0).trans rfl; have hcz8_1 : w6.cell? ⟨gb165, 1, none⟩ = some (.int .i64 0) := (blk_cell BK165.out 1).trans rfl; have hcz8_2 : w6.cell? ⟨gb165, 2, none⟩ = some (.slice none 0 0) := (blk_cell BK165.out 2).trans rfl; have hcz8_3 : w6.cell? ⟨gb165, 3, none⟩ = some (.slice none 0 0) := (blk_cell BK165.out 3).trans rfl; have hcz8_4 : w6.cell? ⟨gb165, 4, none⟩ = some (.slice none 0 0) := (blk_cell BK165.out 4).trans rfl; have hcz8_5 : w6.cell? ⟨gb165, 5, none⟩ = some (.slice none 0 0) := (blk_cell BK165.out 5).trans rfl; have hcz8_6 : w6.cell? ⟨gb165, 6, none⟩ = some (.slice none 0 0) := (blk_cell BK165.out 6).trans rfl; have hfz8_0 := blk_frozen BK165.out 0; have hfz8_1 := blk_frozen BK165.out 1; have hfz8_2 := blk_frozen BK165.out 2; have hfz8_3 := blk_frozen BK165.out 3; have hfz8_4 := blk_frozen BK165.out 4; have hfz8_5 := blk_frozen BK165.out 5; have hfz8_6 := blk_frozen BK165.out 6))
          go_loopg [3, 6] k1 (fun kq v3 v6 w' => ∃ (x3_2 : Int) (x6_2 : Int), v3 = .int .i64 x3_2 ∧ v6 = .int .i64 x6_2 ∧ Aside0 (bastilleref33_Large.l1 kq x3_2 x4_1 x6_2 a0_0 l0_1 l0_2 l0_3 ((rd_T45 l0_3 x4_1).f0) ((rd_T45 l0_3 x4_1).f1) ((rd_T45 l0_3 x4_1).f2) ((rd_T45 l0_3 x4_1).f3) ((rd_T45 l0_3 x4_1).f4) ((rd_T45 l0_3 x4_1).f5) ((rd_T45 l0_3 x4_1).f6) = some r) ∧ Aside0 (kq ≤ k1) ∧ Aside0 (w'.heap[gb163]? = some (.cells #[.int .i64 a0_0, (.slice A0_1 l0_1.length c0_1), (.slice A0_2 l0_2.length c0_2), (.slice (some ad164) l0_3.length c0_3)] 35 (0, 0))) ∧ Aside0 (w'.heap[gb165]? = some (.cells #[.string ((rd_T45 l0_3 x4_1).f0), .int .i64 ((rd_T45 l0_3 x4_1).f1), (.slice A164_2 ((rd_T45 l0_3 x4_1).f2).length c164_2), (.slice A164_3 ((rd_T45 l0_3 x4_1).f3).length c164_3), (.slice A164_4 ((rd_T45 l0_3 x4_1).f4).length c164_4), (.slice A164_5 ((rd_T45 l0_3 x4_1).f5).length c164_5), (.slice A164_6 ((rd_T45 l0_3 x4_1).f6).length c164_6)] 45 (0, 0))) ∧ Aside0 (Below w.heap.size w w'))
          case atStart => exact ⟨(wrap64 ((wrap64 (x3_1 + (((rd_T45 l0_3 x4_1).f2).length : Int))) + (((rd_T45 l0_3 x4_1).f3).length : Int))), (0), (by first | rfl | (simp; done) | (simp [*]; done)), (by first | rfl | (simp; done) | (simp [*]; done)), H', ⟨Nat.le_refl _⟩, ⟨by (with_reducible repeat (first | refine blk_drewN ?_ _ | refine blk_drew ?_ | refine blk_alloc ?_ _)); refine blk_far ?_ NB163_165.out _; (with_reducible repeat (first | refine blk_drewN ?_ _ | refine blk_drew ?_ | refine blk_alloc ?_ _)); refine blk_far ?_ NB163_165.out _; (with_reducible repeat (first | refine blk_drewN ?_ _ | refine blk_drew ?_ | refine blk_alloc ?_ _)); refine blk_far ?_ NB163_165.out _; (with_reducible repeat (first | refine blk_drewN ?_ _ | refine blk_drew ?_ | refine blk_alloc ?_ _)); refine blk_far ?_ NB163_165.out _; (with_reducible repeat (first | refine blk_drewN ?_ _ | refine blk_drew ?_ | refine blk_alloc ?_ _)); refine blk_far ?_ NB163_165.out _; (with_reducible repeat (first | refine blk_drewN ?_ _ | refine blk_drew ?_ | refine blk_alloc ?_ _)); refine blk_far ?_ NB163_165.out _; (with_reducible repeat (first | refine blk_drewN ?_ _ | refine blk_drew ?_ | refine blk_alloc ?_ _)); refine blk_far ?_ NB163_165.out _; (with_reducible repeat (first | refine blk_drewN ?_ _ | refine blk_drew ?_ | refine blk_alloc ?_ _)); exact BK163.out⟩, ⟨by (with_reducible repeat (first | refine blk_drewN ?_ _ | refine blk_drew ?_ | refine blk_alloc ?_ _)); refine blk_put (cs := #[.string ((rd_T45 l0_3 x4_1).f0), .int .i64 ((rd_T45 l0_3 x4_1).f1), .slice A164_2 ((rd_T45 l0_3 x4_1).f2).length c164_2, .slice A164_3 ((rd_T45 l0_3 x4_1).f3).length c164_3, .slice A164_4 ((rd_T45 l0_3 x4_1).f4).length c164_4, .slice A164_5 ((rd_T45 l0_3 x4_1).f5).length c164_5, .slice none 0 0]) ?_ 6 _ rfl; (with_reducible repeat (first | refine blk_drewN ?_ _ | refine blk_drew ?_ | refine blk_alloc ?_ _)); refine blk_put (cs := #[.string ((rd_T45 l0_3 x4_1).f0), .int .i64 ((rd_T45 l0_3 x4_1).f1), .slice A164_2 ((rd_T45 l0_3 x4_1).f2).length c164_2, .slice A164_3 ((rd_T45 l0_3 x4_1).f3).length c164_3, .slice A164_4 ((rd_T45 l0_3 x4_1).f4).length c164_4, .slice none 0 0, .slice none 0 0]) ?_ 5 _ rfl; (with_reducible repeat (first | refine blk_drewN ?_ _ | refine blk_drew ?_ | refine blk_alloc ?_ _)); refine blk_put (cs := #[.string ((rd_T45 l0_3 x4_1).f0), .int .i64 ((rd_T45 l0_3 x4_1).f1), .slice A164_2 ((rd_T45 l0_3 x4_1).f2).length c164_2, .slice A164_3 ((rd_T45 l0_3 x4_1).f3).length c164_3, .slice none 0 0, .slice none 0 0, .slice none 0 0]) ?_ 4 _ rfl; (with_reducible repeat (first | refine blk_drewN ?_ _ | refine blk_drew ?_ | refine blk_alloc ?_ _)); refine blk_put (cs := #[.string ((rd_T45 l0_3 x4_1).f0), .int .i64 ((rd_T45 l0_3 x4_1).f1), .slice A164_2 ((rd_T45 l0_3 x4_1).f2).length c164_2, .slice none 0 0, .slice none 0 0, .slice none 0 0, .slice none 0 0]) ?_ 3 _ rfl; (with_reducible repeat (first | refine blk_drewN ?_ _ | refine blk_drew ?_ | refine blk_alloc ?_ _)); refine blk_put (cs := #[.string ((rd_T45 l0_3 x4_1).f0), .int .i64 ((rd_T45 l0_3 x4_1).f1), .slice none 0 0, .slice none 0 0, .slice none 0 0, .slice none 0 0, .slice none 0 0]) ?_ 2 _ rfl; (with_reducible repeat (first | refine blk_drewN ?_ _ | refine blk_drew ?_ | refine blk_alloc ?_ _)); refine blk_put (cs := #[.string ((rd_T45 l0_3 x4_1).f0), .int .i64 0, .slice none 0 0, .slice none 0 0, .slice none 0 0, .slice none 0 0, .slice none 0 0]) ?_ 1 _ rfl; (with_reducible repeat (first | refine blk_drewN ?_ _ | refine blk_drew ?_ | refine blk_alloc ?_ _)); refine blk_put (cs := #[.string (⟨#[]⟩ : ByteArray), .int .i64 0, .slice none 0 0, .slice none 0 0, .slice none 0 0, .slice none 0 0, .slice none 0 0]) ?_ 0 _ rfl; (with_reducible repeat (first | refine blk_drewN ?_ _ | refine blk_drew ?_ | refine blk_alloc ?_ _)); exact BK165.out⟩, ⟨by repeat (first | (with_reducible first | exact HB.out | apply below_alloc | apply pw_below_drewN | apply below_drew1 | refine below_set ?_ GE163.out | refine below_set ?_ GE165.out) | exact HB.out)⟩⟩
          case round =>
            clear H'
            try clear c1
            try clear p1
            try clear q1
            try clear hx1
            try clear p2
            try clear c3
            try clear c3b0
            try clear c4
            try clear c4b0
            try clear p6
            try clear c7
            try clear hcz5_0
            try clear hcz5_1
            try clear hcz5_2
            try clear hcz5_3
            try clear hcz8_0
            try clear hcz8_1
            try clear hcz8_2
            try clear hcz8_3
            try clear hcz8_4
            try clear hcz8_5
            try clear hcz8_6
            try clear hfz5_0
            try clear hfz5_1
            try clear hfz5_2
            try clear hfz5_3
            try clear hfz8_0
            try clear hfz8_1
            try clear hfz8_2
            try clear hfz8_3
            try clear hfz8_4
            try clear hfz8_5
            try clear hfz8_6
            try clear hx164_0
            try clear hx164_1
            try clear hx164_2
            try clear hx164_3
            try clear hx164_4
            try clear hx164_5
            try clear hx164_6
            try clear p164
            try clear p2
            try clear q164
            obtain ⟨x3_2, x6_2, rfl, rfl, HA, HK2, BK163, BK165, HB⟩ := hrel
            cases gk with
            | zero => exact absurd HA.out (by simp [bastilleref33_Large.l1])
            | succ k2 =>
              have H := HA.out
              clear HA
              simp only [bastilleref33_Large.l1] at H
              by_cases c9 : x6_2 < (((rd_T45 l0_3 x4_1).f4).length : Int)
              · rw [if_pos c9] at H
                have c9b0 : decide (x6_2 < (((rd_T45 l0_3 x4_1).f4).length : Int)) = true := decide_eq_true c9
                clear c9
                by_cases c10 : 0 ≤ x6_2
                · rw [if_pos c10] at H
                  have c10b0 : decide (0 ≤ x6_2) = true := decide_eq_true c10
                  clear c10
                  have H' := Aside0.mk H
                  clear H
                  have hnb11 := NB165_163.out
                  have hnc11 := NB163_165.out
                  have hcz12_0 : wr.cell? ⟨gb165, 0, none⟩ = some (.string ((rd_T45 l0_3 x4_1).f0)) := (blk_cell BK165.out 0).trans rfl
                  have hcz12_1 : wr.cell? ⟨gb165, 1, none⟩ = some (.int .i64 ((rd_T45 l0_3 x4_1).f1)) := (blk_cell BK165.out 1).trans rfl
                  have hcz12_2 : wr.cell? ⟨gb165, 2, none⟩ = some (.slice A164_2 ((rd_T45 l0_3 x4_1).f2).length c164_2) := (blk_cell BK165.out 2).trans rfl
                  have hcz12_3 : wr.cell? ⟨gb165, 3, none⟩ = some (.slice A164_3 ((rd_T45 l0_3 x4_1).f3).length c164_3) := (blk_cell BK165.out 3).trans rfl
                  have hcz12_4 : wr.cell? ⟨gb165, 4, none⟩ = some (.slice A164_4 ((rd_T45 l0_3 x4_1).f4).length c164_4) := (blk_cell BK165.out 4).trans rfl
                  have hcz12_5 : wr.cell? ⟨gb165, 5, none⟩ = some (.slice A164_5 ((rd_T45 l0_3 x4_1).f5).length c164_5) := (blk_cell BK165.out 5).trans rfl
                  have hcz12_6 : wr.cell? ⟨gb165, 6, none⟩ = some (.slice A164_6 ((rd_T45 l0_3 x4_1).f6).length c164_6) := (blk_cell BK165.out 6).trans rfl
                  have hfz12_0 := blk_frozen BK165.out 0
                  have hfz12_1 := blk_frozen BK165.out 1
                  have hfz12_2 := blk_frozen BK165.out 2
                  have hfz12_3 := blk_frozen BK165.out 3
                  have hfz12_4 := blk_frozen BK165.out 4
                  have hfz12_5 := blk_frozen BK165.out 5
                  have hfz12_6 := blk_frozen BK165.out 6
                  have p166 : 0 ≤ (x6_2 : Int) := of_decide_eq_true (by first | (with_reducible assumption) | assumption)
                  have q166 : x6_2 < (((rd_T45 l0_3 x4_1).f4).length : Int) := of_decide_eq_true (by first | (with_reducible assumption) | assumption)
                  obtain ⟨ad166, A166_1, c166_1, e166, hx166_0, hx166_1, hl166_1, hi166_1⟩ := at_T108 HR164_4.out x6_2 p166 q166
                  cases e166
                  replace hx166_0 := (HB.out.cell (World.block_lt_of_cell? w _ hx166_0)).trans hx166_0
                  replace hx166_1 := (HB.out.cell (World.block_lt_of_cell? w _ hx166_1)).trans hx166_1
                  have HR166_1 := Aside0.mk hi166_1
                  have HC166_1 := Aside0.mk hl166_1
                  clear hi166_1 hl166_1
                  replace p166 := eq_true p166
                  replace q166 := eq_true q166
                  go_wp2
                  go_roundg k2
                  case measure => have := HK1.out; have := HK2.out; omega
                  case rel => exact ⟨(wrap64 (x3_2 + (((rd_T108 ((rd_T45 l0_3 x4_1).f4) x6_2).f1).length : Int))), (wrap64 (x6_2 + 1)), (by first | rfl | (simp; done) | (simp [*]; done)), (by first | rfl | (simp; done) | (simp [*]; done)), H', ⟨by have := HK1.out; have := HK2.out; omega⟩, ⟨by (with_reducible repeat (first | refine blk_drewN ?_ _ | refine blk_drew ?_ | refine blk_alloc ?_ _)); exact BK163.out⟩, ⟨by (with_reducible repeat (first | refine blk_drewN ?_ _ | refine blk_drew ?_ | refine blk_alloc ?_ _)); exact BK165.out⟩, ⟨by repeat (first | (with_reducible first | exact HB.out | apply below_alloc | apply pw_below_drewN | apply below_drew1 | refine below_set ?_ GE163.out | refine below_set ?_ GE165.out) | exact HB.out)⟩⟩
                · rw [if_neg c10] at H
                  exact absurd H (by simp)
              · rw [if_neg c9] at H
                have c9b0 : decide (x6_2 < (((rd_T45 l0_3 x4_1).f4).length : Int)) = false := decide_eq_false c9
                clear c9
                have H' := Aside0.mk H
                clear H
                have hnb13 := NB165_163.out
                have hnc13 := NB163_165.out
                have hcz14_0 : wr.cell? ⟨gb165, 0, none⟩ = some (.string ((rd_T45 l0_3 x4_1).f0)) := (blk_cell BK165.out 0).trans rfl
                have hcz14_1 : wr.cell? ⟨gb165, 1, none⟩ = some (.int .i64 ((rd_T45 l0_3 x4_1).f1)) := (blk_cell BK165.out 1).trans rfl
                have hcz14_2 : wr.cell? ⟨gb165, 2, none⟩ = some (.slice A164_2 ((rd_T45 l0_3 x4_1).f2).length c164_2) := (blk_cell BK165.out 2).trans rfl
                have hcz14_3 : wr.cell? ⟨gb165, 3, none⟩ = some (.slice A164_3 ((rd_T45 l0_3 x4_1).f3).length c164_3) := (blk_cell BK165.out 3).trans rfl
                have hcz14_4 : wr.cell? ⟨gb165, 4, none⟩ = some (.slice A164_4 ((rd_T45 l0_3 x4_1).f4).length c164_4) := (blk_cell BK165.out 4).trans rfl
                have hcz14_5 : wr.cell? ⟨gb165, 5, none⟩ = some (.slice A164_5 ((rd_T45 l0_3 x4_1).f5).length c164_5) := (blk_cell BK165.out 5).trans rfl
                have hcz14_6 : wr.cell? ⟨gb165, 6, none⟩ = some (.slice A164_6 ((rd_T45 l0_3 x4_1).f6).length c164_6) := (blk_cell BK165.out 6).trans rfl
                have hfz14_0 := blk_frozen BK165.out 0
                have hfz14_1 := blk_frozen BK165.out 1
                have hfz14_2 := blk_frozen BK165.out 2
                have hfz14_3 := blk_frozen BK165.out 3
                have hfz14_4 := blk_frozen BK165.out 4
                have hfz14_5 := blk_frozen BK165.out 5
                have hfz14_6 := blk_frozen BK165.out 6
                go_wp2
                go_roundg k2
                case measure => have := HK1.out; have := HK2.out; omega
                case rel => exact ⟨(x3_2), (wrap64 (x4_1 + 1)), (by first | rfl | (simp; done) | (simp [*]; done)), (by first | rfl | (simp; done) | (simp [*]; done)), H', ⟨by have := HK1.out; have := HK2.out; omega⟩, ⟨by (with_reducible repeat (first | refine blk_drewN ?_ _ | refine blk_drew ?_ | refine blk_alloc ?_ _)); exact BK163.out⟩, ⟨by repeat (first | (with_reducible first | exact HB.out | apply below_alloc | apply pw_below_drewN | apply below_drew1 | refine below_set ?_ GE163.out | refine below_set ?_ GE165.out) | exact HB.out)⟩⟩
        · rw [if_neg c4] at H
          exact absurd H (by simp)
      · rw [if_neg c3] at H
        have c3b0 : decide (x4_1 < (l0_3.length : Int)) = false := decide_eq_false c3
        clear c3
        obtain rfl := Option.some.inj H
        have hcz15_0 : wr.cell? ⟨gb163, 0, none⟩ = some (.int .i64 a0_0) := (blk_cell BK163.out 0).trans rfl
        have hcz15_1 : wr.cell? ⟨gb163, 1, none⟩ = some (.slice A0_1 l0_1.length c0_1) := (blk_cell BK163.out 1).trans rfl
        have hcz15_2 : wr.cell? ⟨gb163, 2, none⟩ = some (.slice A0_2 l0_2.length c0_2) := (blk_cell BK163.out 2).trans rfl
        have hcz15_3 : wr.cell? ⟨gb163, 3, none⟩ = some (.slice A0_3 l0_3.length c0_3) := (blk_cell BK163.out 3).trans rfl
        have hfz15_0 := blk_frozen BK163.out 0
        have hfz15_1 := blk_frozen BK163.out 1
        have hfz15_2 := blk_frozen BK163.out 2
        have hfz15_3 := blk_frozen BK163.out 3
        go_wp2
        go_ret
        exact ⟨by first | rfl | (simp [errW_none, errW_some] <;> rfl) | (simp [*, errW_none, errW_some] <;> rfl), by repeat (first | (with_reducible first | exact HB.out | apply below_alloc | apply pw_below_drewN | apply below_drew1 | refine below_set ?_ GE163.out) | exact HB.out)⟩

end Go.Proofs.Ytealjhngfhlpaaa.PBoundCounts
