-- Written by drive.py of this work: the kit's print.py with contracts of this work laid in.
import Derived.Test.YtiibnfnjfmcggaaDoorPCallBackx0
namespace Go.Proofs.YtiibnfnjfmcggaaDoor.PCallBack
open Go.RowKit Go.Proofs.YtiibnfnjfmcggaaDoorW.PrintWords Go.Proofs.YtiibnfnjfmcggaaDoorW.PrintLast Go.Proofs.YtiibnfnjfmcggaaDoorW.PrintMore
attribute [local go_sem] max2_int min2_int max_two min_two max_three min_three max_four min_four   -- for this text's walks alone
set_option linter.unusedVariables false
set_option linter.unusedSimpArgs false

/-! ### codec_Fields: function 29 -/
mutual
def codec_Fields.j0 : Nat → List Int → Bool → Int → Int → List Int → List (S43) → Option ((List (S43)) × Bool)
  | 0, _, _, _, _, _, _ => none
  | k + 1, x1, x18, x250000, x250001, x250002, x250003 => if x18 = true then (some (([] : List (S43)), false)) else (codec_Fields.l0 k x1 (x1.length : Int) 0 x250000 x250001 x250002 x250003)
def codec_Fields.l0 : Nat → List Int → Int → Int → Int → Int → List Int → List (S43) → Option ((List (S43)) × Bool)
  | 0, _, _, _, _, _, _, _ => none
  | k + 1, x19, x20, x21, x250000, x250001, x250002, x250003 => if x21 < x20 then (if 0 ≤ x21 then (if x21 < (x19.length : Int) then (if (rd x19 x21) = 1 then (if x21 < (x250003.length : Int) then (if ((rd_T43 x250003 x21).f0) = (rd x19 x21) then (codec_Fields.l0 k x19 x20 (wrap64 (x21 + 1)) x250000 x250001 x250002 x250003) else (some (([] : List (S43)), false))) else (none)) else (if (rd x19 x21) = 2 then (if x21 < (x250003.length : Int) then (if ((rd_T43 x250003 x21).f0) = (rd x19 x21) then (codec_Fields.l0 k x19 x20 (wrap64 (x21 + 1)) x250000 x250001 x250002 x250003) else (some (([] : List (S43)), false))) else (none)) else (if x21 < (x250003.length : Int) then (if ((rd_T43 x250003 x21).f0) = (rd x19 x21) then (codec_Fields.l0 k x19 x20 (wrap64 (x21 + 1)) x250000 x250001 x250002 x250003) else (some (([] : List (S43)), false))) else (none)))) else (none)) else (none)) else (some (x250003, true))
end
def codec_Fields.f (k : Nat) (a0_0 : Int) (a0_1 : Int) (l0_2 : List Int) (l0_3 : List (S43)) (l1 : List Int) : Option ((List (S43)) × Bool) := if a0_0 = 3 then (codec_Fields.j0 k l1 ((l0_3.length : Int) != (l1.length : Int)) a0_0 a0_1 l0_2 l0_3) else (codec_Fields.j0 k l1 true a0_0 a0_1 l0_2 l0_3)
theorem codec_Fields.mono_l : ∀ k, (∀ y0 y1 y2 y3 y4 y5, LeO (codec_Fields.j0 k y0 y1 y2 y3 y4 y5) (codec_Fields.j0 (k + 1) y0 y1 y2 y3 y4 y5)) ∧ (∀ y0 y1 y2 y3 y4 y5 y6, LeO (codec_Fields.l0 k y0 y1 y2 y3 y4 y5 y6) (codec_Fields.l0 (k + 1) y0 y1 y2 y3 y4 y5 y6))
  | 0 => ⟨fun _ _ _ _ _ _ r h => by simp [codec_Fields.j0] at h, fun _ _ _ _ _ _ _ r h => by simp [codec_Fields.l0] at h⟩
  | k + 1 => by
    obtain ⟨ih0, ih1⟩ := codec_Fields.mono_l k
    refine ⟨?_, ?_⟩
    · intro y0 y1 y2 y3 y4 y5
      unfold codec_Fields.j0
      repeat' first
      | (with_reducible exact ih0 _ _ _ _ _ _)
      | (with_reducible exact ih1 _ _ _ _ _ _ _)
      | (with_reducible exact LeO.refl _)
      | (with_reducible exact LeO.none _)
      | (with_reducible refine LeO.ite ?_ ?_)
      | (with_reducible refine LeO.bind ?_ (fun _ => ?_))
      | exact ih0 _ _ _ _ _ _
      | exact ih1 _ _ _ _ _ _ _
      | exact LeO.none _
      | refine LeO.ite ?_ ?_
      | refine LeO.bind ?_ (fun _ => ?_)
    · intro y0 y1 y2 y3 y4 y5 y6
      unfold codec_Fields.l0
      repeat' first
      | (with_reducible exact ih0 _ _ _ _ _ _)
      | (with_reducible exact ih1 _ _ _ _ _ _ _)
      | (with_reducible exact LeO.refl _)
      | (with_reducible exact LeO.none _)
      | (with_reducible refine LeO.ite ?_ ?_)
      | (with_reducible refine LeO.bind ?_ (fun _ => ?_))
      | exact ih0 _ _ _ _ _ _
      | exact ih1 _ _ _ _ _ _ _
      | exact LeO.none _
      | refine LeO.ite ?_ ?_
      | refine LeO.bind ?_ (fun _ => ?_)
theorem codec_Fields.mono : ∀ a0 a1 a2 a3 a4 k, LeO (codec_Fields.f k a0 a1 a2 a3 a4) (codec_Fields.f (k + 1) a0 a1 a2 a3 a4) := by
  intro a0 a1 a2 a3 a4 k
  obtain ⟨ih0, ih1⟩ := codec_Fields.mono_l k
  unfold codec_Fields.f
  repeat' first
      | (with_reducible exact ih0 _ _ _ _ _ _)
      | (with_reducible exact ih1 _ _ _ _ _ _ _)
      | (with_reducible exact LeO.refl _)
      | (with_reducible exact LeO.none _)
      | (with_reducible refine LeO.ite ?_ ?_)
      | (with_reducible refine LeO.bind ?_ (fun _ => ?_))
      | exact ih0 _ _ _ _ _ _
      | exact ih1 _ _ _ _ _ _ _
      | exact LeO.none _
      | refine LeO.ite ?_ ?_
      | refine LeO.bind ?_ (fun _ => ?_)
set_option maxHeartbeats 8000000 in
set_option maxRecDepth 100000 in
theorem codec_Fields.calls (k : Nat) (a0_0 : Int) (a0_1 : Int) (A0_2 : Option Addr) (c0_2 : Nat) (l0_2 : List Int) (P0_3_ : Nat → Prop) (A0_3 : Option Addr) (c0_3 : Nat) (l0_3 : List (S43)) (A1 : Option Addr) (c1 : Nat) (l1 : List Int) (r1 : List (S43)) (r2 : Bool) (w : World) (hr0_2 : Kd.C (Kd.int .u8) w A0_2 l0_2.length l0_2) (hc0_2 : l0_2.length ≤ c0_2) (hs0_3 : Kd.V k43 43 w w.heap.size (fun k_ => P0_3_ k_) (.slice A0_3 l0_3.length c0_3) l0_3) (hr1 : Kd.C (Kd.int .i64) w A1 l1.length l1) (hc1 : l1.length ≤ c1) (h : codec_Fields.f k a0_0 a0_1 l0_2 l0_3 l1 = some (r1, r2)) :
    Calls Tryd.prog 29 #[.agg #[.int .i64 a0_0, .int .i64 a0_1, .slice A0_2 l0_2.length c0_2, .slice A0_3 l0_3.length c0_3], .slice A1 l1.length c1] w fun e w' => ∃ v0_ : Value, e = .returned (.tuple #[v0_, .bool r2]) ∧ Kd.V k43 43 w' w.heap.size (fun k_ => (P0_3_ k_ ∨ w.heap.size ≤ k_)) v0_ r1 ∧ Below w.heap.size w w' := by
  have hu43 := Tryd.underlying43
  have HR0_2 := Aside0.mk hr0_2
  have HC0_2 := Aside0.mk hc0_2
  clear hr0_2 hc0_2
  have HO0_3 := Aside0.mk (show Kd.V k43 43 w w.heap.size (fun k_ => (P0_3_ k_ ∨ w.heap.size ≤ k_)) (.slice A0_3 l0_3.length c0_3) l0_3 from Kd.V_mono hs0_3 (fun k_ hk => .inl hk))
  have HR1 := Aside0.mk hr1
  have HC1 := Aside0.mk hc1
  clear hr1 hc1
  have HB := Aside0.mk (Below.refl w.heap.size w)
  have H : (if a0_0 = 3 then (codec_Fields.j0 k l1 ((l0_3.length : Int) != (l1.length : Int)) a0_0 a0_1 l0_2 l0_3) else (codec_Fields.j0 k l1 true a0_0 a0_1 l0_2 l0_3)) = some (r1, r2) := h
  clear h
  have HC3 := Aside0.mk H
  clear H
  go_enter Tryd.func29, Tryd.ntmps29
  go_upto_region 1 with (first | ((with_reducible refine gate_dst (N := 2) rfl ?_); (try (refine gate_guard (by rfl) ?_; dsimp only)); refine box_event ?hg (N := 2) ?hd (cs := #[.int .i64 a0_0, .int .i64 a0_1, .slice A0_2 l0_2.length c0_2, .slice A0_3 l0_3.length c0_3]) (t := 43) ?hr ?_; (case hd => rfl); (case hg => rfl); (case hr => first | (go_simp; done) | (go_simp; rfl)); intro gb249 hg w4 hbox hb; have n0_ := Aside0.mk (Kd.V_below (Kd.V_elderB (by (with_reducible repeat (first | apply Kd.V_alloc | apply Kd.V_drewN | apply Kd.V_drew)); exact HO0_3.out) gb249 (Nat.le_of_eq hg.symm)) hb); have n1_ := Aside0.mk (below_step (by repeat (first | (with_reducible first | exact HB.out | apply below_alloc | apply pw_below_drewN | apply below_drew1) | exact HB.out)) hb); have n2_ := Aside0.mk (hbox); have n3_ := Aside0.mk ((by rw [hg]; exact (below_size (by repeat (first | (with_reducible first | exact HB.out | apply below_alloc | apply pw_below_drewN | apply below_drew1) | exact HB.out))) : w.heap.size ≤ gb249)); have n4_ := Aside0.mk ((by rw [hg]; exact (below_size (by repeat (first | (with_reducible first | exact HB.out | apply below_alloc | apply pw_below_drewN | apply below_drew1) | exact HB.out))) : w.heap.size ≤ gb249)); clear HO0_3; clear HB; have HO0_3 := n0_; have HB := n1_; have BK249 := n2_; have GW249 := n3_; have GE249 := n4_; clear n0_ n1_ n2_ n3_ n4_; clear hb hbox hg))
  (try simp only [Act.put, List.setIfInBounds_toArray, List.set_cons_zero, List.set_cons_succ])
  go_cut [18] (fun v18 wc => ∃ (kq : Nat) (x18_2 : Bool), v18 = .bool x18_2 ∧ Aside0 (codec_Fields.j0 kq l1 x18_2 a0_0 a0_1 l0_2 l0_3 = some (r1, r2)) ∧ Aside0 (kq ≤ k) ∧ Aside0 (Kd.V k43 43 wc w.heap.size (fun k_ => (P0_3_ k_ ∨ w.heap.size ≤ k_) ∧ k_ ≠ gb249) (.slice A0_3 l0_3.length c0_3) l0_3) ∧ Aside0 (wc.heap[gb249]? = some (.cells #[.int .i64 a0_0, .int .i64 a0_1, (.slice A0_2 l0_2.length c0_2), (.slice A0_3 l0_3.length c0_3)] 43 (0, 0))) ∧ Aside0 (Below w.heap.size w wc))
  case first =>
    have H := HC3.out
    clear HC3
    by_cases c5 : a0_0 = 3
    · rw [if_pos c5] at H
      have c5b0 : (a0_0 == 3) = true := beq_iff_eq.mpr c5
      have c5b1 : (a0_0 != 3) = false := bne_eq_false_iff_eq.mpr c5
      clear c5
      (first | rw [c5b0] | (simp only [i64_w, i32_w]; rw [c5b0]) | skip)
      have H' := Aside0.mk H
      clear H
      have hcz6_0 : w4.cell? ⟨gb249, 0, none⟩ = some (.int .i64 a0_0) := (blk_cell BK249.out 0).trans rfl
      have hcz6_1 : w4.cell? ⟨gb249, 1, none⟩ = some (.int .i64 a0_1) := (blk_cell BK249.out 1).trans rfl
      have hcz6_2 : w4.cell? ⟨gb249, 2, none⟩ = some (.slice A0_2 l0_2.length c0_2) := (blk_cell BK249.out 2).trans rfl
      have hcz6_3 : w4.cell? ⟨gb249, 3, none⟩ = some (.slice A0_3 l0_3.length c0_3) := (blk_cell BK249.out 3).trans rfl
      have hfz6_0 := blk_frozen BK249.out 0
      have hfz6_1 := blk_frozen BK249.out 1
      have hfz6_2 := blk_frozen BK249.out 2
      have hfz6_3 := blk_frozen BK249.out 3
      go_wp2
      go_meet
      case rel => exact ⟨_, (((l0_3.length : Int) != (l1.length : Int))), (by first | rfl | (simp; done) | (simp [*]; done)), H', ⟨by first | omega | exact Nat.le_refl _⟩, ⟨by (with_reducible repeat (first | apply Kd.V_alloc | apply Kd.V_drewN | apply Kd.V_drew)); exact HO0_3.out⟩, ⟨by (with_reducible repeat (first | refine blk_drewN ?_ _ | refine blk_drew ?_ | refine blk_alloc ?_ _)); exact BK249.out⟩, ⟨by repeat (first | (with_reducible first | exact HB.out | apply below_alloc | apply pw_below_drewN | apply below_drew1 | refine below_set ?_ GE249.out) | exact HB.out)⟩⟩
    · rw [if_neg c5] at H
      have c5b0 : (a0_0 == 3) = false := beq_eq_false_iff_ne.mpr c5
      have c5b1 : (a0_0 != 3) = true := bne_iff_ne.mpr c5
      (first | rw [c5b0] | (simp only [i64_w, i32_w]; rw [c5b0]) | skip)
      have H' := Aside0.mk H
      clear H
      have hcz7_0 : w4.cell? ⟨gb249, 0, none⟩ = some (.int .i64 a0_0) := (blk_cell BK249.out 0).trans rfl
      have hcz7_1 : w4.cell? ⟨gb249, 1, none⟩ = some (.int .i64 a0_1) := (blk_cell BK249.out 1).trans rfl
      have hcz7_2 : w4.cell? ⟨gb249, 2, none⟩ = some (.slice A0_2 l0_2.length c0_2) := (blk_cell BK249.out 2).trans rfl
      have hcz7_3 : w4.cell? ⟨gb249, 3, none⟩ = some (.slice A0_3 l0_3.length c0_3) := (blk_cell BK249.out 3).trans rfl
      have hfz7_0 := blk_frozen BK249.out 0
      have hfz7_1 := blk_frozen BK249.out 1
      have hfz7_2 := blk_frozen BK249.out 2
      have hfz7_3 := blk_frozen BK249.out 3
      go_wp2
      go_meet
      case rel => exact ⟨_, (true), (by first | rfl | (simp; done) | (simp [*]; done)), H', ⟨by first | omega | exact Nat.le_refl _⟩, ⟨by (with_reducible repeat (first | apply Kd.V_alloc | apply Kd.V_drewN | apply Kd.V_drew)); exact HO0_3.out⟩, ⟨by (with_reducible repeat (first | refine blk_drewN ?_ _ | refine blk_drew ?_ | refine blk_alloc ?_ _)); exact BK249.out⟩, ⟨by repeat (first | (with_reducible first | exact HB.out | apply below_alloc | apply pw_below_drewN | apply below_drew1 | refine below_set ?_ GE249.out) | exact HB.out)⟩⟩
  case rest =>
    clear HC3
    try clear c1
    try clear c2
    try clear p2
    try clear c5
    try clear c5b0
    try clear c5b1
    try clear hcz6_0
    try clear hcz6_1
    try clear hcz6_2
    try clear hcz6_3
    try clear hcz7_0
    try clear hcz7_1
    try clear hcz7_2
    try clear hcz7_3
    try clear hfz6_0
    try clear hfz6_1
    try clear hfz6_2
    try clear hfz6_3
    try clear hfz7_0
    try clear hfz7_1
    try clear hfz7_2
    try clear hfz7_3
    obtain ⟨kq, x18_2, rfl, HA, HJ2, HO_250003, BK249, HB⟩ := hcut
    cases kq with
    | zero => exact absurd HA.out (by simp [codec_Fields.j0])
    | succ kj2 =>
      have H := HA.out
      clear HA
      simp only [codec_Fields.j0] at H
      by_cases c8 : x18_2 = true
      · subst c8
        have H1 : (some (([] : List (S43)), false)) = some (r1, r2) := by rw [if_pos rfl] at H; exact H
        clear H
        have H := H1
        clear H1
        simp only [Option.some.injEq, Prod.mk.injEq] at H
        obtain ⟨rfl, rfl⟩ := H
        go_wp2
        go_ret2
        exact ⟨_, by first | rfl | (simp [errW_none, errW_some] <;> rfl) | (simp [*, errW_none, errW_some] <;> rfl), Kd.V_mono (Kd.V_nil _ _ _ w.heap.size (fun k_ => w.heap.size ≤ k_)) (fun k_ hk => by first | exact ⟨(.inr (hk.1)), hk.2⟩ | exact (.inr (hk))), by repeat (first | (with_reducible first | exact HB.out | apply below_alloc | apply pw_below_drewN | apply below_drew1 | refine below_set ?_ GE249.out) | exact HB.out)⟩
      · replace c8 := Bool.eq_false_iff.mpr c8
        subst c8
        have H1 : (codec_Fields.l0 kj2 l1 (l1.length : Int) 0 a0_0 a0_1 l0_2 l0_3) = some (r1, r2) := by rw [if_neg (show ¬ (false = true) by decide)] at H; exact H
        clear H
        have H := H1
        clear H1
        have H' := Aside0.mk H
        clear H
        go_wp2
        go_loopg [21] kj2 (fun kq v21 w' => ∃ (x21_2 : Int), v21 = .int .i64 x21_2 ∧ Aside0 (codec_Fields.l0 kq l1 (l1.length : Int) x21_2 a0_0 a0_1 l0_2 l0_3 = some (r1, r2)) ∧ Aside0 (kq ≤ kj2) ∧ Aside0 (Kd.V k43 43 w' w.heap.size (fun k_ => (P0_3_ k_ ∨ w.heap.size ≤ k_) ∧ k_ ≠ gb249) (.slice A0_3 l0_3.length c0_3) l0_3) ∧ Aside0 (w'.heap[gb249]? = some (.cells #[.int .i64 a0_0, .int .i64 a0_1, (.slice A0_2 l0_2.length c0_2), (.slice A0_3 l0_3.length c0_3)] 43 (0, 0))) ∧ Aside0 (Below w.heap.size w w'))
        case atStart => exact ⟨(0), (by first | rfl | (simp; done) | (simp [*]; done)), H', ⟨Nat.le_refl _⟩, ⟨by (with_reducible repeat (first | apply Kd.V_alloc | apply Kd.V_drewN | apply Kd.V_drew)); exact HO_250003.out⟩, ⟨by (with_reducible repeat (first | refine blk_drewN ?_ _ | refine blk_drew ?_ | refine blk_alloc ?_ _)); exact BK249.out⟩, ⟨by repeat (first | (with_reducible first | exact HB.out | apply below_alloc | apply pw_below_drewN | apply below_drew1 | refine below_set ?_ GE249.out) | exact HB.out)⟩⟩
        case round =>
          clear H'
          try clear c1
          try clear c2
          try clear p2
          try clear c5
          try clear c5b0
          try clear c5b1
          try clear c8
          try clear hcz6_0
          try clear hcz6_1
          try clear hcz6_2
          try clear hcz6_3
          try clear hcz7_0
          try clear hcz7_1
          try clear hcz7_2
          try clear hcz7_3
          try clear hfz6_0
          try clear hfz6_1
          try clear hfz6_2
          try clear hfz6_3
          try clear hfz7_0
          try clear hfz7_1
          try clear hfz7_2
          try clear hfz7_3
          try clear p2
          obtain ⟨x21_2, rfl, HA, HK2, HO_250003, BK249, HB⟩ := hrel
          cases gk with
          | zero => exact absurd HA.out (by simp [codec_Fields.l0])
          | succ k2 =>
            have H := HA.out
            clear HA
            simp only [codec_Fields.l0] at H
            by_cases c9 : x21_2 < (l1.length : Int)
            · rw [if_pos c9] at H
              have c9b0 : decide (x21_2 < (l1.length : Int)) = true := decide_eq_true c9
              clear c9
              by_cases c10 : 0 ≤ x21_2
              · rw [if_pos c10] at H
                have c10b0 : decide (0 ≤ x21_2) = true := decide_eq_true c10
                clear c10
                by_cases c11 : x21_2 < (l1.length : Int)
                · rw [if_pos c11] at H
                  have c11b0 : decide (x21_2 < (l1.length : Int)) = true := decide_eq_true c11
                  clear c11
                  by_cases c12 : (rd l1 x21_2) = 1
                  · rw [if_pos c12] at H
                    have c12b0 : ((rd l1 x21_2) == 1) = true := beq_iff_eq.mpr c12
                    have c12b1 : ((rd l1 x21_2) != 1) = false := bne_eq_false_iff_eq.mpr c12
                    clear c12
                    by_cases c13 : x21_2 < (l0_3.length : Int)
                    · rw [if_pos c13] at H
                      have c13b0 : decide (x21_2 < (l0_3.length : Int)) = true := decide_eq_true c13
                      clear c13
                      by_cases c14 : ((rd_T43 l0_3 x21_2).f0) = (rd l1 x21_2)
                      · rw [if_pos c14] at H
                        have c14b0 : (((rd_T43 l0_3 x21_2).f0) == (rd l1 x21_2)) = true := beq_iff_eq.mpr c14
                        have c14b1 : (((rd_T43 l0_3 x21_2).f0) != (rd l1 x21_2)) = false := bne_eq_false_iff_eq.mpr c14
                        clear c14
                        have H' := Aside0.mk H
                        clear H
                        have p250 : 0 ≤ (x21_2 : Int) := of_decide_eq_true (by first | (with_reducible assumption) | assumption)
                        have q250 : x21_2 < (l1.length : Int) := of_decide_eq_true (by first | (with_reducible assumption) | assumption)
                        obtain ⟨ad250, e250, hx250_0⟩ := Kd.at_int HR1.out x21_2 p250 q250
                        cases e250
                        replace hx250_0 := (HB.out.cell (World.block_lt_of_cell? w _ hx250_0)).trans hx250_0
                        replace p250 := eq_true p250
                        replace q250 := eq_true q250
                        have hcz15_0 : wr.cell? ⟨gb249, 0, none⟩ = some (.int .i64 a0_0) := (blk_cell BK249.out 0).trans rfl
                        have hcz15_1 : wr.cell? ⟨gb249, 1, none⟩ = some (.int .i64 a0_1) := (blk_cell BK249.out 1).trans rfl
                        have hcz15_2 : wr.cell? ⟨gb249, 2, none⟩ = some (.slice A0_2 l0_2.length c0_2) := (blk_cell BK249.out 2).trans rfl
                        have hcz15_3 : wr.cell? ⟨gb249, 3, none⟩ = some (.slice A0_3 l0_3.length c0_3) := (blk_cell BK249.out 3).trans rfl
                        have hfz15_0 := blk_frozen BK249.out 0
                        have hfz15_1 := blk_frozen BK249.out 1
                        have hfz15_2 := blk_frozen BK249.out 2
                        have hfz15_3 := blk_frozen BK249.out 3
                        have p251 : 0 ≤ (x21_2 : Int) := of_decide_eq_true (by first | (with_reducible assumption) | assumption)
                        have q251 : x21_2 < (l0_3.length : Int) := of_decide_eq_true (by first | (with_reducible assumption) | assumption)
                        obtain ⟨ad251, A251_2, c251_2, A251_3, c251_3, e251, hx251_0, hx251_1, hx251_2, hx251_3, hl251_2, hi251_2, hl251_3, hi251_3⟩ := at_T43 (Kd.V_reads' HO_250003.out).2.2 x21_2 p251 q251
                        cases e251
                        obtain ⟨ce251, hce251, hMe251, hcc251⟩ := Kd.V_get HO_250003.out z43 x21_2 p251 (by first | exact q251 | exact of_decide_eq_true (by first | (with_reducible assumption) | assumption) | (have e_ := (Kd.V_reads' HO_250003.out).1; omega))
                        obtain ⟨ua251_2, uc251_2, ua251_3, uc251_3, rfl, ul251_2, ge251_2, ul251_3, ge251_3⟩ := k43_openF hMe251
                        have hv251_2 := hcc251 2 _ rfl
                        rw [add_field _ _ 2 (by omega)] at hv251_2
                        replace hv251_2 := Option.some.inj (hv251_2.symm.trans hx251_2)
                        injection hv251_2 with hva_ hvn_ hvc_
                        rw [hva_] at ge251_2
                        rw [hvc_] at ul251_2
                        have HL251_2 := Aside0.mk (show Kd.V (Kd.int .u8) 5 _ w.heap.size _ _ ((rd_T43 l0_3 x21_2).f2) from Kd.V_mk ul251_2 ge251_2)
                        clear hva_ hvn_ hvc_ ge251_2 ul251_2
                        have hv251_3 := hcc251 3 _ rfl
                        rw [add_field _ _ 3 (by omega)] at hv251_3
                        replace hv251_3 := Option.some.inj (hv251_3.symm.trans hx251_3)
                        injection hv251_3 with hva_ hvn_ hvc_
                        rw [hva_] at ge251_3
                        rw [hvc_] at ul251_3
                        have HL251_3 := Aside0.mk (show Kd.V k43 43 _ w.heap.size _ _ ((rd_T43 l0_3 x21_2).f3) from Kd.V_mk ul251_3 ge251_3)
                        clear hva_ hvn_ hvc_ ge251_3 ul251_3
                        clear hcc251 hce251
                        have HR251_2 := Aside0.mk hi251_2
                        have HC251_2 := Aside0.mk hl251_2
                        clear hi251_2 hl251_2
                        have HR251_3 := Aside0.mk hi251_3
                        have HC251_3 := Aside0.mk hl251_3
                        clear hi251_3 hl251_3
                        replace p251 := eq_true p251
                        replace q251 := eq_true q251
                        go_wp2
                        go_roundg k2
                        case measure => have := HJ2.out; have := HK2.out; omega
                        case rel => exact ⟨(wrap64 (x21_2 + 1)), (by first | rfl | (simp; done) | (simp [*]; done)), H', ⟨by have := HJ2.out; have := HK2.out; omega⟩, ⟨by (with_reducible repeat (first | apply Kd.V_alloc | apply Kd.V_drewN | apply Kd.V_drew)); exact HO_250003.out⟩, ⟨by (with_reducible repeat (first | refine blk_drewN ?_ _ | refine blk_drew ?_ | refine blk_alloc ?_ _)); exact BK249.out⟩, ⟨by repeat (first | (with_reducible first | exact HB.out | apply below_alloc | apply pw_below_drewN | apply below_drew1 | refine below_set ?_ GE249.out) | exact HB.out)⟩⟩
                      · rw [if_neg c14] at H
                        have c14b0 : (((rd_T43 l0_3 x21_2).f0) == (rd l1 x21_2)) = false := beq_eq_false_iff_ne.mpr c14
                        have c14b1 : (((rd_T43 l0_3 x21_2).f0) != (rd l1 x21_2)) = true := bne_iff_ne.mpr c14
                        simp only [Option.some.injEq, Prod.mk.injEq] at H
                        obtain ⟨rfl, rfl⟩ := H
                        have p250 : 0 ≤ (x21_2 : Int) := of_decide_eq_true (by first | (with_reducible assumption) | assumption)
                        have q250 : x21_2 < (l1.length : Int) := of_decide_eq_true (by first | (with_reducible assumption) | assumption)
                        obtain ⟨ad250, e250, hx250_0⟩ := Kd.at_int HR1.out x21_2 p250 q250
                        cases e250
                        replace hx250_0 := (HB.out.cell (World.block_lt_of_cell? w _ hx250_0)).trans hx250_0
                        replace p250 := eq_true p250
                        replace q250 := eq_true q250
                        have hcz16_0 : wr.cell? ⟨gb249, 0, none⟩ = some (.int .i64 a0_0) := (blk_cell BK249.out 0).trans rfl
                        have hcz16_1 : wr.cell? ⟨gb249, 1, none⟩ = some (.int .i64 a0_1) := (blk_cell BK249.out 1).trans rfl
                        have hcz16_2 : wr.cell? ⟨gb249, 2, none⟩ = some (.slice A0_2 l0_2.length c0_2) := (blk_cell BK249.out 2).trans rfl
                        have hcz16_3 : wr.cell? ⟨gb249, 3, none⟩ = some (.slice A0_3 l0_3.length c0_3) := (blk_cell BK249.out 3).trans rfl
                        have hfz16_0 := blk_frozen BK249.out 0
                        have hfz16_1 := blk_frozen BK249.out 1
                        have hfz16_2 := blk_frozen BK249.out 2
                        have hfz16_3 := blk_frozen BK249.out 3
                        have p251 : 0 ≤ (x21_2 : Int) := of_decide_eq_true (by first | (with_reducible assumption) | assumption)
                        have q251 : x21_2 < (l0_3.length : Int) := of_decide_eq_true (by first | (with_reducible assumption) | assumption)
                        obtain ⟨ad251, A251_2, c251_2, A251_3, c251_3, e251, hx251_0, hx251_1, hx251_2, hx251_3, hl251_2, hi251_2, hl251_3, hi251_3⟩ := at_T43 (Kd.V_reads' HO_250003.out).2.2 x21_2 p251 q251
                        cases e251
                        obtain ⟨ce251, hce251, hMe251, hcc251⟩ := Kd.V_get HO_250003.out z43 x21_2 p251 (by first | exact q251 | exact of_decide_eq_true (by first | (with_reducible assumption) | assumption) | (have e_ := (Kd.V_reads' HO_250003.out).1; omega))
                        obtain ⟨ua251_2, uc251_2, ua251_3, uc251_3, rfl, ul251_2, ge251_2, ul251_3, ge251_3⟩ := k43_openF hMe251
                        have hv251_2 := hcc251 2 _ rfl
                        rw [add_field _ _ 2 (by omega)] at hv251_2
                        replace hv251_2 := Option.some.inj (hv251_2.symm.trans hx251_2)
                        injection hv251_2 with hva_ hvn_ hvc_
                        rw [hva_] at ge251_2
                        rw [hvc_] at ul251_2
                        have HL251_2 := Aside0.mk (show Kd.V (Kd.int .u8) 5 _ w.heap.size _ _ ((rd_T43 l0_3 x21_2).f2) from Kd.V_mk ul251_2 ge251_2)
                        clear hva_ hvn_ hvc_ ge251_2 ul251_2
                        have hv251_3 := hcc251 3 _ rfl
                        rw [add_field _ _ 3 (by omega)] at hv251_3
                        replace hv251_3 := Option.some.inj (hv251_3.symm.trans hx251_3)
                        injection hv251_3 with hva_ hvn_ hvc_
                        rw [hva_] at ge251_3
                        rw [hvc_] at ul251_3
                        have HL251_3 := Aside0.mk (show Kd.V k43 43 _ w.heap.size _ _ ((rd_T43 l0_3 x21_2).f3) from Kd.V_mk ul251_3 ge251_3)
                        clear hva_ hvn_ hvc_ ge251_3 ul251_3
                        clear hcc251 hce251
                        have HR251_2 := Aside0.mk hi251_2
                        have HC251_2 := Aside0.mk hl251_2
                        clear hi251_2 hl251_2
                        have HR251_3 := Aside0.mk hi251_3
                        have HC251_3 := Aside0.mk hl251_3
                        clear hi251_3 hl251_3
                        replace p251 := eq_true p251
                        replace q251 := eq_true q251
                        go_wp2
                        go_ret2
                        exact ⟨_, by first | rfl | (simp [errW_none, errW_some] <;> rfl) | (simp [*, errW_none, errW_some] <;> rfl), Kd.V_mono (Kd.V_nil _ _ _ w.heap.size (fun k_ => w.heap.size ≤ k_)) (fun k_ hk => by first | exact ⟨(.inr (hk.1)), hk.2⟩ | exact (.inr (hk))), by repeat (first | (with_reducible first | exact HB.out | apply below_alloc | apply pw_below_drewN | apply below_drew1 | refine below_set ?_ GE249.out) | exact HB.out)⟩
                    · rw [if_neg c13] at H
                      exact absurd H (by simp)
                  · rw [if_neg c12] at H
                    have c12b0 : ((rd l1 x21_2) == 1) = false := beq_eq_false_iff_ne.mpr c12
                    have c12b1 : ((rd l1 x21_2) != 1) = true := bne_iff_ne.mpr c12
                    by_cases c17 : (rd l1 x21_2) = 2
                    · rw [if_pos c17] at H
                      have c17b0 : ((rd l1 x21_2) == 2) = true := beq_iff_eq.mpr c17
                      have c17b1 : ((rd l1 x21_2) != 2) = false := bne_eq_false_iff_eq.mpr c17
                      clear c17
                      by_cases c18 : x21_2 < (l0_3.length : Int)
                      · rw [if_pos c18] at H
                        have c18b0 : decide (x21_2 < (l0_3.length : Int)) = true := decide_eq_true c18
                        clear c18
                        by_cases c19 : ((rd_T43 l0_3 x21_2).f0) = (rd l1 x21_2)
                        · rw [if_pos c19] at H
                          have c19b0 : (((rd_T43 l0_3 x21_2).f0) == (rd l1 x21_2)) = true := beq_iff_eq.mpr c19
                          have c19b1 : (((rd_T43 l0_3 x21_2).f0) != (rd l1 x21_2)) = false := bne_eq_false_iff_eq.mpr c19
                          clear c19
                          have H' := Aside0.mk H
                          clear H
                          have p250 : 0 ≤ (x21_2 : Int) := of_decide_eq_true (by first | (with_reducible assumption) | assumption)
                          have q250 : x21_2 < (l1.length : Int) := of_decide_eq_true (by first | (with_reducible assumption) | assumption)
                          obtain ⟨ad250, e250, hx250_0⟩ := Kd.at_int HR1.out x21_2 p250 q250
                          cases e250
                          replace hx250_0 := (HB.out.cell (World.block_lt_of_cell? w _ hx250_0)).trans hx250_0
                          replace p250 := eq_true p250
                          replace q250 := eq_true q250
                          have hcz20_0 : wr.cell? ⟨gb249, 0, none⟩ = some (.int .i64 a0_0) := (blk_cell BK249.out 0).trans rfl
                          have hcz20_1 : wr.cell? ⟨gb249, 1, none⟩ = some (.int .i64 a0_1) := (blk_cell BK249.out 1).trans rfl
                          have hcz20_2 : wr.cell? ⟨gb249, 2, none⟩ = some (.slice A0_2 l0_2.length c0_2) := (blk_cell BK249.out 2).trans rfl
                          have hcz20_3 : wr.cell? ⟨gb249, 3, none⟩ = some (.slice A0_3 l0_3.length c0_3) := (blk_cell BK249.out 3).trans rfl
                          have hfz20_0 := blk_frozen BK249.out 0
                          have hfz20_1 := blk_frozen BK249.out 1
                          have hfz20_2 := blk_frozen BK249.out 2
                          have hfz20_3 := blk_frozen BK249.out 3
                          have p252 : 0 ≤ (x21_2 : Int) := of_decide_eq_true (by first | (with_reducible assumption) | assumption)
                          have q252 : x21_2 < (l0_3.length : Int) := of_decide_eq_true (by first | (with_reducible assumption) | assumption)
                          obtain ⟨ad252, A252_2, c252_2, A252_3, c252_3, e252, hx252_0, hx252_1, hx252_2, hx252_3, hl252_2, hi252_2, hl252_3, hi252_3⟩ := at_T43 (Kd.V_reads' HO_250003.out).2.2 x21_2 p252 q252
                          cases e252
                          obtain ⟨ce252, hce252, hMe252, hcc252⟩ := Kd.V_get HO_250003.out z43 x21_2 p252 (by first | exact q252 | exact of_decide_eq_true (by first | (with_reducible assumption) | assumption) | (have e_ := (Kd.V_reads' HO_250003.out).1; omega))
                          obtain ⟨ua252_2, uc252_2, ua252_3, uc252_3, rfl, ul252_2, ge252_2, ul252_3, ge252_3⟩ := k43_openF hMe252
                          have hv252_2 := hcc252 2 _ rfl
                          rw [add_field _ _ 2 (by omega)] at hv252_2
                          replace hv252_2 := Option.some.inj (hv252_2.symm.trans hx252_2)
                          injection hv252_2 with hva_ hvn_ hvc_
                          rw [hva_] at ge252_2
                          rw [hvc_] at ul252_2
                          have HL252_2 := Aside0.mk (show Kd.V (Kd.int .u8) 5 _ w.heap.size _ _ ((rd_T43 l0_3 x21_2).f2) from Kd.V_mk ul252_2 ge252_2)
                          clear hva_ hvn_ hvc_ ge252_2 ul252_2
                          have hv252_3 := hcc252 3 _ rfl
                          rw [add_field _ _ 3 (by omega)] at hv252_3
                          replace hv252_3 := Option.some.inj (hv252_3.symm.trans hx252_3)
                          injection hv252_3 with hva_ hvn_ hvc_
                          rw [hva_] at ge252_3
                          rw [hvc_] at ul252_3
                          have HL252_3 := Aside0.mk (show Kd.V k43 43 _ w.heap.size _ _ ((rd_T43 l0_3 x21_2).f3) from Kd.V_mk ul252_3 ge252_3)
                          clear hva_ hvn_ hvc_ ge252_3 ul252_3
                          clear hcc252 hce252
                          have HR252_2 := Aside0.mk hi252_2
                          have HC252_2 := Aside0.mk hl252_2
                          clear hi252_2 hl252_2
                          have HR252_3 := Aside0.mk hi252_3
                          have HC252_3 := Aside0.mk hl252_3
                          clear hi252_3 hl252_3
                          replace p252 := eq_true p252
                          replace q252 := eq_true q252
                          go_wp2
                          go_roundg k2
                          case measure => have := HJ2.out; have := HK2.out; omega
                          case rel => exact ⟨(wrap64 (x21_2 + 1)), (by first | rfl | (simp; done) | (simp [*]; done)), H', ⟨by have := HJ2.out; have := HK2.out; omega⟩, ⟨by (with_reducible repeat (first | apply Kd.V_alloc | apply Kd.V_drewN | apply Kd.V_drew)); exact HO_250003.out⟩, ⟨by (with_reducible repeat (first | refine blk_drewN ?_ _ | refine blk_drew ?_ | refine blk_alloc ?_ _)); exact BK249.out⟩, ⟨by repeat (first | (with_reducible first | exact HB.out | apply below_alloc | apply pw_below_drewN | apply below_drew1 | refine below_set ?_ GE249.out) | exact HB.out)⟩⟩
                        · rw [if_neg c19] at H
                          have c19b0 : (((rd_T43 l0_3 x21_2).f0) == (rd l1 x21_2)) = false := beq_eq_false_iff_ne.mpr c19
                          have c19b1 : (((rd_T43 l0_3 x21_2).f0) != (rd l1 x21_2)) = true := bne_iff_ne.mpr c19
                          simp only [Option.some.injEq, Prod.mk.injEq] at H
                          obtain ⟨rfl, rfl⟩ := H
                          have p250 : 0 ≤ (x21_2 : Int) := of_decide_eq_true (by first | (with_reducible assumption) | assumption)
                          have q250 : x21_2 < (l1.length : Int) := of_decide_eq_true (by first | (with_reducible assumption) | assumption)
                          obtain ⟨ad250, e250, hx250_0⟩ := Kd.at_int HR1.out x21_2 p250 q250
                          cases e250
                          replace hx250_0 := (HB.out.cell (World.block_lt_of_cell? w _ hx250_0)).trans hx250_0
                          replace p250 := eq_true p250
                          replace q250 := eq_true q250
                          have hcz21_0 : wr.cell? ⟨gb249, 0, none⟩ = some (.int .i64 a0_0) := (blk_cell BK249.out 0).trans rfl
                          have hcz21_1 : wr.cell? ⟨gb249, 1, none⟩ = some (.int .i64 a0_1) := (blk_cell BK249.out 1).trans rfl
                          have hcz21_2 : wr.cell? ⟨gb249, 2, none⟩ = some (.slice A0_2 l0_2.length c0_2) := (blk_cell BK249.out 2).trans rfl
                          have hcz21_3 : wr.cell? ⟨gb249, 3, none⟩ = some (.slice A0_3 l0_3.length c0_3) := (blk_cell BK249.out 3).trans rfl
                          have hfz21_0 := blk_frozen BK249.out 0
                          have hfz21_1 := blk_frozen BK249.out 1
                          have hfz21_2 := blk_frozen BK249.out 2
                          have hfz21_3 := blk_frozen BK249.out 3
                          have p252 : 0 ≤ (x21_2 : Int) := of_decide_eq_true (by first | (with_reducible assumption) | assumption)
                          have q252 : x21_2 < (l0_3.length : Int) := of_decide_eq_true (by first | (with_reducible assumption) | assumption)
                          obtain ⟨ad252, A252_2, c252_2, A252_3, c252_3, e252, hx252_0, hx252_1, hx252_2, hx252_3, hl252_2, hi252_2, hl252_3, hi252_3⟩ := at_T43 (Kd.V_reads' HO_250003.out).2.2 x21_2 p252 q252
                          cases e252
                          obtain ⟨ce252, hce252, hMe252, hcc252⟩ := Kd.V_get HO_250003.out z43 x21_2 p252 (by first | exact q252 | exact of_decide_eq_true (by first | (with_reducible assumption) | assumption) | (have e_ := (Kd.V_reads' HO_250003.out).1; omega))
                          obtain ⟨ua252_2, uc252_2, ua252_3, uc252_3, rfl, ul252_2, ge252_2, ul252_3, ge252_3⟩ := k43_openF hMe252
                          have hv252_2 := hcc252 2 _ rfl
                          rw [add_field _ _ 2 (by omega)] at hv252_2
                          replace hv252_2 := Option.some.inj (hv252_2.symm.trans hx252_2)
                          injection hv252_2 with hva_ hvn_ hvc_
                          rw [hva_] at ge252_2
                          rw [hvc_] at ul252_2
                          have HL252_2 := Aside0.mk (show Kd.V (Kd.int .u8) 5 _ w.heap.size _ _ ((rd_T43 l0_3 x21_2).f2) from Kd.V_mk ul252_2 ge252_2)
                          clear hva_ hvn_ hvc_ ge252_2 ul252_2
                          have hv252_3 := hcc252 3 _ rfl
                          rw [add_field _ _ 3 (by omega)] at hv252_3
                          replace hv252_3 := Option.some.inj (hv252_3.symm.trans hx252_3)
                          injection hv252_3 with hva_ hvn_ hvc_
                          rw [hva_] at ge252_3
                          rw [hvc_] at ul252_3
                          have HL252_3 := Aside0.mk (show Kd.V k43 43 _ w.heap.size _ _ ((rd_T43 l0_3 x21_2).f3) from Kd.V_mk ul252_3 ge252_3)
                          clear hva_ hvn_ hvc_ ge252_3 ul252_3
                          clear hcc252 hce252
                          have HR252_2 := Aside0.mk hi252_2
                          have HC252_2 := Aside0.mk hl252_2
                          clear hi252_2 hl252_2
                          have HR252_3 := Aside0.mk hi252_3
                          have HC252_3 := Aside0.mk hl252_3
                          clear hi252_3 hl252_3
                          replace p252 := eq_true p252
                          replace q252 := eq_true q252
                          go_wp2
                          go_ret2
                          exact ⟨_, by first | rfl | (simp [errW_none, errW_some] <;> rfl) | (simp [*, errW_none, errW_some] <;> rfl), Kd.V_mono (Kd.V_nil _ _ _ w.heap.size (fun k_ => w.heap.size ≤ k_)) (fun k_ hk => by first | exact ⟨(.inr (hk.1)), hk.2⟩ | exact (.inr (hk))), by repeat (first | (with_reducible first | exact HB.out | apply below_alloc | apply pw_below_drewN | apply below_drew1 | refine below_set ?_ GE249.out) | exact HB.out)⟩
                      · rw [if_neg c18] at H
                        exact absurd H (by simp)
                    · rw [if_neg c17] at H
                      have c17b0 : ((rd l1 x21_2) == 2) = false := beq_eq_false_iff_ne.mpr c17
                      have c17b1 : ((rd l1 x21_2) != 2) = true := bne_iff_ne.mpr c17
                      by_cases c22 : x21_2 < (l0_3.length : Int)
                      · rw [if_pos c22] at H
                        have c22b0 : decide (x21_2 < (l0_3.length : Int)) = true := decide_eq_true c22
                        clear c22
                        by_cases c23 : ((rd_T43 l0_3 x21_2).f0) = (rd l1 x21_2)
                        · rw [if_pos c23] at H
                          have c23b0 : (((rd_T43 l0_3 x21_2).f0) == (rd l1 x21_2)) = true := beq_iff_eq.mpr c23
                          have c23b1 : (((rd_T43 l0_3 x21_2).f0) != (rd l1 x21_2)) = false := bne_eq_false_iff_eq.mpr c23
                          clear c23
                          have H' := Aside0.mk H
                          clear H
                          have p250 : 0 ≤ (x21_2 : Int) := of_decide_eq_true (by first | (with_reducible assumption) | assumption)
                          have q250 : x21_2 < (l1.length : Int) := of_decide_eq_true (by first | (with_reducible assumption) | assumption)
                          obtain ⟨ad250, e250, hx250_0⟩ := Kd.at_int HR1.out x21_2 p250 q250
                          cases e250
                          replace hx250_0 := (HB.out.cell (World.block_lt_of_cell? w _ hx250_0)).trans hx250_0
                          replace p250 := eq_true p250
                          replace q250 := eq_true q250
                          have hcz24_0 : wr.cell? ⟨gb249, 0, none⟩ = some (.int .i64 a0_0) := (blk_cell BK249.out 0).trans rfl
                          have hcz24_1 : wr.cell? ⟨gb249, 1, none⟩ = some (.int .i64 a0_1) := (blk_cell BK249.out 1).trans rfl
                          have hcz24_2 : wr.cell? ⟨gb249, 2, none⟩ = some (.slice A0_2 l0_2.length c0_2) := (blk_cell BK249.out 2).trans rfl
                          have hcz24_3 : wr.cell? ⟨gb249, 3, none⟩ = some (.slice A0_3 l0_3.length c0_3) := (blk_cell BK249.out 3).trans rfl
                          have hfz24_0 := blk_frozen BK249.out 0
                          have hfz24_1 := blk_frozen BK249.out 1
                          have hfz24_2 := blk_frozen BK249.out 2
                          have hfz24_3 := blk_frozen BK249.out 3
                          have p253 : 0 ≤ (x21_2 : Int) := of_decide_eq_true (by first | (with_reducible assumption) | assumption)
                          have q253 : x21_2 < (l0_3.length : Int) := of_decide_eq_true (by first | (with_reducible assumption) | assumption)
                          obtain ⟨ad253, A253_2, c253_2, A253_3, c253_3, e253, hx253_0, hx253_1, hx253_2, hx253_3, hl253_2, hi253_2, hl253_3, hi253_3⟩ := at_T43 (Kd.V_reads' HO_250003.out).2.2 x21_2 p253 q253
                          cases e253
                          obtain ⟨ce253, hce253, hMe253, hcc253⟩ := Kd.V_get HO_250003.out z43 x21_2 p253 (by first | exact q253 | exact of_decide_eq_true (by first | (with_reducible assumption) | assumption) | (have e_ := (Kd.V_reads' HO_250003.out).1; omega))
                          obtain ⟨ua253_2, uc253_2, ua253_3, uc253_3, rfl, ul253_2, ge253_2, ul253_3, ge253_3⟩ := k43_openF hMe253
                          have hv253_2 := hcc253 2 _ rfl
                          rw [add_field _ _ 2 (by omega)] at hv253_2
                          replace hv253_2 := Option.some.inj (hv253_2.symm.trans hx253_2)
                          injection hv253_2 with hva_ hvn_ hvc_
                          rw [hva_] at ge253_2
                          rw [hvc_] at ul253_2
                          have HL253_2 := Aside0.mk (show Kd.V (Kd.int .u8) 5 _ w.heap.size _ _ ((rd_T43 l0_3 x21_2).f2) from Kd.V_mk ul253_2 ge253_2)
                          clear hva_ hvn_ hvc_ ge253_2 ul253_2
                          have hv253_3 := hcc253 3 _ rfl
                          rw [add_field _ _ 3 (by omega)] at hv253_3
                          replace hv253_3 := Option.some.inj (hv253_3.symm.trans hx253_3)
                          injection hv253_3 with hva_ hvn_ hvc_
                          rw [hva_] at ge253_3
                          rw [hvc_] at ul253_3
                          have HL253_3 := Aside0.mk (show Kd.V k43 43 _ w.heap.size _ _ ((rd_T43 l0_3 x21_2).f3) from Kd.V_mk ul253_3 ge253_3)
                          clear hva_ hvn_ hvc_ ge253_3 ul253_3
                          clear hcc253 hce253
                          have HR253_2 := Aside0.mk hi253_2
                          have HC253_2 := Aside0.mk hl253_2
                          clear hi253_2 hl253_2
                          have HR253_3 := Aside0.mk hi253_3
                          have HC253_3 := Aside0.mk hl253_3
                          clear hi253_3 hl253_3
                          replace p253 := eq_true p253
                          replace q253 := eq_true q253
                          go_wp2
                          go_roundg k2
                          case measure => have := HJ2.out; have := HK2.out; omega
                          case rel => exact ⟨(wrap64 (x21_2 + 1)), (by first | rfl | (simp; done) | (simp [*]; done)), H', ⟨by have := HJ2.out; have := HK2.out; omega⟩, ⟨by (with_reducible repeat (first | apply Kd.V_alloc | apply Kd.V_drewN | apply Kd.V_drew)); exact HO_250003.out⟩, ⟨by (with_reducible repeat (first | refine blk_drewN ?_ _ | refine blk_drew ?_ | refine blk_alloc ?_ _)); exact BK249.out⟩, ⟨by repeat (first | (with_reducible first | exact HB.out | apply below_alloc | apply pw_below_drewN | apply below_drew1 | refine below_set ?_ GE249.out) | exact HB.out)⟩⟩
                        · rw [if_neg c23] at H
                          have c23b0 : (((rd_T43 l0_3 x21_2).f0) == (rd l1 x21_2)) = false := beq_eq_false_iff_ne.mpr c23
                          have c23b1 : (((rd_T43 l0_3 x21_2).f0) != (rd l1 x21_2)) = true := bne_iff_ne.mpr c23
                          simp only [Option.some.injEq, Prod.mk.injEq] at H
                          obtain ⟨rfl, rfl⟩ := H
                          have p250 : 0 ≤ (x21_2 : Int) := of_decide_eq_true (by first | (with_reducible assumption) | assumption)
                          have q250 : x21_2 < (l1.length : Int) := of_decide_eq_true (by first | (with_reducible assumption) | assumption)
                          obtain ⟨ad250, e250, hx250_0⟩ := Kd.at_int HR1.out x21_2 p250 q250
                          cases e250
                          replace hx250_0 := (HB.out.cell (World.block_lt_of_cell? w _ hx250_0)).trans hx250_0
                          replace p250 := eq_true p250
                          replace q250 := eq_true q250
                          have hcz25_0 : wr.cell? ⟨gb249, 0, none⟩ = some (.int .i64 a0_0) := (blk_cell BK249.out 0).trans rfl
                          have hcz25_1 : wr.cell? ⟨gb249, 1, none⟩ = some (.int .i64 a0_1) := (blk_cell BK249.out 1).trans rfl
                          have hcz25_2 : wr.cell? ⟨gb249, 2, none⟩ = some (.slice A0_2 l0_2.length c0_2) := (blk_cell BK249.out 2).trans rfl
                          have hcz25_3 : wr.cell? ⟨gb249, 3, none⟩ = some (.slice A0_3 l0_3.length c0_3) := (blk_cell BK249.out 3).trans rfl
                          have hfz25_0 := blk_frozen BK249.out 0
                          have hfz25_1 := blk_frozen BK249.out 1
                          have hfz25_2 := blk_frozen BK249.out 2
                          have hfz25_3 := blk_frozen BK249.out 3
                          have p253 : 0 ≤ (x21_2 : Int) := of_decide_eq_true (by first | (with_reducible assumption) | assumption)
                          have q253 : x21_2 < (l0_3.length : Int) := of_decide_eq_true (by first | (with_reducible assumption) | assumption)
                          obtain ⟨ad253, A253_2, c253_2, A253_3, c253_3, e253, hx253_0, hx253_1, hx253_2, hx253_3, hl253_2, hi253_2, hl253_3, hi253_3⟩ := at_T43 (Kd.V_reads' HO_250003.out).2.2 x21_2 p253 q253
                          cases e253
                          obtain ⟨ce253, hce253, hMe253, hcc253⟩ := Kd.V_get HO_250003.out z43 x21_2 p253 (by first | exact q253 | exact of_decide_eq_true (by first | (with_reducible assumption) | assumption) | (have e_ := (Kd.V_reads' HO_250003.out).1; omega))
                          obtain ⟨ua253_2, uc253_2, ua253_3, uc253_3, rfl, ul253_2, ge253_2, ul253_3, ge253_3⟩ := k43_openF hMe253
                          have hv253_2 := hcc253 2 _ rfl
                          rw [add_field _ _ 2 (by omega)] at hv253_2
                          replace hv253_2 := Option.some.inj (hv253_2.symm.trans hx253_2)
                          injection hv253_2 with hva_ hvn_ hvc_
                          rw [hva_] at ge253_2
                          rw [hvc_] at ul253_2
                          have HL253_2 := Aside0.mk (show Kd.V (Kd.int .u8) 5 _ w.heap.size _ _ ((rd_T43 l0_3 x21_2).f2) from Kd.V_mk ul253_2 ge253_2)
                          clear hva_ hvn_ hvc_ ge253_2 ul253_2
                          have hv253_3 := hcc253 3 _ rfl
                          rw [add_field _ _ 3 (by omega)] at hv253_3
                          replace hv253_3 := Option.some.inj (hv253_3.symm.trans hx253_3)
                          injection hv253_3 with hva_ hvn_ hvc_
                          rw [hva_] at ge253_3
                          rw [hvc_] at ul253_3
                          have HL253_3 := Aside0.mk (show Kd.V k43 43 _ w.heap.size _ _ ((rd_T43 l0_3 x21_2).f3) from Kd.V_mk ul253_3 ge253_3)
                          clear hva_ hvn_ hvc_ ge253_3 ul253_3
                          clear hcc253 hce253
                          have HR253_2 := Aside0.mk hi253_2
                          have HC253_2 := Aside0.mk hl253_2
                          clear hi253_2 hl253_2
                          have HR253_3 := Aside0.mk hi253_3
                          have HC253_3 := Aside0.mk hl253_3
                          clear hi253_3 hl253_3
                          replace p253 := eq_true p253
                          replace q253 := eq_true q253
                          go_wp2
                          go_ret2
                          exact ⟨_, by first | rfl | (simp [errW_none, errW_some] <;> rfl) | (simp [*, errW_none, errW_some] <;> rfl), Kd.V_mono (Kd.V_nil _ _ _ w.heap.size (fun k_ => w.heap.size ≤ k_)) (fun k_ hk => by first | exact ⟨(.inr (hk.1)), hk.2⟩ | exact (.inr (hk))), by repeat (first | (with_reducible first | exact HB.out | apply below_alloc | apply pw_below_drewN | apply below_drew1 | refine below_set ?_ GE249.out) | exact HB.out)⟩
                      · rw [if_neg c22] at H
                        exact absurd H (by simp)
                · rw [if_neg c11] at H
                  exact absurd H (by simp)
              · rw [if_neg c10] at H
                exact absurd H (by simp)
            · rw [if_neg c9] at H
              have c9b0 : decide (x21_2 < (l1.length : Int)) = false := decide_eq_false c9
              clear c9
              simp only [Option.some.injEq, Prod.mk.injEq] at H
              obtain ⟨rfl, rfl⟩ := H
              have hcz26_0 : wr.cell? ⟨gb249, 0, none⟩ = some (.int .i64 a0_0) := (blk_cell BK249.out 0).trans rfl
              have hcz26_1 : wr.cell? ⟨gb249, 1, none⟩ = some (.int .i64 a0_1) := (blk_cell BK249.out 1).trans rfl
              have hcz26_2 : wr.cell? ⟨gb249, 2, none⟩ = some (.slice A0_2 l0_2.length c0_2) := (blk_cell BK249.out 2).trans rfl
              have hcz26_3 : wr.cell? ⟨gb249, 3, none⟩ = some (.slice A0_3 l0_3.length c0_3) := (blk_cell BK249.out 3).trans rfl
              have hfz26_0 := blk_frozen BK249.out 0
              have hfz26_1 := blk_frozen BK249.out 1
              have hfz26_2 := blk_frozen BK249.out 2
              have hfz26_3 := blk_frozen BK249.out 3
              go_wp2
              go_ret2
              exact ⟨_, by first | rfl | (simp [errW_none, errW_some] <;> rfl) | (simp [*, errW_none, errW_some] <;> rfl), by (with_reducible repeat (first | apply Kd.V_alloc | apply Kd.V_drewN | apply Kd.V_drew)); exact Kd.V_mono HO_250003.out (fun _ hk => hk.1), by repeat (first | (with_reducible first | exact HB.out | apply below_alloc | apply pw_below_drewN | apply below_drew1 | refine below_set ?_ GE249.out) | exact HB.out)⟩

end Go.Proofs.YtiibnfnjfmcggaaDoor.PCallBack
