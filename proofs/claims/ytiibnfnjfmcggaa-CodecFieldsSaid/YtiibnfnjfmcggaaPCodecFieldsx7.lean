-- Written by drive.py of this work: the kit's print.py with contracts of this work laid in.
import Derived.Test.YtiibnfnjfmcggaaPCodecFieldsx0
namespace Go.Proofs.Ytiibnfnjfmcggaa.PCodecFields
open Go.RowKit Go.Proofs.YtiibnfnjfmcggaaW.PrintWords Go.Proofs.YtiibnfnjfmcggaaW.PrintLast Go.Proofs.YtiibnfnjfmcggaaW.PrintMore
attribute [local go_sem] max2_int min2_int max_two min_two max_three min_three max_four min_four   -- for this text's walks alone
set_option linter.unusedVariables false
set_option linter.unusedSimpArgs false

/-! ### codec_Fields: function 27 -/
mutual
def codec_Fields.j0 : Nat → List Int → Bool → Int → Int → List Int → List (S43) → Option ((List (S43)) × Bool)
  | 0, _, _, _, _, _, _ => none
  | k + 1, x1, x18, x221000, x221001, x221002, x221003 => if x18 = true then (some (([] : List (S43)), false)) else (codec_Fields.l0 k x1 (x1.length : Int) 0 x221000 x221001 x221002 x221003)
def codec_Fields.l0 : Nat → List Int → Int → Int → Int → Int → List Int → List (S43) → Option ((List (S43)) × Bool)
  | 0, _, _, _, _, _, _, _ => none
  | k + 1, x19, x20, x21, x221000, x221001, x221002, x221003 => if x21 < x20 then (if 0 ≤ x21 then (if x21 < (x19.length : Int) then (if (rd x19 x21) = 1 then (if x21 < (x221003.length : Int) then (if ((rd_T43 x221003 x21).f0) = (rd x19 x21) then (codec_Fields.l0 k x19 x20 (wrap64 (x21 + 1)) x221000 x221001 x221002 x221003) else (some (([] : List (S43)), false))) else (none)) else (if (rd x19 x21) = 2 then (if x21 < (x221003.length : Int) then (if ((rd_T43 x221003 x21).f0) = (rd x19 x21) then (codec_Fields.l0 k x19 x20 (wrap64 (x21 + 1)) x221000 x221001 x221002 x221003) else (some (([] : List (S43)), false))) else (none)) else (if x21 < (x221003.length : Int) then (if ((rd_T43 x221003 x21).f0) = (rd x19 x21) then (codec_Fields.l0 k x19 x20 (wrap64 (x21 + 1)) x221000 x221001 x221002 x221003) else (some (([] : List (S43)), false))) else (none)))) else (none)) else (none)) else (some (x221003, true))
end
def codec_Fields.f (k : Nat) (a0_0 : Int) (a0_1 : Int) (l0_2 : List Int) (l0_3 : List (S43)) (l1 : List Int) : Option ((List (S43)) × Bool) := if a0_0 = 3 then (codec_Fields.j0 k l1 ((l0_3.length : Int) != (l1.length : Int)) a0_0 a0_1 l0_2 l0_3) else (codec_Fields.j0 k l1 true a0_0 a0_1 l0_2 l0_3)
theorem codec_Fields.mono_l : ∀ k, (∀ y0 y1 y2 y3 y4 y5, LeO (codec_Fields.j0 k y0 y1 y2 y3 y4 y5) (codec_Fields.j0 (k + 1) y0 y1 y2 y3 y4 y5)) ∧ (∀ y0 y1 y2 y3 y4 y5 y6, LeO (codec_Fields.l0 k y0 y1 y2 y3 y4 y5 y6) (codec_Fields.l0 (k + 1) y0 y1 y2 y3 y4 y5 y6))
  | 0 => ⟨fun _ _ _ _ _ _ r h => by simp [codec_Fields.j0] at h, fun _ _ _ _ _ _ _ r h => by simp [codec_Fields.l0] at h⟩
  | k + 1 => by
    obtain ⟨ih0, ih1⟩ := codec_Fields.mono_l k
    refine ⟨?_, ?_⟩
    · intro y0 y1 y2 y3 y4 y5
      unfold codec_Fields.j0
      repeat' first
      | (with_reducible exact ih0 _ _ _ _ _ _)
      | (with_reducible exact ih1 _ _ _ _ _ _ _)
      | (with_reducible exact LeO.refl _)
      | (with_reducible exact LeO.none _)
      | (with_reducible refine LeO.ite ?_ ?_)
      | (with_reducible refine LeO.bind ?_ (fun _ => ?_))
      | exact ih0 _ _ _ _ _ _
      | exact ih1 _ _ _ _ _ _ _
      | exact LeO.none _
      | refine LeO.ite ?_ ?_
      | refine LeO.bind ?_ (fun _ => ?_)
    · intro y0 y1 y2 y3 y4 y5 y6
      unfold codec_Fields.l0
      repeat' first
      | (with_reducible exact ih0 _ _ _ _ _ _)
      | (with_reducible exact ih1 _ _ _ _ _ _ _)
      | (with_reducible exact LeO.refl _)
      | (with_reducible exact LeO.none _)
      | (with_reducible refine LeO.ite ?_ ?_)
      | (with_reducible refine LeO.bind ?_ (fun _ => ?_))
      | exact ih0 _ _ _ _ _ _
      | exact ih1 _ _ _ _ _ _ _
      | exact LeO.none _
      | refine LeO.ite ?_ ?_
      | refine LeO.bind ?_ (fun _ => ?_)
theorem codec_Fields.mono : ∀ a0 a1 a2 a3 a4 k, LeO (codec_Fields.f k a0 a1 a2 a3 a4) (codec_Fields.f (k + 1) a0 a1 a2 a3 a4) := by
  intro a0 a1 a2 a3 a4 k
  obtain ⟨ih0, ih1⟩ := codec_Fields.mono_l k
  unfold codec_Fields.f
  repeat' first
      | (with_reducible exact ih0 _ _ _ _ _ _)
      | (with_reducible exact ih1 _ _ _ _ _ _ _)
      | (with_reducible exact LeO.refl _)
      | (with_reducible exact LeO.none _)
      | (with_reducible refine LeO.ite ?_ ?_)
      | (with_reducible refine LeO.bind ?_ (fun _ => ?_))
      | exact ih0 _ _ _ _ _ _
      | exact ih1 _ _ _ _ _ _ _
      | exact LeO.none _
      | refine LeO.ite ?_ ?_
      | refine LeO.bind ?_ (fun _ => ?_)
set_option maxHeartbeats 8000000 in
set_option maxRecDepth 100000 in
theorem codec_Fields.calls (k : Nat) (a0_0 : Int) (a0_1 : Int) (A0_2 : Option Addr) (c0_2 : Nat) (l0_2 : List Int) (P0_3_ : Nat → Prop) (A0_3 : Option Addr) (c0_3 : Nat) (l0_3 : List (S43)) (A1 : Option Addr) (c1 : Nat) (l1 : List Int) (r1 : List (S43)) (r2 : Bool) (w : World) (hr0_2 : Kd.C (Kd.int .u8) w A0_2 l0_2.length l0_2) (hc0_2 : l0_2.length ≤ c0_2) (hs0_3 : Kd.V k43 43 w w.heap.size (fun k_ => P0_3_ k_) (.slice A0_3 l0_3.length c0_3) l0_3) (hr1 : Kd.C (Kd.int .i64) w A1 l1.length l1) (hc1 : l1.length ≤ c1) (h : codec_Fields.f k a0_0 a0_1 l0_2 l0_3 l1 = some (r1, r2)) :
    Calls Try.prog 27 #[.agg #[.int .i64 a0_0, .int .i64 a0_1, .slice A0_2 l0_2.length c0_2, .slice A0_3 l0_3.length c0_3], .slice A1 l1.length c1] w fun e w' => ∃ v0_ : Value, e = .returned (.tuple #[v0_, .bool r2]) ∧ Kd.V k43 43 w' w.heap.size (fun k_ => (P0_3_ k_ ∨ w.heap.size ≤ k_)) v0_ r1 ∧ Below w.heap.size w w' := by
  have hu43 := Try.underlying43
  have HR0_2 := Aside0.mk hr0_2
  have HC0_2 := Aside0.mk hc0_2
  clear hr0_2 hc0_2
  have HO0_3 := Aside0.mk (show Kd.V k43 43 w w.heap.size (fun k_ => (P0_3_ k_ ∨ w.heap.size ≤ k_)) (.slice A0_3 l0_3.length c0_3) l0_3 from Kd.V_mono hs0_3 (fun k_ hk => .inl hk))
  have HR1 := Aside0.mk hr1
  have HC1 := Aside0.mk hc1
  clear hr1 hc1
  have HB := Aside0.mk (Below.refl w.heap.size w)
  have H : (if a0_0 = 3 then (codec_Fields.j0 k l1 ((l0_3.length : Int) != (l1.length : Int)) a0_0 a0_1 l0_2 l0_3) else (codec_Fields.j0 k l1 true a0_0 a0_1 l0_2 l0_3)) = some (r1, r2) := h
  clear h
  have HC3 := Aside0.mk H
  clear H
  go_enter Try.func27, Try.ntmps27
  go_upto_region 1 with (first | ((with_reducible refine gate_dst (N := 2) rfl ?_); (try (refine gate_guard (by rfl) ?_; dsimp only)); refine box_event ?hg (N := 2) ?hd (cs := #[.int .i64 a0_0, .int .i64 a0_1, .slice A0_2 l0_2.length c0_2, .slice A0_3 l0_3.length c0_3]) (t := 43) ?hr ?_; (case hd => rfl); (case hg => rfl); (case hr => first | (go_simp; done) | (go_simp; rfl)); intro gb220 hg w4 hbox hb; have n0_ := Aside0.mk (Kd.V_below (Kd.V_elderB (by (with_reducible repeat (first | apply Kd.V_alloc | apply Kd.V_drewN | apply Kd.V_drew)); exact HO0_3.out) gb220 (Nat.le_of_eq hg.symm)) hb); have n1_ := Aside0.mk (below_step (by repeat (first | (with_reducible first | exact HB.out | apply below_alloc | apply pw_below_drewN | apply below_drew1) | exact HB.out)) hb); have n2_ := Aside0.mk (hbox); have n3_ := Aside0.mk ((by rw [hg]; exact (below_size (by repeat (first | (with_reducible first | exact HB.out | apply below_alloc | apply pw_below_drewN | apply below_drew1) | exact HB.out))) : w.heap.size ≤ gb220)); have n4_ := Aside0.mk ((by rw [hg]; exact (below_size (by repeat (first | (with_reducible first | exact HB.out | apply below_alloc | apply pw_below_drewN | apply below_drew1) | exact HB.out))) : w.heap.size ≤ gb220)); clear HO0_3; clear HB; have HO0_3 := n0_; have HB := n1_; have BK220 := n2_; have GW220 := n3_; have GE220 := n4_; clear n0_ n1_ n2_ n3_ n4_; clear hb hbox hg))
  (try simp only [Act.put, List.setIfInBounds_toArray, List.set_cons_zero, List.set_cons_succ])
  go_cut [18] (fun v18 wc => ∃ (kq : Nat) (x18_2 : Bool), v18 = .bool x18_2 ∧ Aside0 (codec_Fields.j0 kq l1 x18_2 a0_0 a0_1 l0_2 l0_3 = some (r1, r2)) ∧ Aside0 (kq ≤ k) ∧ Aside0 (Kd.V k43 43 wc w.heap.size (fun k_ => (P0_3_ k_ ∨ w.heap.size ≤ k_) ∧ k_ ≠ gb220) (.slice A0_3 l0_3.length c0_3) l0_3) ∧ Aside0 (wc.heap[gb220]? = some (.cells #[.int .i64 a0_0, .int .i64 a0_1, (.slice A0_2 l0_2.length c0_2), (.slice A0_3 l0_3.length c0_3)] 43 (0, 0))) ∧ Aside0 (Below w.heap.size w wc))
  case first =>
    have H := HC3.out
    clear HC3
    by_cases c5 : a0_0 = 3
    · rw [if_pos c5] at H
      have c5b0 : (a0_0 == 3) = true := beq_iff_eq.mpr c5
      have c5b1 : (a0_0 != 3) = false := bne_eq_false_iff_eq.mpr c5
      clear c5
      (first | rw [c5b0] | (simp only [i64_w, i32_w]; rw [c5b0]) | skip)
      have H' := Aside0.mk H
      clear H
      have hcz6_0 : w4.cell? ⟨gb220, 0, none⟩ = some (.int .i64 a0_0) := (blk_cell BK220.out 0).trans rfl
      have hcz6_1 : w4.cell? ⟨gb220, 1, none⟩ = some (.int .i64 a0_1) := (blk_cell BK220.out 1).trans rfl
      have hcz6_2 : w4.cell? ⟨gb220, 2, none⟩ = some (.slice A0_2 l0_2.length c0_2) := (blk_cell BK220.out 2).trans rfl
      have hcz6_3 : w4.cell? ⟨gb220, 3, none⟩ = some (.slice A0_3 l0_3.length c0_3) := (blk_cell BK220.out 3).trans rfl
      have hfz6_0 := blk_frozen BK220.out 0
      have hfz6_1 := blk_frozen BK220.out 1
      have hfz6_2 := blk_frozen BK220.out 2
      have hfz6_3 := blk_frozen BK220.out 3
      go_wp2
      go_meet
      case rel => exact ⟨_, (((l0_3.length : Int) != (l1.length : Int))), (by first | rfl | (simp; done) | (simp [*]; done)), H', ⟨by first | omega | exact Nat.le_refl _⟩, ⟨by (with_reducible repeat (first | apply Kd.V_alloc | apply Kd.V_drewN | apply Kd.V_drew)); exact HO0_3.out⟩, ⟨by (with_reducible repeat (first | refine blk_drewN ?_ _ | refine blk_drew ?_ | refine blk_alloc ?_ _)); exact BK220.out⟩, ⟨by repeat (first | (with_reducible first | exact HB.out | apply below_alloc | apply pw_below_drewN | apply below_drew1 | refine below_set ?_ GE220.out) | exact HB.out)⟩⟩
    · rw [if_neg c5] at H
      have c5b0 : (a0_0 == 3) = false := beq_eq_false_iff_ne.mpr c5
      have c5b1 : (a0_0 != 3) = true := bne_iff_ne.mpr c5
      (first | rw [c5b0] | (simp only [i64_w, i32_w]; rw [c5b0]) | skip)
      have H' := Aside0.mk H
      clear H
      have hcz7_0 : w4.cell? ⟨gb220, 0, none⟩ = some (.int .i64 a0_0) := (blk_cell BK220.out 0).trans rfl
      have hcz7_1 : w4.cell? ⟨gb220, 1, none⟩ = some (.int .i64 a0_1) := (blk_cell BK220.out 1).trans rfl
      have hcz7_2 : w4.cell? ⟨gb220, 2, none⟩ = some (.slice A0_2 l0_2.length c0_2) := (blk_cell BK220.out 2).trans rfl
      have hcz7_3 : w4.cell? ⟨gb220, 3, none⟩ = some (.slice A0_3 l0_3.length c0_3) := (blk_cell BK220.out 3).trans rfl
      have hfz7_0 := blk_frozen BK220.out 0
      have hfz7_1 := blk_frozen BK220.out 1
      have hfz7_2 := blk_frozen BK220.out 2
      have hfz7_3 := blk_frozen BK220.out 3
      go_wp2
      go_meet
      case rel => exact ⟨_, (true), (by first | rfl | (simp; done) | (simp [*]; done)), H', ⟨by first | omega | exact Nat.le_refl _⟩, ⟨by (with_reducible repeat (first | apply Kd.V_alloc | apply Kd.V_drewN | apply Kd.V_drew)); exact HO0_3.out⟩, ⟨by (with_reducible repeat (first | refine blk_drewN ?_ _ | refine blk_drew ?_ | refine blk_alloc ?_ _)); exact BK220.out⟩, ⟨by repeat (first | (with_reducible first | exact HB.out | apply below_alloc | apply pw_below_drewN | apply below_drew1 | refine below_set ?_ GE220.out) | exact HB.out)⟩⟩
  case rest =>
    clear HC3
    try clear c1
    try clear c2
    try clear p2
    try clear c5
    try clear c5b0
    try clear c5b1
    try clear hcz6_0
    try clear hcz6_1
    try clear hcz6_2
    try clear hcz6_3
    try clear hcz7_0
    try clear hcz7_1
    try clear hcz7_2
    try clear hcz7_3
    try clear hfz6_0
    try clear hfz6_1
    try clear hfz6_2
    try clear hfz6_3
    try clear hfz7_0
    try clear hfz7_1
    try clear hfz7_2
    try clear hfz7_3
    obtain ⟨kq, x18_2, rfl, HA, HJ2, HO_221003, BK220, HB⟩ := hcut
    cases kq with
    | zero => exact absurd HA.out (by simp [codec_Fields.j0])
    | succ kj2 =>
      have H := HA.out
      clear HA
      simp only [codec_Fields.j0] at H
      by_cases c8 : x18_2 = true
      · subst c8
        have H1 : (some (([] : List (S43)), false)) = some (r1, r2) := by rw [if_pos rfl] at H; exact H
        clear H
        have H := H1
        clear H1
        simp only [Option.some.injEq, Prod.mk.injEq] at H
        obtain ⟨rfl, rfl⟩ := H
        go_wp2
        go_ret2
        exact ⟨_, by first | rfl | (simp [errW_none, errW_some] <;> rfl) | (simp [*, errW_none, errW_some] <;> rfl), Kd.V_mono (Kd.V_nil _ _ _ w.heap.size (fun k_ => w.heap.size ≤ k_)) (fun k_ hk => by first | exact ⟨(.inr (hk.1)), hk.2⟩ | exact (.inr (hk))), by repeat (first | (with_reducible first | exact HB.out | apply below_alloc | apply pw_below_drewN | apply below_drew1 | refine below_set ?_ GE220.out) | exact HB.out)⟩
      · replace c8 := Bool.eq_false_iff.mpr c8
        subst c8
        have H1 : (codec_Fields.l0 kj2 l1 (l1.length : Int) 0 a0_0 a0_1 l0_2 l0_3) = some (r1, r2) := by rw [if_neg (show ¬ (false = true) by decide)] at H; exact H
        clear H
        have H := H1
        clear H1
        have H' := Aside0.mk H
        clear H
        go_wp2
        go_loopg [21] kj2 (fun kq v21 w' => ∃ (x21_2 : Int), v21 = .int .i64 x21_2 ∧ Aside0 (codec_Fields.l0 kq l1 (l1.length : Int) x21_2 a0_0 a0_1 l0_2 l0_3 = some (r1, r2)) ∧ Aside0 (kq ≤ kj2) ∧ Aside0 (Kd.V k43 43 w' w.heap.size (fun k_ => (P0_3_ k_ ∨ w.heap.size ≤ k_) ∧ k_ ≠ gb220) (.slice A0_3 l0_3.length c0_3) l0_3) ∧ Aside0 (w'.heap[gb220]? = some (.cells #[.int .i64 a0_0, .int .i64 a0_1, (.slice A0_2 l0_2.length c0_2), (.slice A0_3 l0_3.length c0_3)] 43 (0, 0))) ∧ Aside0 (Below w.heap.size w w'))
        case atStart => exact ⟨(0), (by first | rfl | (simp; done) | (simp [*]; done)), H', ⟨Nat.le_refl _⟩, ⟨by (with_reducible repeat (first | apply Kd.V_alloc | apply Kd.V_drewN | apply Kd.V_drew)); exact HO_221003.out⟩, ⟨by (with_reducible repeat (first | refine blk_drewN ?_ _ | refine blk_drew ?_ | refine blk_alloc ?_ _)); exact BK220.out⟩, ⟨by repeat (first | (with_reducible first | exact HB.out | apply below_alloc | apply pw_below_drewN | apply below_drew1 | refine below_set ?_ GE220.out) | exact HB.out)⟩⟩
        case round =>
          clear H'
          try clear c1
          try clear c2
          try clear p2
          try clear c5
          try clear c5b0
          try clear c5b1
          try clear c8
          try clear hcz6_0
          try clear hcz6_1
          try clear hcz6_2
          try clear hcz6_3
          try clear hcz7_0
          try clear hcz7_1
          try clear hcz7_2
          try clear hcz7_3
          try clear hfz6_0
          try clear hfz6_1
          try clear hfz6_2
          try clear hfz6_3
          try clear hfz7_0
          try clear hfz7_1
          try clear hfz7_2
          try clear hfz7_3
          try clear p2
          obtain ⟨x21_2, rfl, HA, HK2, HO_221003, BK220, HB⟩ := hrel
          cases gk with
          | zero => exact absurd HA.out (by simp [codec_Fields.l0])
          | succ k2 =>
            have H := HA.out
            clear HA
            simp only [codec_Fields.l0] at H
            by_cases c9 : x21_2 < (l1.length : Int)
            · rw [if_pos c9] at H
              have c9b0 : decide (x21_2 < (l1.length : Int)) = true := decide_eq_true c9
              clear c9
              by_cases c10 : 0 ≤ x21_2
              · rw [if_pos c10] at H
                have c10b0 : decide (0 ≤ x21_2) = true := decide_eq_true c10
                clear c10
                by_cases c11 : x21_2 < (l1.length : Int)
                · rw [if_pos c11] at H
                  have c11b0 : decide (x21_2 < (l1.length : Int)) = true := decide_eq_true c11
                  clear c11
                  by_cases c12 : (rd l1 x21_2) = 1
                  · rw [if_pos c12] at H
                    have c12b0 : ((rd l1 x21_2) == 1) = true := beq_iff_eq.mpr c12
                    have c12b1 : ((rd l1 x21_2) != 1) = false := bne_eq_false_iff_eq.mpr c12
                    clear c12
                    by_cases c13 : x21_2 < (l0_3.length : Int)
                    · rw [if_pos c13] at H
                      have c13b0 : decide (x21_2 < (l0_3.length : Int)) = true := decide_eq_true c13
                      clear c13
                      by_cases c14 : ((rd_T43 l0_3 x21_2).f0) = (rd l1 x21_2)
                      · rw [if_pos c14] at H
                        have c14b0 : (((rd_T43 l0_3 x21_2).f0) == (rd l1 x21_2)) = true := beq_iff_eq.mpr c14
                        have c14b1 : (((rd_T43 l0_3 x21_2).f0) != (rd l1 x21_2)) = false := bne_eq_false_iff_eq.mpr c14
                        clear c14
                        have H' := Aside0.mk H
                        clear H
                        have p221 : 0 ≤ (x21_2 : Int) := of_decide_eq_true (by first | (with_reducible assumption) | assumption)
                        have q221 : x21_2 < (l1.length : Int) := of_decide_eq_true (by first | (with_reducible assumption) | assumption)
                        obtain ⟨ad221, e221, hx221_0⟩ := Kd.at_int HR1.out x21_2 p221 q221
                        cases e221
                        replace hx221_0 := (HB.out.cell (World.block_lt_of_cell? w _ hx221_0)).trans hx221_0
                        replace p221 := eq_true p221
                        replace q221 := eq_true q221
                        have hcz15_0 : wr.cell? ⟨gb220, 0, none⟩ = some (.int .i64 a0_0) := (blk_cell BK220.out 0).trans rfl
                        have hcz15_1 : wr.cell? ⟨gb220, 1, none⟩ = some (.int .i64 a0_1) := (blk_cell BK220.out 1).trans rfl
                        have hcz15_2 : wr.cell? ⟨gb220, 2, none⟩ = some (.slice A0_2 l0_2.length c0_2) := (blk_cell BK220.out 2).trans rfl
                        have hcz15_3 : wr.cell? ⟨gb220, 3, none⟩ = some (.slice A0_3 l0_3.length c0_3) := (blk_cell BK220.out 3).trans rfl
                        have hfz15_0 := blk_frozen BK220.out 0
                        have hfz15_1 := blk_frozen BK220.out 1
                        have hfz15_2 := blk_frozen BK220.out 2
                        have hfz15_3 := blk_frozen BK220.out 3
                        have p222 : 0 ≤ (x21_2 : Int) := of_decide_eq_true (by first | (with_reducible assumption) | assumption)
                        have q222 : x21_2 < (l0_3.length : Int) := of_decide_eq_true (by first | (with_reducible assumption) | assumption)
                        obtain ⟨ad222, A222_2, c222_2, A222_3, c222_3, e222, hx222_0, hx222_1, hx222_2, hx222_3, hl222_2, hi222_2, hl222_3, hi222_3⟩ := at_T43 (Kd.V_reads' HO_221003.out).2.2 x21_2 p222 q222
                        cases e222
                        obtain ⟨ce222, hce222, hMe222, hcc222⟩ := Kd.V_get HO_221003.out z43 x21_2 p222 (by first | exact q222 | exact of_decide_eq_true (by first | (with_reducible assumption) | assumption) | (have e_ := (Kd.V_reads' HO_221003.out).1; omega))
                        obtain ⟨ua222_2, uc222_2, ua222_3, uc222_3, rfl, ul222_2, ge222_2, ul222_3, ge222_3⟩ := k43_openF hMe222
                        have hv222_2 := hcc222 2 _ rfl
                        rw [add_field _ _ 2 (by omega)] at hv222_2
                        replace hv222_2 := Option.some.inj (hv222_2.symm.trans hx222_2)
                        injection hv222_2 with hva_ hvn_ hvc_
                        rw [hva_] at ge222_2
                        rw [hvc_] at ul222_2
                        have HL222_2 := Aside0.mk (show Kd.V (Kd.int .u8) 5 _ w.heap.size _ _ ((rd_T43 l0_3 x21_2).f2) from Kd.V_mk ul222_2 ge222_2)
                        clear hva_ hvn_ hvc_ ge222_2 ul222_2
                        have hv222_3 := hcc222 3 _ rfl
                        rw [add_field _ _ 3 (by omega)] at hv222_3
                        replace hv222_3 := Option.some.inj (hv222_3.symm.trans hx222_3)
                        injection hv222_3 with hva_ hvn_ hvc_
                        rw [hva_] at ge222_3
                        rw [hvc_] at ul222_3
                        have HL222_3 := Aside0.mk (show Kd.V k43 43 _ w.heap.size _ _ ((rd_T43 l0_3 x21_2).f3) from Kd.V_mk ul222_3 ge222_3)
                        clear hva_ hvn_ hvc_ ge222_3 ul222_3
                        clear hcc222 hce222
                        have HR222_2 := Aside0.mk hi222_2
                        have HC222_2 := Aside0.mk hl222_2
                        clear hi222_2 hl222_2
                        have HR222_3 := Aside0.mk hi222_3
                        have HC222_3 := Aside0.mk hl222_3
                        clear hi222_3 hl222_3
                        replace p222 := eq_true p222
                        replace q222 := eq_true q222
                        go_wp2
                        go_roundg k2
                        case measure => have := HJ2.out; have := HK2.out; omega
                        case rel => exact ⟨(wrap64 (x21_2 + 1)), (by first | rfl | (simp; done) | (simp [*]; done)), H', ⟨by have := HJ2.out; have := HK2.out; omega⟩, ⟨by (with_reducible repeat (first | apply Kd.V_alloc | apply Kd.V_drewN | apply Kd.V_drew)); exact HO_221003.out⟩, ⟨by (with_reducible repeat (first | refine blk_drewN ?_ _ | refine blk_drew ?_ | refine blk_alloc ?_ _)); exact BK220.out⟩, ⟨by repeat (first | (with_reducible first | exact HB.out | apply below_alloc | apply pw_below_drewN | apply below_drew1 | refine below_set ?_ GE220.out) | exact HB.out)⟩⟩
                      · rw [if_neg c14] at H
                        have c14b0 : (((rd_T43 l0_3 x21_2).f0) == (rd l1 x21_2)) = false := beq_eq_false_iff_ne.mpr c14
                        have c14b1 : (((rd_T43 l0_3 x21_2).f0) != (rd l1 x21_2)) = true := bne_iff_ne.mpr c14
                        simp only [Option.some.injEq, Prod.mk.injEq] at H
                        obtain ⟨rfl, rfl⟩ := H
                        have p221 : 0 ≤ (x21_2 : Int) := of_decide_eq_true (by first | (with_reducible assumption) | assumption)
                        have q221 : x21_2 < (l1.length : Int) := of_decide_eq_true (by first | (with_reducible assumption) | assumption)
                        obtain ⟨ad221, e221, hx221_0⟩ := Kd.at_int HR1.out x21_2 p221 q221
                        cases e221
                        replace hx221_0 := (HB.out.cell (World.block_lt_of_cell? w _ hx221_0)).trans hx221_0
                        replace p221 := eq_true p221
                        replace q221 := eq_true q221
                        have hcz16_0 : wr.cell? ⟨gb220, 0, none⟩ = some (.int .i64 a0_0) := (blk_cell BK220.out 0).trans rfl
                        have hcz16_1 : wr.cell? ⟨gb220, 1, none⟩ = some (.int .i64 a0_1) := (blk_cell BK220.out 1).trans rfl
                        have hcz16_2 : wr.cell? ⟨gb220, 2, none⟩ = some (.slice A0_2 l0_2.length c0_2) := (blk_cell BK220.out 2).trans rfl
                        have hcz16_3 : wr.cell? ⟨gb220, 3, none⟩ = some (.slice A0_3 l0_3.length c0_3) := (blk_cell BK220.out 3).trans rfl
                        have hfz16_0 := blk_frozen BK220.out 0
                        have hfz16_1 := blk_frozen BK220.out 1
                        have hfz16_2 := blk_frozen BK220.out 2
                        have hfz16_3 := blk_frozen BK220.out 3
                        have p222 : 0 ≤ (x21_2 : Int) := of_decide_eq_true (by first | (with_reducible assumption) | assumption)
                        have q222 : x21_2 < (l0_3.length : Int) := of_decide_eq_true (by first | (with_reducible assumption) | assumption)
                        obtain ⟨ad222, A222_2, c222_2, A222_3, c222_3, e222, hx222_0, hx222_1, hx222_2, hx222_3, hl222_2, hi222_2, hl222_3, hi222_3⟩ := at_T43 (Kd.V_reads' HO_221003.out).2.2 x21_2 p222 q222
                        cases e222
                        obtain ⟨ce222, hce222, hMe222, hcc222⟩ := Kd.V_get HO_221003.out z43 x21_2 p222 (by first | exact q222 | exact of_decide_eq_true (by first | (with_reducible assumption) | assumption) | (have e_ := (Kd.V_reads' HO_221003.out).1; omega))
                        obtain ⟨ua222_2, uc222_2, ua222_3, uc222_3, rfl, ul222_2, ge222_2, ul222_3, ge222_3⟩ := k43_openF hMe222
                        have hv222_2 := hcc222 2 _ rfl
                        rw [add_field _ _ 2 (by omega)] at hv222_2
                        replace hv222_2 := Option.some.inj (hv222_2.symm.trans hx222_2)
                        injection hv222_2 with hva_ hvn_ hvc_
                        rw [hva_] at ge222_2
                        rw [hvc_] at ul222_2
                        have HL222_2 := Aside0.mk (show Kd.V (Kd.int .u8) 5 _ w.heap.size _ _ ((rd_T43 l0_3 x21_2).f2) from Kd.V_mk ul222_2 ge222_2)
                        clear hva_ hvn_ hvc_ ge222_2 ul222_2
                        have hv222_3 := hcc222 3 _ rfl
                        rw [add_field _ _ 3 (by omega)] at hv222_3
                        replace hv222_3 := Option.some.inj (hv222_3.symm.trans hx222_3)
                        injection hv222_3 with hva_ hvn_ hvc_
                        rw [hva_] at ge222_3
                        rw [hvc_] at ul222_3
                        have HL222_3 := Aside0.mk (show Kd.V k43 43 _ w.heap.size _ _ ((rd_T43 l0_3 x21_2).f3) from Kd.V_mk ul222_3 ge222_3)
                        clear hva_ hvn_ hvc_ ge222_3 ul222_3
                        clear hcc222 hce222
                        have HR222_2 := Aside0.mk hi222_2
                        have HC222_2 := Aside0.mk hl222_2
                        clear hi222_2 hl222_2
                        have HR222_3 := Aside0.mk hi222_3
                        have HC222_3 := Aside0.mk hl222_3
                        clear hi222_3 hl222_3
                        replace p222 := eq_true p222
                        replace q222 := eq_true q222
                        go_wp2
                        go_ret2
                        exact ⟨_, by first | rfl | (simp [errW_none, errW_some] <;> rfl) | (simp [*, errW_none, errW_some] <;> rfl), Kd.V_mono (Kd.V_nil _ _ _ w.heap.size (fun k_ => w.heap.size ≤ k_)) (fun k_ hk => by first | exact ⟨(.inr (hk.1)), hk.2⟩ | exact (.inr (hk))), by repeat (first | (with_reducible first | exact HB.out | apply below_alloc | apply pw_below_drewN | apply below_drew1 | refine below_set ?_ GE220.out) | exact HB.out)⟩
                    · rw [if_neg c13] at H
                      exact absurd H (by simp)
                  · rw [if_neg c12] at H
                    have c12b0 : ((rd l1 x21_2) == 1) = false := beq_eq_false_iff_ne.mpr c12
                    have c12b1 : ((rd l1 x21_2) != 1) = true := bne_iff_ne.mpr c12
                    by_cases c17 : (rd l1 x21_2) = 2
                    · rw [if_pos c17] at H
                      have c17b0 : ((rd l1 x21_2) == 2) = true := beq_iff_eq.mpr c17
                      have c17b1 : ((rd l1 x21_2) != 2) = false := bne_eq_false_iff_eq.mpr c17
                      clear c17
                      by_cases c18 : x21_2 < (l0_3.length : Int)
                      · rw [if_pos c18] at H
                        have c18b0 : decide (x21_2 < (l0_3.length : Int)) = true := decide_eq_true c18
                        clear c18
                        by_cases c19 : ((rd_T43 l0_3 x21_2).f0) = (rd l1 x21_2)
                        · rw [if_pos c19] at H
                          have c19b0 : (((rd_T43 l0_3 x21_2).f0) == (rd l1 x21_2)) = true := beq_iff_eq.mpr c19
                          have c19b1 : (((rd_T43 l0_3 x21_2).f0) != (rd l1 x21_2)) = false := bne_eq_false_iff_eq.mpr c19
                          clear c19
                          have H' := Aside0.mk H
                          clear H
                          have p221 : 0 ≤ (x21_2 : Int) := of_decide_eq_true (by first | (with_reducible assumption) | assumption)
                          have q221 : x21_2 < (l1.length : Int) := of_decide_eq_true (by first | (with_reducible assumption) | assumption)
                          obtain ⟨ad221, e221, hx221_0⟩ := Kd.at_int HR1.out x21_2 p221 q221
                          cases e221
                          replace hx221_0 := (HB.out.cell (World.block_lt_of_cell? w _ hx221_0)).trans hx221_0
                          replace p221 := eq_true p221
                          replace q221 := eq_true q221
                          have hcz20_0 : wr.cell? ⟨gb220, 0, none⟩ = some (.int .i64 a0_0) := (blk_cell BK220.out 0).trans rfl
                          have hcz20_1 : wr.cell? ⟨gb220, 1, none⟩ = some (.int .i64 a0_1) := (blk_cell BK220.out 1).trans rfl
                          have hcz20_2 : wr.cell? ⟨gb220, 2, none⟩ = some (.slice A0_2 l0_2.length c0_2) := (blk_cell BK220.out 2).trans rfl
                          have hcz20_3 : wr.cell? ⟨gb220, 3, none⟩ = some (.slice A0_3 l0_3.length c0_3) := (blk_cell BK220.out 3).trans rfl
                          have hfz20_0 := blk_frozen BK220.out 0
                          have hfz20_1 := blk_frozen BK220.out 1
                          have hfz20_2 := blk_frozen BK220.out 2
                          have hfz20_3 := blk_frozen BK220.out 3
                          have p223 : 0 ≤ (x21_2 : Int) := of_decide_eq_true (by first | (with_reducible assumption) | assumption)
                          have q223 : x21_2 < (l0_3.length : Int) := of_decide_eq_true (by first | (with_reducible assumption) | assumption)
                          obtain ⟨ad223, A223_2, c223_2, A223_3, c223_3, e223, hx223_0, hx223_1, hx223_2, hx223_3, hl223_2, hi223_2, hl223_3, hi223_3⟩ := at_T43 (Kd.V_reads' HO_221003.out).2.2 x21_2 p223 q223
                          cases e223
                          obtain ⟨ce223, hce223, hMe223, hcc223⟩ := Kd.V_get HO_221003.out z43 x21_2 p223 (by first | exact q223 | exact of_decide_eq_true (by first | (with_reducible assumption) | assumption) | (have e_ := (Kd.V_reads' HO_221003.out).1; omega))
                          obtain ⟨ua223_2, uc223_2, ua223_3, uc223_3, rfl, ul223_2, ge223_2, ul223_3, ge223_3⟩ := k43_openF hMe223
                          have hv223_2 := hcc223 2 _ rfl
                          rw [add_field _ _ 2 (by omega)] at hv223_2
                          replace hv223_2 := Option.some.inj (hv223_2.symm.trans hx223_2)
                          injection hv223_2 with hva_ hvn_ hvc_
                          rw [hva_] at ge223_2
                          rw [hvc_] at ul223_2
                          have HL223_2 := Aside0.mk (show Kd.V (Kd.int .u8) 5 _ w.heap.size _ _ ((rd_T43 l0_3 x21_2).f2) from Kd.V_mk ul223_2 ge223_2)
                          clear hva_ hvn_ hvc_ ge223_2 ul223_2
                          have hv223_3 := hcc223 3 _ rfl
                          rw [add_field _ _ 3 (by omega)] at hv223_3
                          replace hv223_3 := Option.some.inj (hv223_3.symm.trans hx223_3)
                          injection hv223_3 with hva_ hvn_ hvc_
                          rw [hva_] at ge223_3
                          rw [hvc_] at ul223_3
                          have HL223_3 := Aside0.mk (show Kd.V k43 43 _ w.heap.size _ _ ((rd_T43 l0_3 x21_2).f3) from Kd.V_mk ul223_3 ge223_3)
                          clear hva_ hvn_ hvc_ ge223_3 ul223_3
                          clear hcc223 hce223
                          have HR223_2 := Aside0.mk hi223_2
                          have HC223_2 := Aside0.mk hl223_2
                          clear hi223_2 hl223_2
                          have HR223_3 := Aside0.mk hi223_3
                          have HC223_3 := Aside0.mk hl223_3
                          clear hi223_3 hl223_3
                          replace p223 := eq_true p223
                          replace q223 := eq_true q223
                          go_wp2
                          go_roundg k2
                          case measure => have := HJ2.out; have := HK2.out; omega
                          case rel => exact ⟨(wrap64 (x21_2 + 1)), (by first | rfl | (simp; done) | (simp [*]; done)), H', ⟨by have := HJ2.out; have := HK2.out; omega⟩, ⟨by (with_reducible repeat (first | apply Kd.V_alloc | apply Kd.V_drewN | apply Kd.V_drew)); exact HO_221003.out⟩, ⟨by (with_reducible repeat (first | refine blk_drewN ?_ _ | refine blk_drew ?_ | refine blk_alloc ?_ _)); exact BK220.out⟩, ⟨by repeat (first | (with_reducible first | exact HB.out | apply below_alloc | apply pw_below_drewN | apply below_drew1 | refine below_set ?_ GE220.out) | exact HB.out)⟩⟩
                        · rw [if_neg c19] at H
                          have c19b0 : (((rd_T43 l0_3 x21_2).f0) == (rd l1 x21_2)) = false := beq_eq_false_iff_ne.mpr c19
                          have c19b1 : (((rd_T43 l0_3 x21_2).f0) != (rd l1 x21_2)) = true := bne_iff_ne.mpr c19
                          simp only [Option.some.injEq, Prod.mk.injEq] at H
                          obtain ⟨rfl, rfl⟩ := H
                          have p221 : 0 ≤ (x21_2 : Int) := of_decide_eq_true (by first | (with_reducible assumption) | assumption)
                          have q221 : x21_2 < (l1.length : Int) := of_decide_eq_true (by first | (with_reducible assumption) | assumption)
                          obtain ⟨ad221, e221, hx221_0⟩ := Kd.at_int HR1.out x21_2 p221 q221
                          cases e221
                          replace hx221_0 := (HB.out.cell (World.block_lt_of_cell? w _ hx221_0)).trans hx221_0
                          replace p221 := eq_true p221
                          replace q221 := eq_true q221
                          have hcz21_0 : wr.cell? ⟨gb220, 0, none⟩ = some (.int .i64 a0_0) := (blk_cell BK220.out 0).trans rfl
                          have hcz21_1 : wr.cell? ⟨gb220, 1, none⟩ = some (.int .i64 a0_1) := (blk_cell BK220.out 1).trans rfl
                          have hcz21_2 : wr.cell? ⟨gb220, 2, none⟩ = some (.slice A0_2 l0_2.length c0_2) := (blk_cell BK220.out 2).trans rfl
                          have hcz21_3 : wr.cell? ⟨gb220, 3, none⟩ = some (.slice A0_3 l0_3.length c0_3) := (blk_cell BK220.out 3).trans rfl
                          have hfz21_0 := blk_frozen BK220.out 0
                          have hfz21_1 := blk_frozen BK220.out 1
                          have hfz21_2 := blk_frozen BK220.out 2
                          have hfz21_3 := blk_frozen BK220.out 3
                          have p223 : 0 ≤ (x21_2 : Int) := of_decide_eq_true (by first | (with_reducible assumption) | assumption)
                          have q223 : x21_2 < (l0_3.length : Int) := of_decide_eq_true (by first | (with_reducible assumption) | assumption)
                          obtain ⟨ad223, A223_2, c223_2, A223_3, c223_3, e223, hx223_0, hx223_1, hx223_2, hx223_3, hl223_2, hi223_2, hl223_3, hi223_3⟩ := at_T43 (Kd.V_reads' HO_221003.out).2.2 x21_2 p223 q223
                          cases e223
                          obtain ⟨ce223, hce223, hMe223, hcc223⟩ := Kd.V_get HO_221003.out z43 x21_2 p223 (by first | exact q223 | exact of_decide_eq_true (by first | (with_reducible assumption) | assumption) | (have e_ := (Kd.V_reads' HO_221003.out).1; omega))
                          obtain ⟨ua223_2, uc223_2, ua223_3, uc223_3, rfl, ul223_2, ge223_2, ul223_3, ge223_3⟩ := k43_openF hMe223
                          have hv223_2 := hcc223 2 _ rfl
                          rw [add_field _ _ 2 (by omega)] at hv223_2
                          replace hv223_2 := Option.some.inj (hv223_2.symm.trans hx223_2)
                          injection hv223_2 with hva_ hvn_ hvc_
                          rw [hva_] at ge223_2
                          rw [hvc_] at ul223_2
                          have HL223_2 := Aside0.mk (show Kd.V (Kd.int .u8) 5 _ w.heap.size _ _ ((rd_T43 l0_3 x21_2).f2) from Kd.V_mk ul223_2 ge223_2)
                          clear hva_ hvn_ hvc_ ge223_2 ul223_2
                          have hv223_3 := hcc223 3 _ rfl
                          rw [add_field _ _ 3 (by omega)] at hv223_3
                          replace hv223_3 := Option.some.inj (hv223_3.symm.trans hx223_3)
                          injection hv223_3 with hva_ hvn_ hvc_
                          rw [hva_] at ge223_3
                          rw [hvc_] at ul223_3
                          have HL223_3 := Aside0.mk (show Kd.V k43 43 _ w.heap.size _ _ ((rd_T43 l0_3 x21_2).f3) from Kd.V_mk ul223_3 ge223_3)
                          clear hva_ hvn_ hvc_ ge223_3 ul223_3
                          clear hcc223 hce223
                          have HR223_2 := Aside0.mk hi223_2
                          have HC223_2 := Aside0.mk hl223_2
                          clear hi223_2 hl223_2
                          have HR223_3 := Aside0.mk hi223_3
                          have HC223_3 := Aside0.mk hl223_3
                          clear hi223_3 hl223_3
                          replace p223 := eq_true p223
                          replace q223 := eq_true q223
                          go_wp2
                          go_ret2
                          exact ⟨_, by first | rfl | (simp [errW_none, errW_some] <;> rfl) | (simp [*, errW_none, errW_some] <;> rfl), Kd.V_mono (Kd.V_nil _ _ _ w.heap.size (fun k_ => w.heap.size ≤ k_)) (fun k_ hk => by first | exact ⟨(.inr (hk.1)), hk.2⟩ | exact (.inr (hk))), by repeat (first | (with_reducible first | exact HB.out | apply below_alloc | apply pw_below_drewN | apply below_drew1 | refine below_set ?_ GE220.out) | exact HB.out)⟩
                      · rw [if_neg c18] at H
                        exact absurd H (by simp)
                    · rw [if_neg c17] at H
                      have c17b0 : ((rd l1 x21_2) == 2) = false := beq_eq_false_iff_ne.mpr c17
                      have c17b1 : ((rd l1 x21_2) != 2) = true := bne_iff_ne.mpr c17
                      by_cases c22 : x21_2 < (l0_3.length : Int)
                      · rw [if_pos c22] at H
                        have c22b0 : decide (x21_2 < (l0_3.length : Int)) = true := decide_eq_true c22
                        clear c22
                        by_cases c23 : ((rd_T43 l0_3 x21_2).f0) = (rd l1 x21_2)
                        · rw [if_pos c23] at H
                          have c23b0 : (((rd_T43 l0_3 x21_2).f0) == (rd l1 x21_2)) = true := beq_iff_eq.mpr c23
                          have c23b1 : (((rd_T43 l0_3 x21_2).f0) != (rd l1 x21_2)) = false := bne_eq_false_iff_eq.mpr c23
                          clear c23
                          have H' := Aside0.mk H
                          clear H
                          have p221 : 0 ≤ (x21_2 : Int) := of_decide_eq_true (by first | (with_reducible assumption) | assumption)
                          have q221 : x21_2 < (l1.length : Int) := of_decide_eq_true (by first | (with_reducible assumption) | assumption)
                          obtain ⟨ad221, e221, hx221_0⟩ := Kd.at_int HR1.out x21_2 p221 q221
                          cases e221
                          replace hx221_0 := (HB.out.cell (World.block_lt_of_cell? w _ hx221_0)).trans hx221_0
                          replace p221 := eq_true p221
                          replace q221 := eq_true q221
                          have hcz24_0 : wr.cell? ⟨gb220, 0, none⟩ = some (.int .i64 a0_0) := (blk_cell BK220.out 0).trans rfl
                          have hcz24_1 : wr.cell? ⟨gb220, 1, none⟩ = some (.int .i64 a0_1) := (blk_cell BK220.out 1).trans rfl
                          have hcz24_2 : wr.cell? ⟨gb220, 2, none⟩ = some (.slice A0_2 l0_2.length c0_2) := (blk_cell BK220.out 2).trans rfl
                          have hcz24_3 : wr.cell? ⟨gb220, 3, none⟩ = some (.slice A0_3 l0_3.length c0_3) := (blk_cell BK220.out 3).trans rfl
                          have hfz24_0 := blk_frozen BK220.out 0
                          have hfz24_1 := blk_frozen BK220.out 1
                          have hfz24_2 := blk_frozen BK220.out 2
                          have hfz24_3 := blk_frozen BK220.out 3
                          have p224 : 0 ≤ (x21_2 : Int) := of_decide_eq_true (by first | (with_reducible assumption) | assumption)
                          have q224 : x21_2 < (l0_3.length : Int) := of_decide_eq_true (by first | (with_reducible assumption) | assumption)
                          obtain ⟨ad224, A224_2, c224_2, A224_3, c224_3, e224, hx224_0, hx224_1, hx224_2, hx224_3, hl224_2, hi224_2, hl224_3, hi224_3⟩ := at_T43 (Kd.V_reads' HO_221003.out).2.2 x21_2 p224 q224
                          cases e224
                          obtain ⟨ce224, hce224, hMe224, hcc224⟩ := Kd.V_get HO_221003.out z43 x21_2 p224 (by first | exact q224 | exact of_decide_eq_true (by first | (with_reducible assumption) | assumption) | (have e_ := (Kd.V_reads' HO_221003.out).1; omega))
                          obtain ⟨ua224_2, uc224_2, ua224_3, uc224_3, rfl, ul224_2, ge224_2, ul224_3, ge224_3⟩ := k43_openF hMe224
                          have hv224_2 := hcc224 2 _ rfl
                          rw [add_field _ _ 2 (by omega)] at hv224_2
                          replace hv224_2 := Option.some.inj (hv224_2.symm.trans hx224_2)
                          injection hv224_2 with hva_ hvn_ hvc_
                          rw [hva_] at ge224_2
                          rw [hvc_] at ul224_2
                          have HL224_2 := Aside0.mk (show Kd.V (Kd.int .u8) 5 _ w.heap.size _ _ ((rd_T43 l0_3 x21_2).f2) from Kd.V_mk ul224_2 ge224_2)
                          clear hva_ hvn_ hvc_ ge224_2 ul224_2
                          have hv224_3 := hcc224 3 _ rfl
                          rw [add_field _ _ 3 (by omega)] at hv224_3
                          replace hv224_3 := Option.some.inj (hv224_3.symm.trans hx224_3)
                          injection hv224_3 with hva_ hvn_ hvc_
                          rw [hva_] at ge224_3
                          rw [hvc_] at ul224_3
                          have HL224_3 := Aside0.mk (show Kd.V k43 43 _ w.heap.size _ _ ((rd_T43 l0_3 x21_2).f3) from Kd.V_mk ul224_3 ge224_3)
                          clear hva_ hvn_ hvc_ ge224_3 ul224_3
                          clear hcc224 hce224
                          have HR224_2 := Aside0.mk hi224_2
                          have HC224_2 := Aside0.mk hl224_2
                          clear hi224_2 hl224_2
                          have HR224_3 := Aside0.mk hi224_3
                          have HC224_3 := Aside0.mk hl224_3
                          clear hi224_3 hl224_3
                          replace p224 := eq_true p224
                          replace q224 := eq_true q224
                          go_wp2
                          go_roundg k2
                          case measure => have := HJ2.out; have := HK2.out; omega
                          case rel => exact ⟨(wrap64 (x21_2 + 1)), (by first | rfl | (simp; done) | (simp [*]; done)), H', ⟨by have := HJ2.out; have := HK2.out; omega⟩, ⟨by (with_reducible repeat (first | apply Kd.V_alloc | apply Kd.V_drewN | apply Kd.V_drew)); exact HO_221003.out⟩, ⟨by (with_reducible repeat (first | refine blk_drewN ?_ _ | refine blk_drew ?_ | refine blk_alloc ?_ _)); exact BK220.out⟩, ⟨by repeat (first | (with_reducible first | exact HB.out | apply below_alloc | apply pw_below_drewN | apply below_drew1 | refine below_set ?_ GE220.out) | exact HB.out)⟩⟩
                        · rw [if_neg c23] at H
                          have c23b0 : (((rd_T43 l0_3 x21_2).f0) == (rd l1 x21_2)) = false := beq_eq_false_iff_ne.mpr c23
                          have c23b1 : (((rd_T43 l0_3 x21_2).f0) != (rd l1 x21_2)) = true := bne_iff_ne.mpr c23
                          simp only [Option.some.injEq, Prod.mk.injEq] at H
                          obtain ⟨rfl, rfl⟩ := H
                          have p221 : 0 ≤ (x21_2 : Int) := of_decide_eq_true (by first | (with_reducible assumption) | assumption)
                          have q221 : x21_2 < (l1.length : Int) := of_decide_eq_true (by first | (with_reducible assumption) | assumption)
                          obtain ⟨ad221, e221, hx221_0⟩ := Kd.at_int HR1.out x21_2 p221 q221
                          cases e221
                          replace hx221_0 := (HB.out.cell (World.block_lt_of_cell? w _ hx221_0)).trans hx221_0
                          replace p221 := eq_true p221
                          replace q221 := eq_true q221
                          have hcz25_0 : wr.cell? ⟨gb220, 0, none⟩ = some (.int .i64 a0_0) := (blk_cell BK220.out 0).trans rfl
                          have hcz25_1 : wr.cell? ⟨gb220, 1, none⟩ = some (.int .i64 a0_1) := (blk_cell BK220.out 1).trans rfl
                          have hcz25_2 : wr.cell? ⟨gb220, 2, none⟩ = some (.slice A0_2 l0_2.length c0_2) := (blk_cell BK220.out 2).trans rfl
                          have hcz25_3 : wr.cell? ⟨gb220, 3, none⟩ = some (.slice A0_3 l0_3.length c0_3) := (blk_cell BK220.out 3).trans rfl
                          have hfz25_0 := blk_frozen BK220.out 0
                          have hfz25_1 := blk_frozen BK220.out 1
                          have hfz25_2 := blk_frozen BK220.out 2
                          have hfz25_3 := blk_frozen BK220.out 3
                          have p224 : 0 ≤ (x21_2 : Int) := of_decide_eq_true (by first | (with_reducible assumption) | assumption)
                          have q224 : x21_2 < (l0_3.length : Int) := of_decide_eq_true (by first | (with_reducible assumption) | assumption)
                          obtain ⟨ad224, A224_2, c224_2, A224_3, c224_3, e224, hx224_0, hx224_1, hx224_2, hx224_3, hl224_2, hi224_2, hl224_3, hi224_3⟩ := at_T43 (Kd.V_reads' HO_221003.out).2.2 x21_2 p224 q224
                          cases e224
                          obtain ⟨ce224, hce224, hMe224, hcc224⟩ := Kd.V_get HO_221003.out z43 x21_2 p224 (by first | exact q224 | exact of_decide_eq_true (by first | (with_reducible assumption) | assumption) | (have e_ := (Kd.V_reads' HO_221003.out).1; omega))
                          obtain ⟨ua224_2, uc224_2, ua224_3, uc224_3, rfl, ul224_2, ge224_2, ul224_3, ge224_3⟩ := k43_openF hMe224
                          have hv224_2 := hcc224 2 _ rfl
                          rw [add_field _ _ 2 (by omega)] at hv224_2
                          replace hv224_2 := Option.some.inj (hv224_2.symm.trans hx224_2)
                          injection hv224_2 with hva_ hvn_ hvc_
                          rw [hva_] at ge224_2
                          rw [hvc_] at ul224_2
                          have HL224_2 := Aside0.mk (show Kd.V (Kd.int .u8) 5 _ w.heap.size _ _ ((rd_T43 l0_3 x21_2).f2) from Kd.V_mk ul224_2 ge224_2)
                          clear hva_ hvn_ hvc_ ge224_2 ul224_2
                          have hv224_3 := hcc224 3 _ rfl
                          rw [add_field _ _ 3 (by omega)] at hv224_3
                          replace hv224_3 := Option.some.inj (hv224_3.symm.trans hx224_3)
                          injection hv224_3 with hva_ hvn_ hvc_
                          rw [hva_] at ge224_3
                          rw [hvc_] at ul224_3
                          have HL224_3 := Aside0.mk (show Kd.V k43 43 _ w.heap.size _ _ ((rd_T43 l0_3 x21_2).f3) from Kd.V_mk ul224_3 ge224_3)
                          clear hva_ hvn_ hvc_ ge224_3 ul224_3
                          clear hcc224 hce224
                          have HR224_2 := Aside0.mk hi224_2
                          have HC224_2 := Aside0.mk hl224_2
                          clear hi224_2 hl224_2
                          have HR224_3 := Aside0.mk hi224_3
                          have HC224_3 := Aside0.mk hl224_3
                          clear hi224_3 hl224_3
                          replace p224 := eq_true p224
                          replace q224 := eq_true q224
                          go_wp2
                          go_ret2
                          exact ⟨_, by first | rfl | (simp [errW_none, errW_some] <;> rfl) | (simp [*, errW_none, errW_some] <;> rfl), Kd.V_mono (Kd.V_nil _ _ _ w.heap.size (fun k_ => w.heap.size ≤ k_)) (fun k_ hk => by first | exact ⟨(.inr (hk.1)), hk.2⟩ | exact (.inr (hk))), by repeat (first | (with_reducible first | exact HB.out | apply below_alloc | apply pw_below_drewN | apply below_drew1 | refine below_set ?_ GE220.out) | exact HB.out)⟩
                      · rw [if_neg c22] at H
                        exact absurd H (by simp)
                · rw [if_neg c11] at H
                  exact absurd H (by simp)
              · rw [if_neg c10] at H
                exact absurd H (by simp)
            · rw [if_neg c9] at H
              have c9b0 : decide (x21_2 < (l1.length : Int)) = false := decide_eq_false c9
              clear c9
              simp only [Option.some.injEq, Prod.mk.injEq] at H
              obtain ⟨rfl, rfl⟩ := H
              have hcz26_0 : wr.cell? ⟨gb220, 0, none⟩ = some (.int .i64 a0_0) := (blk_cell BK220.out 0).trans rfl
              have hcz26_1 : wr.cell? ⟨gb220, 1, none⟩ = some (.int .i64 a0_1) := (blk_cell BK220.out 1).trans rfl
              have hcz26_2 : wr.cell? ⟨gb220, 2, none⟩ = some (.slice A0_2 l0_2.length c0_2) := (blk_cell BK220.out 2).trans rfl
              have hcz26_3 : wr.cell? ⟨gb220, 3, none⟩ = some (.slice A0_3 l0_3.length c0_3) := (blk_cell BK220.out 3).trans rfl
              have hfz26_0 := blk_frozen BK220.out 0
              have hfz26_1 := blk_frozen BK220.out 1
              have hfz26_2 := blk_frozen BK220.out 2
              have hfz26_3 := blk_frozen BK220.out 3
              go_wp2
              go_ret2
              exact ⟨_, by first | rfl | (simp [errW_none, errW_some] <;> rfl) | (simp [*, errW_none, errW_some] <;> rfl), by (with_reducible repeat (first | apply Kd.V_alloc | apply Kd.V_drewN | apply Kd.V_drew)); exact Kd.V_mono HO_221003.out (fun _ hk => hk.1), by repeat (first | (with_reducible first | exact HB.out | apply below_alloc | apply pw_below_drewN | apply below_drew1 | refine below_set ?_ GE220.out) | exact HB.out)⟩

end Go.Proofs.Ytiibnfnjfmcggaa.PCodecFields
