-- Written by drive.py of this work: the kit's print.py with contracts of this work laid in.
import Derived.Test.YtiibnfnjfmcggaaDoorPCallReadsx0
namespace Go.Proofs.YtiibnfnjfmcggaaDoor.PCallReads
open Go.RowKit Go.Proofs.YtiibnfnjfmcggaaDoorW.PrintWords Go.Proofs.YtiibnfnjfmcggaaDoorW.PrintLast Go.Proofs.YtiibnfnjfmcggaaDoorW.PrintMore
attribute [local go_sem] max2_int min2_int max_two min_two max_three min_three max_four min_four   -- for this text's walks alone
set_option linter.unusedVariables false
set_option linter.unusedSimpArgs false

/-! ### codec_Fields: function 29 -/
mutual
def codec_Fields.j0 : Nat → List Int → Bool → Int → Int → List Int → List (S43) → Option ((List (S43)) × Bool)
 | 0, _, _, _, _, _, _ => none
 | k + 1, x1, x18, x245000, x245001, x245002, x245003 => if x18 = true then (some (([] : List (S43)), false)) else (codec_Fields.l0 k x1 (x1.length : Int) 0 x245000 x245001 x245002 x245003)
def codec_Fields.l0 : Nat → List Int → Int → Int → Int → Int → List Int → List (S43) → Option ((List (S43)) × Bool)
 | 0, _, _, _, _, _, _, _ => none
 | k + 1, x19, x20, x21, x245000, x245001, x245002, x245003 => if x21 < x20 then (if 0 ≤ x21 then (if x21 < (x19.length : Int) then (if (rd x19 x21) = 1 then (if x21 < (x245003.length : Int) then (if ((rd_T43 x245003 x21).f0) = (rd x19 x21) then (codec_Fields.l0 k x19 x20 (wrap64 (x21 + 1)) x245000 x245001 x245002 x245003) else (some (([] : List (S43)), false))) else (none)) else (if (rd x19 x21) = 2 then (if x21 < (x245003.length : Int) then (if ((rd_T43 x245003 x21).f0) = (rd x19 x21) then (codec_Fields.l0 k x19 x20 (wrap64 (x21 + 1)) x245000 x245001 x245002 x245003) else (some (([] : List (S43)), false))) else (none)) else (if x21 < (x245003.length : Int) then (if ((rd_T43 x245003 x21).f0) = (rd x19 x21) then (codec_Fields.l0 k x19 x20 (wrap64 (x21 + 1)) x245000 x245001 x245002 x245003) else (some (([] : List (S43)), false))) else (none)))) else (none)) else (none)) else (some (x245003, true))
end
def codec_Fields.f (k : Nat) (a0_0 : Int) (a0_1 : Int) (l0_2 : List Int) (l0_3 : List (S43)) (l1 : List Int) : Option ((List (S43)) × Bool) := if a0_0 = 3 then (codec_Fields.j0 k l1 ((l0_3.length : Int) != (l1.length : Int)) a0_0 a0_1 l0_2 l0_3) else (codec_Fields.j0 k l1 true a0_0 a0_1 l0_2 l0_3)
theorem codec_Fields.mono_l : ∀ k, (∀ y0 y1 y2 y3 y4 y5, LeO (codec_Fields.j0 k y0 y1 y2 y3 y4 y5) (codec_Fields.j0 (k + 1) y0 y1 y2 y3 y4 y5)) ∧ (∀ y0 y1 y2 y3 y4 y5 y6, LeO (codec_Fields.l0 k y0 y1 y2 y3 y4 y5 y6) (codec_Fields.l0 (k + 1) y0 y1 y2 y3 y4 y5 y6))
 | 0 => ⟨fun _ _ _ _ _ _ r h => by simp [codec_Fields.j0] at h, fun _ _ _ _ _ _ _ r h => by simp [codec_Fields.l0] at h⟩
 | k + 1 => by
  obtain ⟨ih0, ih1⟩ := codec_Fields.mono_l k
  refine ⟨?_, ?_⟩
  ·intro y0 y1 y2 y3 y4 y5
   unfold codec_Fields.j0
   repeat' first
   | (with_reducible exact ih0 _ _ _ _ _ _)
   | (with_reducible exact ih1 _ _ _ _ _ _ _)
   | (with_reducible exact LeO.refl _)
   | (with_reducible exact LeO.none _)
   | (with_reducible refine LeO.ite ?_ ?_)
   | (with_reducible refine LeO.bind ?_ (fun _ => ?_))
   | exact ih0 _ _ _ _ _ _
   | exact ih1 _ _ _ _ _ _ _
   | exact LeO.none _
   | refine LeO.ite ?_ ?_
   | refine LeO.bind ?_ (fun _ => ?_)
  ·intro y0 y1 y2 y3 y4 y5 y6
   unfold codec_Fields.l0
   repeat' first
   | (with_reducible exact ih0 _ _ _ _ _ _)
   | (with_reducible exact ih1 _ _ _ _ _ _ _)
   | (with_reducible exact LeO.refl _)
   | (with_reducible exact LeO.none _)
   | (with_reducible refine LeO.ite ?_ ?_)
   | (with_reducible refine LeO.bind ?_ (fun _ => ?_))
   | exact ih0 _ _ _ _ _ _
   | exact ih1 _ _ _ _ _ _ _
   | exact LeO.none _
   | refine LeO.ite ?_ ?_
   | refine LeO.bind ?_ (fun _ => ?_)
theorem codec_Fields.mono : ∀ a0 a1 a2 a3 a4 k, LeO (codec_Fields.f k a0 a1 a2 a3 a4) (codec_Fields.f (k + 1) a0 a1 a2 a3 a4) := by
 intro a0 a1 a2 a3 a4 k
 obtain ⟨ih0, ih1⟩ := codec_Fields.mono_l k
 unfold codec_Fields.f
 repeat' first
   | (with_reducible exact ih0 _ _ _ _ _ _)
   | (with_reducible exact ih1 _ _ _ _ _ _ _)
   | (with_reducible exact LeO.refl _)
   | (with_reducible exact LeO.none _)
   | (with_reducible refine LeO.ite ?_ ?_)
   | (with_reducible refine LeO.bind ?_ (fun _ => ?_))
   | exact ih0 _ _ _ _ _ _
   | exact ih1 _ _ _ _ _ _ _
   | exact LeO.none _
   | refine LeO.ite ?_ ?_
   | refine LeO.bind ?_ (fun _ => ?_)
set_option maxHeartbeats 8000000 in
set_option maxRecDepth 100000 in
theorem codec_Fields.calls (k : Nat) (a0_0 : Int) (a0_1 : Int) (A0_2 : Option Addr) (c0_2 : Nat) (l0_2 : List Int) (P0_3_ : Nat → Prop) (A0_3 : Option Addr) (c0_3 : Nat) (l0_3 : List (S43)) (A1 : Option Addr) (c1 : Nat) (l1 : List Int) (r1 : List (S43)) (r2 : Bool) (w : World) (hr0_2 : Kd.C (Kd.int .u8) w A0_2 l0_2.length l0_2) (hc0_2 : l0_2.length ≤ c0_2) (hs0_3 : Kd.V k43 43 w w.heap.size (fun k_ => P0_3_ k_) (.slice A0_3 l0_3.length c0_3) l0_3) (hr1 : Kd.C (Kd.int .i64) w A1 l1.length l1) (hc1 : l1.length ≤ c1) (h : codec_Fields.f k a0_0 a0_1 l0_2 l0_3 l1 = some (r1, r2)) :
  Calls Tryd.prog 29 #[.agg #[.int .i64 a0_0, .int .i64 a0_1, .slice A0_2 l0_2.length c0_2, .slice A0_3 l0_3.length c0_3], .slice A1 l1.length c1] w fun e w' => ∃ v0_ : Value, e = .returned (.tuple #[v0_, .bool r2]) ∧ Kd.V k43 43 w' w.heap.size (fun k_ => (P0_3_ k_ ∨ w.heap.size ≤ k_)) v0_ r1 ∧ Below w.heap.size w w' := by
 have hu43 := Tryd.underlying43
 have HR0_2 := Aside0.mk hr0_2
 have HC0_2 := Aside0.mk hc0_2
 clear hr0_2 hc0_2
 have HO0_3 := Aside0.mk (show Kd.V k43 43 w w.heap.size (fun k_ => (P0_3_ k_ ∨ w.heap.size ≤ k_)) (.slice A0_3 l0_3.length c0_3) l0_3 from Kd.V_mono hs0_3 (fun k_ hk => .inl hk))
 have HR1 := Aside0.mk hr1
 have HC1 := Aside0.mk hc1
 clear hr1 hc1
 have HB := Aside0.mk (Below.refl w.heap.size w)
 have H : (if a0_0 = 3 then (codec_Fields.j0 k l1 ((l0_3.length : Int) != (l1.length : Int)) a0_0 a0_1 l0_2 l0_3) else (codec_Fields.j0 k l1 true a0_0 a0_1 l0_2 l0_3)) = some (r1, r2) := h
 clear h
 have HC3 := Aside0.mk H
 clear H
 go_enter Tryd.func29, Tryd.ntmps29
 go_upto_region 1 with (first | ((with_reducible refine gate_dst (N := 2) rfl ?_); (try (refine gate_guard (by rfl) ?_; dsimp only)); refine box_event ?hg (N := 2) ?hd (cs := #[.int .i64 a0_0, .int .i64 a0_1, .slice A0_2 l0_2.length c0_2, .slice A0_3 l0_3.length c0_3]) (t := 43) ?hr ?_; (case hd => rfl); (case hg => rfl); (case hr => first | (go_simp; done) | (go_simp; rfl)); intro gb244 hg w4 hbox hb; have n0_ := Aside0.mk (Kd.V_below (Kd.V_elderB (by (with_reducible repeat (first | apply Kd.V_alloc | apply Kd.V_drewN | apply Kd.V_drew)); exact HO0_3.out) gb244 (Nat.le_of_eq hg.symm)) hb); have n1_ := Aside0.mk (below_step (by repeat (first | (with_reducible first | exact HB.out | apply below_alloc | apply pw_below_drewN | apply below_drew1) | exact HB.out)) hb); have n2_ := Aside0.mk (hbox); have n3_ := Aside0.mk ((by rw [hg]; exact (below_size (by repeat (first | (with_reducible first | exact HB.out | apply below_alloc | apply pw_below_drewN | apply below_drew1) | exact HB.out))) : w.heap.size ≤ gb244)); have n4_ := Aside0.mk ((by rw [hg]; exact (below_size (by repeat (first | (with_reducible first | exact HB.out | apply below_alloc | apply pw_below_drewN | apply below_drew1) | exact HB.out))) : w.heap.size ≤ gb244)); clear HO0_3; clear HB; have HO0_3 := n0_; have HB := n1_; have BK244 := n2_; have GW244 := n3_; have GE244 := n4_; clear n0_ n1_ n2_ n3_ n4_; clear hb hbox hg))
 (try simp only [Act.put, List.setIfInBounds_toArray, List.set_cons_zero, List.set_cons_succ])
 go_cut [18] (fun v18 wc => ∃ (kq : Nat) (x18_2 : Bool), v18 = .bool x18_2 ∧ Aside0 (codec_Fields.j0 kq l1 x18_2 a0_0 a0_1 l0_2 l0_3 = some (r1, r2)) ∧ Aside0 (kq ≤ k) ∧ Aside0 (Kd.V k43 43 wc w.heap.size (fun k_ => (P0_3_ k_ ∨ w.heap.size ≤ k_) ∧ k_ ≠ gb244) (.slice A0_3 l0_3.length c0_3) l0_3) ∧ Aside0 (wc.heap[gb244]? = some (.cells #[.int .i64 a0_0, .int .i64 a0_1, (.slice A0_2 l0_2.length c0_2), (.slice A0_3 l0_3.length c0_3)] 43 (0, 0))) ∧ Aside0 (Below w.heap.size w wc))
 case first =>
  have H := HC3.out
  clear HC3
  by_cases c5 : a0_0 = 3
  ·rw [if_pos c5] at H
   have c5b0 : (a0_0 == 3) = true := beq_iff_eq.mpr c5
   have c5b1 : (a0_0 != 3) = false := bne_eq_false_iff_eq.mpr c5
   clear c5
   (first | rw [c5b0] | (simp only [i64_w, i32_w]; rw [c5b0]) | skip)
   have H' := Aside0.mk H
   clear H
   have hcz6_0 : w4.cell? ⟨gb244, 0, none⟩ = some (.int .i64 a0_0) := (blk_cell BK244.out 0).trans rfl
   have hcz6_1 : w4.cell? ⟨gb244, 1, none⟩ = some (.int .i64 a0_1) := (blk_cell BK244.out 1).trans rfl
   have hcz6_2 : w4.cell? ⟨gb244, 2, none⟩ = some (.slice A0_2 l0_2.length c0_2) := (blk_cell BK244.out 2).trans rfl
   have hcz6_3 : w4.cell? ⟨gb244, 3, none⟩ = some (.slice A0_3 l0_3.length c0_3) := (blk_cell BK244.out 3).trans rfl
   have hfz6_0 := blk_frozen BK244.out 0
   have hfz6_1 := blk_frozen BK244.out 1
   have hfz6_2 := blk_frozen BK244.out 2
   have hfz6_3 := blk_frozen BK244.out 3
   go_wp2
   go_meet
   case rel => exact ⟨_, (((l0_3.length : Int) != (l1.length : Int))), (by first | rfl | (simp; done) | (simp [*]; done)), H', ⟨by first | omega | exact Nat.le_refl _⟩, ⟨by (with_reducible repeat (first | apply Kd.V_alloc | apply Kd.V_drewN | apply Kd.V_drew)); exact HO0_3.out⟩, ⟨by (with_reducible repeat (first | refine blk_drewN ?_ _ | refine blk_drew ?_ | refine blk_alloc ?_ _)); exact BK244.out⟩, ⟨by repeat (first | (with_reducible first | exact HB.out | apply below_alloc | apply pw_below_drewN | apply below_drew1 | refine below_set ?_ GE244.out) | exact HB.out)⟩⟩
  ·rw [if_neg c5] at H
   have c5b0 : (a0_0 == 3) = false := beq_eq_false_iff_ne.mpr c5
   have c5b1 : (a0_0 != 3) = true := bne_iff_ne.mpr c5
   (first | rw [c5b0] | (simp only [i64_w, i32_w]; rw [c5b0]) | skip)
   have H' := Aside0.mk H
   clear H
   have hcz7_0 : w4.cell? ⟨gb244, 0, none⟩ = some (.int .i64 a0_0) := (blk_cell BK244.out 0).trans rfl
   have hcz7_1 : w4.cell? ⟨gb244, 1, none⟩ = some (.int .i64 a0_1) := (blk_cell BK244.out 1).trans rfl
   have hcz7_2 : w4.cell? ⟨gb244, 2, none⟩ = some (.slice A0_2 l0_2.length c0_2) := (blk_cell BK244.out 2).trans rfl
   have hcz7_3 : w4.cell? ⟨gb244, 3, none⟩ = some (.slice A0_3 l0_3.length c0_3) := (blk_cell BK244.out 3).trans rfl
   have hfz7_0 := blk_frozen BK244.out 0
   have hfz7_1 := blk_frozen BK244.out 1
   have hfz7_2 := blk_frozen BK244.out 2
   have hfz7_3 := blk_frozen BK244.out 3
   go_wp2
   go_meet
   case rel => exact ⟨_, (true), (by first | rfl | (simp; done) | (simp [*]; done)), H', ⟨by first | omega | exact Nat.le_refl _⟩, ⟨by (with_reducible repeat (first | apply Kd.V_alloc | apply Kd.V_drewN | apply Kd.V_drew)); exact HO0_3.out⟩, ⟨by (with_reducible repeat (first | refine blk_drewN ?_ _ | refine blk_drew ?_ | refine blk_alloc ?_ _)); exact BK244.out⟩, ⟨by repeat (first | (with_reducible first | exact HB.out | apply below_alloc | apply pw_below_drewN | apply below_drew1 | refine below_set ?_ GE244.out) | exact HB.out)⟩⟩
 case rest =>
  clear HC3
  try clear c1
  try clear c2
  try clear p2
  try clear c5
  try clear c5b0
  try clear c5b1
  try clear hcz6_0
  try clear hcz6_1
  try clear hcz6_2
  try clear hcz6_3
  try clear hcz7_0
  try clear hcz7_1
  try clear hcz7_2
  try clear hcz7_3
  try clear hfz6_0
  try clear hfz6_1
  try clear hfz6_2
  try clear hfz6_3
  try clear hfz7_0
  try clear hfz7_1
  try clear hfz7_2
  try clear hfz7_3
  obtain ⟨kq, x18_2, rfl, HA, HJ2, HO_245003, BK244, HB⟩ := hcut
  cases kq with
  | zero => exact absurd HA.out (by simp [codec_Fields.j0])
  | succ kj2 =>
   have H := HA.out
   clear HA
   simp only [codec_Fields.j0] at H
   by_cases c8 : x18_2 = true
   ·subst c8
    have H1 : (some (([] : List (S43)), false)) = some (r1, r2) := by rw [if_pos rfl] at H; exact H
    clear H
    have H := H1
    clear H1
    simp only [Option.some.injEq, Prod.mk.injEq] at H
    obtain ⟨rfl, rfl⟩ := H
    go_wp2
    go_ret2
    exact ⟨_, by first | rfl | (simp [errW_none, errW_some] <;> rfl) | (simp [*, errW_none, errW_some] <;> rfl), Kd.V_mono (Kd.V_nil _ _ _ w.heap.size (fun k_ => w.heap.size ≤ k_)) (fun k_ hk => by first | exact ⟨(.inr (hk.1)), hk.2⟩ | exact (.inr (hk))), by repeat (first | (with_reducible first | exact HB.out | apply below_alloc | apply pw_below_drewN | apply below_drew1 | refine below_set ?_ GE244.out) | exact HB.out)⟩
   ·replace c8 := Bool.eq_false_iff.mpr c8
    subst c8
    have H1 : (codec_Fields.l0 kj2 l1 (l1.length : Int) 0 a0_0 a0_1 l0_2 l0_3) = some (r1, r2) := by rw [if_neg (show ¬ (false = true) by decide)] at H; exact H
    clear H
    have H := H1
    clear H1
    have H' := Aside0.mk H
    clear H
    go_wp2
    go_loopg [21] kj2 (fun kq v21 w' => ∃ (x21_2 : Int), v21 = .int .i64 x21_2 ∧ Aside0 (codec_Fields.l0 kq l1 (l1.length : Int) x21_2 a0_0 a0_1 l0_2 l0_3 = some (r1, r2)) ∧ Aside0 (kq ≤ kj2) ∧ Aside0 (Kd.V k43 43 w' w.heap.size (fun k_ => (P0_3_ k_ ∨ w.heap.size ≤ k_) ∧ k_ ≠ gb244) (.slice A0_3 l0_3.length c0_3) l0_3) ∧ Aside0 (w'.heap[gb244]? = some (.cells #[.int .i64 a0_0, .int .i64 a0_1, (.slice A0_2 l0_2.length c0_2), (.slice A0_3 l0_3.length c0_3)] 43 (0, 0))) ∧ Aside0 (Below w.heap.size w w'))
    case atStart => exact ⟨(0), (by first | rfl | (simp; done) | (simp [*]; done)), H', ⟨Nat.le_refl _⟩, ⟨by (with_reducible repeat (first | apply Kd.V_alloc | apply Kd.V_drewN | apply Kd.V_drew)); exact HO_245003.out⟩, ⟨by (with_reducible repeat (first | refine blk_drewN ?_ _ | refine blk_drew ?_ | refine blk_alloc ?_ _)); exact BK244.out⟩, ⟨by repeat (first | (with_reducible first | exact HB.out | apply below_alloc | apply pw_below_drewN | apply below_drew1 | refine below_set ?_ GE244.out) | exact HB.out)⟩⟩
    case round =>
     clear H'
     try clear c1
     try clear c2
     try clear p2
     try clear c5
     try clear c5b0
     try clear c5b1
     try clear c8
     try clear hcz6_0
     try clear hcz6_1
     try clear hcz6_2
     try clear hcz6_3
     try clear hcz7_0
     try clear hcz7_1
     try clear hcz7_2
     try clear hcz7_3
     try clear hfz6_0
     try clear hfz6_1
     try clear hfz6_2
     try clear hfz6_3
     try clear hfz7_0
     try clear hfz7_1
     try clear hfz7_2
     try clear hfz7_3
     try clear p2
     obtain ⟨x21_2, rfl, HA, HK2, HO_245003, BK244, HB⟩ := hrel
     cases gk with
     | zero => exact absurd HA.out (by simp [codec_Fields.l0])
     | succ k2 =>
      have H := HA.out
      clear HA
      simp only [codec_Fields.l0] at H
      by_cases c9 : x21_2 < (l1.length : Int)
      ·rw [if_pos c9] at H
       have c9b0 : decide (x21_2 < (l1.length : Int)) = true := decide_eq_true c9
       clear c9
       by_cases c10 : 0 ≤ x21_2
       ·rw [if_pos c10] at H
        have c10b0 : decide (0 ≤ x21_2) = true := decide_eq_true c10
        clear c10
        by_cases c11 : x21_2 < (l1.length : Int)
        ·rw [if_pos c11] at H
         have c11b0 : decide (x21_2 < (l1.length : Int)) = true := decide_eq_true c11
         clear c11
         by_cases c12 : (rd l1 x21_2) = 1
         ·rw [if_pos c12] at H
          have c12b0 : ((rd l1 x21_2) == 1) = true := beq_iff_eq.mpr c12
          have c12b1 : ((rd l1 x21_2) != 1) = false := bne_eq_false_iff_eq.mpr c12
          clear c12
          by_cases c13 : x21_2 < (l0_3.length : Int)
          ·rw [if_pos c13] at H
           have c13b0 : decide (x21_2 < (l0_3.length : Int)) = true := decide_eq_true c13
           clear c13
           by_cases c14 : ((rd_T43 l0_3 x21_2).f0) = (rd l1 x21_2)
           ·rw [if_pos c14] at H
            have c14b0 : (((rd_T43 l0_3 x21_2).f0) == (rd l1 x21_2)) = true := beq_iff_eq.mpr c14
            have c14b1 : (((rd_T43 l0_3 x21_2).f0) != (rd l1 x21_2)) = false := bne_eq_false_iff_eq.mpr c14
            clear c14
            have H' := Aside0.mk H
            clear H
            have p245 : 0 ≤ (x21_2 : Int) := of_decide_eq_true (by first | (with_reducible assumption) | assumption)
            have q245 : x21_2 < (l1.length : Int) := of_decide_eq_true (by first | (with_reducible assumption) | assumption)
            obtain ⟨ad245, e245, hx245_0⟩ := Kd.at_int HR1.out x21_2 p245 q245
            cases e245
            replace hx245_0 := (HB.out.cell (World.block_lt_of_cell? w _ hx245_0)).trans hx245_0
            replace p245 := eq_true p245
            replace q245 := eq_true q245
            have hcz15_0 : wr.cell? ⟨gb244, 0, none⟩ = some (.int .i64 a0_0) := (blk_cell BK244.out 0).trans rfl
            have hcz15_1 : wr.cell? ⟨gb244, 1, none⟩ = some (.int .i64 a0_1) := (blk_cell BK244.out 1).trans rfl
            have hcz15_2 : wr.cell? ⟨gb244, 2, none⟩ = some (.slice A0_2 l0_2.length c0_2) := (blk_cell BK244.out 2).trans rfl
            have hcz15_3 : wr.cell? ⟨gb244, 3, none⟩ = some (.slice A0_3 l0_3.length c0_3) := (blk_cell BK244.out 3).trans rfl
            have hfz15_0 := blk_frozen BK244.out 0
            have hfz15_1 := blk_frozen BK244.out 1
            have hfz15_2 := blk_frozen BK244.out 2
            have hfz15_3 := blk_frozen BK244.out 3
            have p246 : 0 ≤ (x21_2 : Int) := of_decide_eq_true (by first | (with_reducible assumption) | assumption)
            have q246 : x21_2 < (l0_3.length : Int) := of_decide_eq_true (by first | (with_reducible assumption) | assumption)
            obtain ⟨ad246, A246_2, c246_2, A246_3, c246_3, e246, hx246_0, hx246_1, hx246_2, hx246_3, hl246_2, hi246_2, hl246_3, hi246_3⟩ := at_T43 (Kd.V_reads' HO_245003.out).2.2 x21_2 p246 q246
            cases e246
            obtain ⟨ce246, hce246, hMe246, hcc246⟩ := Kd.V_get HO_245003.out z43 x21_2 p246 (by first | exact q246 | exact of_decide_eq_true (by first | (with_reducible assumption) | assumption) | (have e_ := (Kd.V_reads' HO_245003.out).1; omega))
            obtain ⟨ua246_2, uc246_2, ua246_3, uc246_3, rfl, ul246_2, ge246_2, ul246_3, ge246_3⟩ := k43_openF hMe246
            have hv246_2 := hcc246 2 _ rfl
            rw [add_field _ _ 2 (by omega)] at hv246_2
            replace hv246_2 := Option.some.inj (hv246_2.symm.trans hx246_2)
            injection hv246_2 with hva_ hvn_ hvc_
            rw [hva_] at ge246_2
            rw [hvc_] at ul246_2
            have HL246_2 := Aside0.mk (show Kd.V (Kd.int .u8) 5 _ w.heap.size _ _ ((rd_T43 l0_3 x21_2).f2) from Kd.V_mk ul246_2 ge246_2)
            clear hva_ hvn_ hvc_ ge246_2 ul246_2
            have hv246_3 := hcc246 3 _ rfl
            rw [add_field _ _ 3 (by omega)] at hv246_3
            replace hv246_3 := Option.some.inj (hv246_3.symm.trans hx246_3)
            injection hv246_3 with hva_ hvn_ hvc_
            rw [hva_] at ge246_3
            rw [hvc_] at ul246_3
            have HL246_3 := Aside0.mk (show Kd.V k43 43 _ w.heap.size _ _ ((rd_T43 l0_3 x21_2).f3) from Kd.V_mk ul246_3 ge246_3)
            clear hva_ hvn_ hvc_ ge246_3 ul246_3
            clear hcc246 hce246
            have HR246_2 := Aside0.mk hi246_2
            have HC246_2 := Aside0.mk hl246_2
            clear hi246_2 hl246_2
            have HR246_3 := Aside0.mk hi246_3
            have HC246_3 := Aside0.mk hl246_3
            clear hi246_3 hl246_3
            replace p246 := eq_true p246
            replace q246 := eq_true q246
            go_wp2
            go_roundg k2
            case measure => have := HJ2.out; have := HK2.out; omega
            case rel => exact ⟨(wrap64 (x21_2 + 1)), (by first | rfl | (simp; done) | (simp [*]; done)), H', ⟨by have := HJ2.out; have := HK2.out; omega⟩, ⟨by (with_reducible repeat (first | apply Kd.V_alloc | apply Kd.V_drewN | apply Kd.V_drew)); exact HO_245003.out⟩, ⟨by (with_reducible repeat (first | refine blk_drewN ?_ _ | refine blk_drew ?_ | refine blk_alloc ?_ _)); exact BK244.out⟩, ⟨by repeat (first | (with_reducible first | exact HB.out | apply below_alloc | apply pw_below_drewN | apply below_drew1 | refine below_set ?_ GE244.out) | exact HB.out)⟩⟩
           ·rw [if_neg c14] at H
            have c14b0 : (((rd_T43 l0_3 x21_2).f0) == (rd l1 x21_2)) = false := beq_eq_false_iff_ne.mpr c14
            have c14b1 : (((rd_T43 l0_3 x21_2).f0) != (rd l1 x21_2)) = true := bne_iff_ne.mpr c14
            simp only [Option.some.injEq, Prod.mk.injEq] at H
            obtain ⟨rfl, rfl⟩ := H
            have p245 : 0 ≤ (x21_2 : Int) := of_decide_eq_true (by first | (with_reducible assumption) | assumption)
            have q245 : x21_2 < (l1.length : Int) := of_decide_eq_true (by first | (with_reducible assumption) | assumption)
            obtain ⟨ad245, e245, hx245_0⟩ := Kd.at_int HR1.out x21_2 p245 q245
            cases e245
            replace hx245_0 := (HB.out.cell (World.block_lt_of_cell? w _ hx245_0)).trans hx245_0
            replace p245 := eq_true p245
            replace q245 := eq_true q245
            have hcz16_0 : wr.cell? ⟨gb244, 0, none⟩ = some (.int .i64 a0_0) := (blk_cell BK244.out 0).trans rfl
            have hcz16_1 : wr.cell? ⟨gb244, 1, none⟩ = some (.int .i64 a0_1) := (blk_cell BK244.out 1).trans rfl
            have hcz16_2 : wr.cell? ⟨gb244, 2, none⟩ = some (.slice A0_2 l0_2.length c0_2) := (blk_cell BK244.out 2).trans rfl
            have hcz16_3 : wr.cell? ⟨gb244, 3, none⟩ = some (.slice A0_3 l0_3.length c0_3) := (blk_cell BK244.out 3).trans rfl
            have hfz16_0 := blk_frozen BK244.out 0
            have hfz16_1 := blk_frozen BK244.out 1
            have hfz16_2 := blk_frozen BK244.out 2
            have hfz16_3 := blk_frozen BK244.out 3
            have p246 : 0 ≤ (x21_2 : Int) := of_decide_eq_true (by first | (with_reducible assumption) | assumption)
            have q246 : x21_2 < (l0_3.length : Int) := of_decide_eq_true (by first | (with_reducible assumption) | assumption)
            obtain ⟨ad246, A246_2, c246_2, A246_3, c246_3, e246, hx246_0, hx246_1, hx246_2, hx246_3, hl246_2, hi246_2, hl246_3, hi246_3⟩ := at_T43 (Kd.V_reads' HO_245003.out).2.2 x21_2 p246 q246
            cases e246
            obtain ⟨ce246, hce246, hMe246, hcc246⟩ := Kd.V_get HO_245003.out z43 x21_2 p246 (by first | exact q246 | exact of_decide_eq_true (by first | (with_reducible assumption) | assumption) | (have e_ := (Kd.V_reads' HO_245003.out).1; omega))
            obtain ⟨ua246_2, uc246_2, ua246_3, uc246_3, rfl, ul246_2, ge246_2, ul246_3, ge246_3⟩ := k43_openF hMe246
            have hv246_2 := hcc246 2 _ rfl
            rw [add_field _ _ 2 (by omega)] at hv246_2
            replace hv246_2 := Option.some.inj (hv246_2.symm.trans hx246_2)
            injection hv246_2 with hva_ hvn_ hvc_
            rw [hva_] at ge246_2
            rw [hvc_] at ul246_2
            have HL246_2 := Aside0.mk (show Kd.V (Kd.int .u8) 5 _ w.heap.size _ _ ((rd_T43 l0_3 x21_2).f2) from Kd.V_mk ul246_2 ge246_2)
            clear hva_ hvn_ hvc_ ge246_2 ul246_2
            have hv246_3 := hcc246 3 _ rfl
            rw [add_field _ _ 3 (by omega)] at hv246_3
            replace hv246_3 := Option.some.inj (hv246_3.symm.trans hx246_3)
            injection hv246_3 with hva_ hvn_ hvc_
            rw [hva_] at ge246_3
            rw [hvc_] at ul246_3
            have HL246_3 := Aside0.mk (show Kd.V k43 43 _ w.heap.size _ _ ((rd_T43 l0_3 x21_2).f3) from Kd.V_mk ul246_3 ge246_3)
            clear hva_ hvn_ hvc_ ge246_3 ul246_3
            clear hcc246 hce246
            have HR246_2 := Aside0.mk hi246_2
            have HC246_2 := Aside0.mk hl246_2
            clear hi246_2 hl246_2
            have HR246_3 := Aside0.mk hi246_3
            have HC246_3 := Aside0.mk hl246_3
            clear hi246_3 hl246_3
            replace p246 := eq_true p246
            replace q246 := eq_true q246
            go_wp2
            go_ret2
            exact ⟨_, by first | rfl | (simp [errW_none, errW_some] <;> rfl) | (simp [*, errW_none, errW_some] <;> rfl), Kd.V_mono (Kd.V_nil _ _ _ w.heap.size (fun k_ => w.heap.size ≤ k_)) (fun k_ hk => by first | exact ⟨(.inr (hk.1)), hk.2⟩ | exact (.inr (hk))), by repeat (first | (with_reducible first | exact HB.out | apply below_alloc | apply pw_below_drewN | apply below_drew1 | refine below_set ?_ GE244.out) | exact HB.out)⟩
          ·rw [if_neg c13] at H
           exact absurd H (by simp)
         ·rw [if_neg c12] at H
          have c12b0 : ((rd l1 x21_2) == 1) = false := beq_eq_false_iff_ne.mpr c12
          have c12b1 : ((rd l1 x21_2) != 1) = true := bne_iff_ne.mpr c12
          by_cases c17 : (rd l1 x21_2) = 2
          ·rw [if_pos c17] at H
           have c17b0 : ((rd l1 x21_2) == 2) = true := beq_iff_eq.mpr c17
           have c17b1 : ((rd l1 x21_2) != 2) = false := bne_eq_false_iff_eq.mpr c17
           clear c17
           by_cases c18 : x21_2 < (l0_3.length : Int)
           ·rw [if_pos c18] at H
            have c18b0 : decide (x21_2 < (l0_3.length : Int)) = true := decide_eq_true c18
            clear c18
            by_cases c19 : ((rd_T43 l0_3 x21_2).f0) = (rd l1 x21_2)
            ·rw [if_pos c19] at H
             have c19b0 : (((rd_T43 l0_3 x21_2).f0) == (rd l1 x21_2)) = true := beq_iff_eq.mpr c19
             have c19b1 : (((rd_T43 l0_3 x21_2).f0) != (rd l1 x21_2)) = false := bne_eq_false_iff_eq.mpr c19
             clear c19
             have H' := Aside0.mk H
             clear H
             have p245 : 0 ≤ (x21_2 : Int) := of_decide_eq_true (by first | (with_reducible assumption) | assumption)
             have q245 : x21_2 < (l1.length : Int) := of_decide_eq_true (by first | (with_reducible assumption) | assumption)
             obtain ⟨ad245, e245, hx245_0⟩ := Kd.at_int HR1.out x21_2 p245 q245
             cases e245
             replace hx245_0 := (HB.out.cell (World.block_lt_of_cell? w _ hx245_0)).trans hx245_0
             replace p245 := eq_true p245
             replace q245 := eq_true q245
             have hcz20_0 : wr.cell? ⟨gb244, 0, none⟩ = some (.int .i64 a0_0) := (blk_cell BK244.out 0).trans rfl
             have hcz20_1 : wr.cell? ⟨gb244, 1, none⟩ = some (.int .i64 a0_1) := (blk_cell BK244.out 1).trans rfl
             have hcz20_2 : wr.cell? ⟨gb244, 2, none⟩ = some (.slice A0_2 l0_2.length c0_2) := (blk_cell BK244.out 2).trans rfl
             have hcz20_3 : wr.cell? ⟨gb244, 3, none⟩ = some (.slice A0_3 l0_3.length c0_3) := (blk_cell BK244.out 3).trans rfl
             have hfz20_0 := blk_frozen BK244.out 0
             have hfz20_1 := blk_frozen BK244.out 1
             have hfz20_2 := blk_frozen BK244.out 2
             have hfz20_3 := blk_frozen BK244.out 3
             have p247 : 0 ≤ (x21_2 : Int) := of_decide_eq_true (by first | (with_reducible assumption) | assumption)
             have q247 : x21_2 < (l0_3.length : Int) := of_decide_eq_true (by first | (with_reducible assumption) | assumption)
             obtain ⟨ad247, A247_2, c247_2, A247_3, c247_3, e247, hx247_0, hx247_1, hx247_2, hx247_3, hl247_2, hi247_2, hl247_3, hi247_3⟩ := at_T43 (Kd.V_reads' HO_245003.out).2.2 x21_2 p247 q247
             cases e247
             obtain ⟨ce247, hce247, hMe247, hcc247⟩ := Kd.V_get HO_245003.out z43 x21_2 p247 (by first | exact q247 | exact of_decide_eq_true (by first | (with_reducible assumption) | assumption) | (have e_ := (Kd.V_reads' HO_245003.out).1; omega))
             obtain ⟨ua247_2, uc247_2, ua247_3, uc247_3, rfl, ul247_2, ge247_2, ul247_3, ge247_3⟩ := k43_openF hMe247
             have hv247_2 := hcc247 2 _ rfl
             rw [add_field _ _ 2 (by omega)] at hv247_2
             replace hv247_2 := Option.some.inj (hv247_2.symm.trans hx247_2)
             injection hv247_2 with hva_ hvn_ hvc_
             rw [hva_] at ge247_2
             rw [hvc_] at ul247_2
             have HL247_2 := Aside0.mk (show Kd.V (Kd.int .u8) 5 _ w.heap.size _ _ ((rd_T43 l0_3 x21_2).f2) from Kd.V_mk ul247_2 ge247_2)
             clear hva_ hvn_ hvc_ ge247_2 ul247_2
             have hv247_3 := hcc247 3 _ rfl
             rw [add_field _ _ 3 (by omega)] at hv247_3
             replace hv247_3 := Option.some.inj (hv247_3.symm.trans hx247_3)
             injection hv247_3 with hva_ hvn_ hvc_
             rw [hva_] at ge247_3
             rw [hvc_] at ul247_3
             have HL247_3 := Aside0.mk (show Kd.V k43 43 _ w.heap.size _ _ ((rd_T43 l0_3 x21_2).f3) from Kd.V_mk ul247_3 ge247_3)
             clear hva_ hvn_ hvc_ ge247_3 ul247_3
             clear hcc247 hce247
             have HR247_2 := Aside0.mk hi247_2
             have HC247_2 := Aside0.mk hl247_2
             clear hi247_2 hl247_2
             have HR247_3 := Aside0.mk hi247_3
             have HC247_3 := Aside0.mk hl247_3
             clear hi247_3 hl247_3
             replace p247 := eq_true p247
             replace q247 := eq_true q247
             go_wp2
             go_roundg k2
             case measure => have := HJ2.out; have := HK2.out; omega
             case rel => exact ⟨(wrap64 (x21_2 + 1)), (by first | rfl | (simp; done) | (simp [*]; done)), H', ⟨by have := HJ2.out; have := HK2.out; omega⟩, ⟨by (with_reducible repeat (first | apply Kd.V_alloc | apply Kd.V_drewN | apply Kd.V_drew)); exact HO_245003.out⟩, ⟨by (with_reducible repeat (first | refine blk_drewN ?_ _ | refine blk_drew ?_ | refine blk_alloc ?_ _)); exact BK244.out⟩, ⟨by repeat (first | (with_reducible first | exact HB.out | apply below_alloc | apply pw_below_drewN | apply below_drew1 | refine below_set ?_ GE244.out) | exact HB.out)⟩⟩
            ·rw [if_neg c19] at H
             have c19b0 : (((rd_T43 l0_3 x21_2).f0) == (rd l1 x21_2)) = false := beq_eq_false_iff_ne.mpr c19
             have c19b1 : (((rd_T43 l0_3 x21_2).f0) != (rd l1 x21_2)) = true := bne_iff_ne.mpr c19
             simp only [Option.some.injEq, Prod.mk.injEq] at H
             obtain ⟨rfl, rfl⟩ := H
             have p245 : 0 ≤ (x21_2 : Int) := of_decide_eq_true (by first | (with_reducible assumption) | assumption)
             have q245 : x21_2 < (l1.length : Int) := of_decide_eq_true (by first | (with_reducible assumption) | assumption)
             obtain ⟨ad245, e245, hx245_0⟩ := Kd.at_int HR1.out x21_2 p245 q245
             cases e245
             replace hx245_0 := (HB.out.cell (World.block_lt_of_cell? w _ hx245_0)).trans hx245_0
             replace p245 := eq_true p245
             replace q245 := eq_true q245
             have hcz21_0 : wr.cell? ⟨gb244, 0, none⟩ = some (.int .i64 a0_0) := (blk_cell BK244.out 0).trans rfl
             have hcz21_1 : wr.cell? ⟨gb244, 1, none⟩ = some (.int .i64 a0_1) := (blk_cell BK244.out 1).trans rfl
             have hcz21_2 : wr.cell? ⟨gb244, 2, none⟩ = some (.slice A0_2 l0_2.length c0_2) := (blk_cell BK244.out 2).trans rfl
             have hcz21_3 : wr.cell? ⟨gb244, 3, none⟩ = some (.slice A0_3 l0_3.length c0_3) := (blk_cell BK244.out 3).trans rfl
             have hfz21_0 := blk_frozen BK244.out 0
             have hfz21_1 := blk_frozen BK244.out 1
             have hfz21_2 := blk_frozen BK244.out 2
             have hfz21_3 := blk_frozen BK244.out 3
             have p247 : 0 ≤ (x21_2 : Int) := of_decide_eq_true (by first | (with_reducible assumption) | assumption)
             have q247 : x21_2 < (l0_3.length : Int) := of_decide_eq_true (by first | (with_reducible assumption) | assumption)
             obtain ⟨ad247, A247_2, c247_2, A247_3, c247_3, e247, hx247_0, hx247_1, hx247_2, hx247_3, hl247_2, hi247_2, hl247_3, hi247_3⟩ := at_T43 (Kd.V_reads' HO_245003.out).2.2 x21_2 p247 q247
             cases e247
             obtain ⟨ce247, hce247, hMe247, hcc247⟩ := Kd.V_get HO_245003.out z43 x21_2 p247 (by first | exact q247 | exact of_decide_eq_true (by first | (with_reducible assumption) | assumption) | (have e_ := (Kd.V_reads' HO_245003.out).1; omega))
             obtain ⟨ua247_2, uc247_2, ua247_3, uc247_3, rfl, ul247_2, ge247_2, ul247_3, ge247_3⟩ := k43_openF hMe247
             have hv247_2 := hcc247 2 _ rfl
             rw [add_field _ _ 2 (by omega)] at hv247_2
             replace hv247_2 := Option.some.inj (hv247_2.symm.trans hx247_2)
             injection hv247_2 with hva_ hvn_ hvc_
             rw [hva_] at ge247_2
             rw [hvc_] at ul247_2
             have HL247_2 := Aside0.mk (show Kd.V (Kd.int .u8) 5 _ w.heap.size _ _ ((rd_T43 l0_3 x21_2).f2) from Kd.V_mk ul247_2 ge247_2)
             clear hva_ hvn_ hvc_ ge247_2 ul247_2
             have hv247_3 := hcc247 3 _ rfl
             rw [add_field _ _ 3 (by omega)] at hv247_3
             replace hv247_3 := Option.some.inj (hv247_3.symm.trans hx247_3)
             injection hv247_3 with hva_ hvn_ hvc_
             rw [hva_] at ge247_3
             rw [hvc_] at ul247_3
             have HL247_3 := Aside0.mk (show Kd.V k43 43 _ w.heap.size _ _ ((rd_T43 l0_3 x21_2).f3) from Kd.V_mk ul247_3 ge247_3)
             clear hva_ hvn_ hvc_ ge247_3 ul247_3
             clear hcc247 hce247
             have HR247_2 := Aside0.mk hi247_2
             have HC247_2 := Aside0.mk hl247_2
             clear hi247_2 hl247_2
             have HR247_3 := Aside0.mk hi247_3
             have HC247_3 := Aside0.mk hl247_3
             clear hi247_3 hl247_3
             replace p247 := eq_true p247
             replace q247 := eq_true q247
             go_wp2
             go_ret2
             exact ⟨_, by first | rfl | (simp [errW_none, errW_some] <;> rfl) | (simp [*, errW_none, errW_some] <;> rfl), Kd.V_mono (Kd.V_nil _ _ _ w.heap.size (fun k_ => w.heap.size ≤ k_)) (fun k_ hk => by first | exact ⟨(.inr (hk.1)), hk.2⟩ | exact (.inr (hk))), by repeat (first | (with_reducible first | exact HB.out | apply below_alloc | apply pw_below_drewN | apply below_drew1 | refine below_set ?_ GE244.out) | exact HB.out)⟩
           ·rw [if_neg c18] at H
            exact absurd H (by simp)
          ·rw [if_neg c17] at H
           have c17b0 : ((rd l1 x21_2) == 2) = false := beq_eq_false_iff_ne.mpr c17
           have c17b1 : ((rd l1 x21_2) != 2) = true := bne_iff_ne.mpr c17
           by_cases c22 : x21_2 < (l0_3.length : Int)
           ·rw [if_pos c22] at H
            have c22b0 : decide (x21_2 < (l0_3.length : Int)) = true := decide_eq_true c22
            clear c22
            by_cases c23 : ((rd_T43 l0_3 x21_2).f0) = (rd l1 x21_2)
            ·rw [if_pos c23] at H
             have c23b0 : (((rd_T43 l0_3 x21_2).f0) == (rd l1 x21_2)) = true := beq_iff_eq.mpr c23
             have c23b1 : (((rd_T43 l0_3 x21_2).f0) != (rd l1 x21_2)) = false := bne_eq_false_iff_eq.mpr c23
             clear c23
             have H' := Aside0.mk H
             clear H
             have p245 : 0 ≤ (x21_2 : Int) := of_decide_eq_true (by first | (with_reducible assumption) | assumption)
             have q245 : x21_2 < (l1.length : Int) := of_decide_eq_true (by first | (with_reducible assumption) | assumption)
             obtain ⟨ad245, e245, hx245_0⟩ := Kd.at_int HR1.out x21_2 p245 q245
             cases e245
             replace hx245_0 := (HB.out.cell (World.block_lt_of_cell? w _ hx245_0)).trans hx245_0
             replace p245 := eq_true p245
             replace q245 := eq_true q245
             have hcz24_0 : wr.cell? ⟨gb244, 0, none⟩ = some (.int .i64 a0_0) := (blk_cell BK244.out 0).trans rfl
             have hcz24_1 : wr.cell? ⟨gb244, 1, none⟩ = some (.int .i64 a0_1) := (blk_cell BK244.out 1).trans rfl
             have hcz24_2 : wr.cell? ⟨gb244, 2, none⟩ = some (.slice A0_2 l0_2.length c0_2) := (blk_cell BK244.out 2).trans rfl
             have hcz24_3 : wr.cell? ⟨gb244, 3, none⟩ = some (.slice A0_3 l0_3.length c0_3) := (blk_cell BK244.out 3).trans rfl
             have hfz24_0 := blk_frozen BK244.out 0
             have hfz24_1 := blk_frozen BK244.out 1
             have hfz24_2 := blk_frozen BK244.out 2
             have hfz24_3 := blk_frozen BK244.out 3
             have p248 : 0 ≤ (x21_2 : Int) := of_decide_eq_true (by first | (with_reducible assumption) | assumption)
             have q248 : x21_2 < (l0_3.length : Int) := of_decide_eq_true (by first | (with_reducible assumption) | assumption)
             obtain ⟨ad248, A248_2, c248_2, A248_3, c248_3, e248, hx248_0, hx248_1, hx248_2, hx248_3, hl248_2, hi248_2, hl248_3, hi248_3⟩ := at_T43 (Kd.V_reads' HO_245003.out).2.2 x21_2 p248 q248
             cases e248
             obtain ⟨ce248, hce248, hMe248, hcc248⟩ := Kd.V_get HO_245003.out z43 x21_2 p248 (by first | exact q248 | exact of_decide_eq_true (by first | (with_reducible assumption) | assumption) | (have e_ := (Kd.V_reads' HO_245003.out).1; omega))
             obtain ⟨ua248_2, uc248_2, ua248_3, uc248_3, rfl, ul248_2, ge248_2, ul248_3, ge248_3⟩ := k43_openF hMe248
             have hv248_2 := hcc248 2 _ rfl
             rw [add_field _ _ 2 (by omega)] at hv248_2
             replace hv248_2 := Option.some.inj (hv248_2.symm.trans hx248_2)
             injection hv248_2 with hva_ hvn_ hvc_
             rw [hva_] at ge248_2
             rw [hvc_] at ul248_2
             have HL248_2 := Aside0.mk (show Kd.V (Kd.int .u8) 5 _ w.heap.size _ _ ((rd_T43 l0_3 x21_2).f2) from Kd.V_mk ul248_2 ge248_2)
             clear hva_ hvn_ hvc_ ge248_2 ul248_2
             have hv248_3 := hcc248 3 _ rfl
             rw [add_field _ _ 3 (by omega)] at hv248_3
             replace hv248_3 := Option.some.inj (hv248_3.symm.trans hx248_3)
             injection hv248_3 with hva_ hvn_ hvc_
             rw [hva_] at ge248_3
             rw [hvc_] at ul248_3
             have HL248_3 := Aside0.mk (show Kd.V k43 43 _ w.heap.size _ _ ((rd_T43 l0_3 x21_2).f3) from Kd.V_mk ul248_3 ge248_3)
             clear hva_ hvn_ hvc_ ge248_3 ul248_3
             clear hcc248 hce248
             have HR248_2 := Aside0.mk hi248_2
             have HC248_2 := Aside0.mk hl248_2
             clear hi248_2 hl248_2
             have HR248_3 := Aside0.mk hi248_3
             have HC248_3 := Aside0.mk hl248_3
             clear hi248_3 hl248_3
             replace p248 := eq_true p248
             replace q248 := eq_true q248
             go_wp2
             go_roundg k2
             case measure => have := HJ2.out; have := HK2.out; omega
             case rel => exact ⟨(wrap64 (x21_2 + 1)), (by first | rfl | (simp; done) | (simp [*]; done)), H', ⟨by have := HJ2.out; have := HK2.out; omega⟩, ⟨by (with_reducible repeat (first | apply Kd.V_alloc | apply Kd.V_drewN | apply Kd.V_drew)); exact HO_245003.out⟩, ⟨by (with_reducible repeat (first | refine blk_drewN ?_ _ | refine blk_drew ?_ | refine blk_alloc ?_ _)); exact BK244.out⟩, ⟨by repeat (first | (with_reducible first | exact HB.out | apply below_alloc | apply pw_below_drewN | apply below_drew1 | refine below_set ?_ GE244.out) | exact HB.out)⟩⟩
            ·rw [if_neg c23] at H
             have c23b0 : (((rd_T43 l0_3 x21_2).f0) == (rd l1 x21_2)) = false := beq_eq_false_iff_ne.mpr c23
             have c23b1 : (((rd_T43 l0_3 x21_2).f0) != (rd l1 x21_2)) = true := bne_iff_ne.mpr c23
             simp only [Option.some.injEq, Prod.mk.injEq] at H
             obtain ⟨rfl, rfl⟩ := H
             have p245 : 0 ≤ (x21_2 : Int) := of_decide_eq_true (by first | (with_reducible assumption) | assumption)
             have q245 : x21_2 < (l1.length : Int) := of_decide_eq_true (by first | (with_reducible assumption) | assumption)
             obtain ⟨ad245, e245, hx245_0⟩ := Kd.at_int HR1.out x21_2 p245 q245
             cases e245
             replace hx245_0 := (HB.out.cell (World.block_lt_of_cell? w _ hx245_0)).trans hx245_0
             replace p245 := eq_true p245
             replace q245 := eq_true q245
             have hcz25_0 : wr.cell? ⟨gb244, 0, none⟩ = some (.int .i64 a0_0) := (blk_cell BK244.out 0).trans rfl
             have hcz25_1 : wr.cell? ⟨gb244, 1, none⟩ = some (.int .i64 a0_1) := (blk_cell BK244.out 1).trans rfl
             have hcz25_2 : wr.cell? ⟨gb244, 2, none⟩ = some (.slice A0_2 l0_2.length c0_2) := (blk_cell BK244.out 2).trans rfl
             have hcz25_3 : wr.cell? ⟨gb244, 3, none⟩ = some (.slice A0_3 l0_3.length c0_3) := (blk_cell BK244.out 3).trans rfl
             have hfz25_0 := blk_frozen BK244.out 0
             have hfz25_1 := blk_frozen BK244.out 1
             have hfz25_2 := blk_frozen BK244.out 2
             have hfz25_3 := blk_frozen BK244.out 3
             have p248 : 0 ≤ (x21_2 : Int) := of_decide_eq_true (by first | (with_reducible assumption) | assumption)
             have q248 : x21_2 < (l0_3.length : Int) := of_decide_eq_true (by first | (with_reducible assumption) | assumption)
             obtain ⟨ad248, A248_2, c248_2, A248_3, c248_3, e248, hx248_0, hx248_1, hx248_2, hx248_3, hl248_2, hi248_2, hl248_3, hi248_3⟩ := at_T43 (Kd.V_reads' HO_245003.out).2.2 x21_2 p248 q248
             cases e248
             obtain ⟨ce248, hce248, hMe248, hcc248⟩ := Kd.V_get HO_245003.out z43 x21_2 p248 (by first | exact q248 | exact of_decide_eq_true (by first | (with_reducible assumption) | assumption) | (have e_ := (Kd.V_reads' HO_245003.out).1; omega))
             obtain ⟨ua248_2, uc248_2, ua248_3, uc248_3, rfl, ul248_2, ge248_2, ul248_3, ge248_3⟩ := k43_openF hMe248
             have hv248_2 := hcc248 2 _ rfl
             rw [add_field _ _ 2 (by omega)] at hv248_2
             replace hv248_2 := Option.some.inj (hv248_2.symm.trans hx248_2)
             injection hv248_2 with hva_ hvn_ hvc_
             rw [hva_] at ge248_2
             rw [hvc_] at ul248_2
             have HL248_2 := Aside0.mk (show Kd.V (Kd.int .u8) 5 _ w.heap.size _ _ ((rd_T43 l0_3 x21_2).f2) from Kd.V_mk ul248_2 ge248_2)
             clear hva_ hvn_ hvc_ ge248_2 ul248_2
             have hv248_3 := hcc248 3 _ rfl
             rw [add_field _ _ 3 (by omega)] at hv248_3
             replace hv248_3 := Option.some.inj (hv248_3.symm.trans hx248_3)
             injection hv248_3 with hva_ hvn_ hvc_
             rw [hva_] at ge248_3
             rw [hvc_] at ul248_3
             have HL248_3 := Aside0.mk (show Kd.V k43 43 _ w.heap.size _ _ ((rd_T43 l0_3 x21_2).f3) from Kd.V_mk ul248_3 ge248_3)
             clear hva_ hvn_ hvc_ ge248_3 ul248_3
             clear hcc248 hce248
             have HR248_2 := Aside0.mk hi248_2
             have HC248_2 := Aside0.mk hl248_2
             clear hi248_2 hl248_2
             have HR248_3 := Aside0.mk hi248_3
             have HC248_3 := Aside0.mk hl248_3
             clear hi248_3 hl248_3
             replace p248 := eq_true p248
             replace q248 := eq_true q248
             go_wp2
             go_ret2
             exact ⟨_, by first | rfl | (simp [errW_none, errW_some] <;> rfl) | (simp [*, errW_none, errW_some] <;> rfl), Kd.V_mono (Kd.V_nil _ _ _ w.heap.size (fun k_ => w.heap.size ≤ k_)) (fun k_ hk => by first | exact ⟨(.inr (hk.1)), hk.2⟩ | exact (.inr (hk))), by repeat (first | (with_reducible first | exact HB.out | apply below_alloc | apply pw_below_drewN | apply below_drew1 | refine below_set ?_ GE244.out) | exact HB.out)⟩
           ·rw [if_neg c22] at H
            exact absurd H (by simp)
        ·rw [if_neg c11] at H
         exact absurd H (by simp)
       ·rw [if_neg c10] at H
        exact absurd H (by simp)
      ·rw [if_neg c9] at H
       have c9b0 : decide (x21_2 < (l1.length : Int)) = false := decide_eq_false c9
       clear c9
       simp only [Option.some.injEq, Prod.mk.injEq] at H
       obtain ⟨rfl, rfl⟩ := H
       have hcz26_0 : wr.cell? ⟨gb244, 0, none⟩ = some (.int .i64 a0_0) := (blk_cell BK244.out 0).trans rfl
       have hcz26_1 : wr.cell? ⟨gb244, 1, none⟩ = some (.int .i64 a0_1) := (blk_cell BK244.out 1).trans rfl
       have hcz26_2 : wr.cell? ⟨gb244, 2, none⟩ = some (.slice A0_2 l0_2.length c0_2) := (blk_cell BK244.out 2).trans rfl
       have hcz26_3 : wr.cell? ⟨gb244, 3, none⟩ = some (.slice A0_3 l0_3.length c0_3) := (blk_cell BK244.out 3).trans rfl
       have hfz26_0 := blk_frozen BK244.out 0
       have hfz26_1 := blk_frozen BK244.out 1
       have hfz26_2 := blk_frozen BK244.out 2
       have hfz26_3 := blk_frozen BK244.out 3
       go_wp2
       go_ret2
       exact ⟨_, by first | rfl | (simp [errW_none, errW_some] <;> rfl) | (simp [*, errW_none, errW_some] <;> rfl), by (with_reducible repeat (first | apply Kd.V_alloc | apply Kd.V_drewN | apply Kd.V_drew)); exact Kd.V_mono HO_245003.out (fun _ hk => hk.1), by repeat (first | (with_reducible first | exact HB.out | apply below_alloc | apply pw_below_drewN | apply below_drew1 | refine below_set ?_ GE244.out) | exact HB.out)⟩

end Go.Proofs.YtiibnfnjfmcggaaDoor.PCallReads
