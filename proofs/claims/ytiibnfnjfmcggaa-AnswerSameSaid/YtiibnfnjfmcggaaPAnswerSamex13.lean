-- Written by drive.py of this work: the kit's print.py with contracts of this work laid in.
import Derived.Test.YtiibnfnjfmcggaaPAnswerSamex0
import Derived.Test.YtiibnfnjfmcggaaPAnswerSamex12
namespace Go.Proofs.Ytiibnfnjfmcggaa.PAnswerSame
open Go.RowKit Go.Proofs.YtiibnfnjfmcggaaW.PrintWords Go.Proofs.YtiibnfnjfmcggaaW.PrintLast Go.Proofs.YtiibnfnjfmcggaaW.PrintMore
attribute [local go_sem] max2_int min2_int max_two min_two max_three min_three max_four min_four   -- for this text's walks alone
set_option linter.unusedVariables false
set_option linter.unusedSimpArgs false

/-! ### answer_Same: function 33 -/
def answer_Same.j0 : Nat → Bool → Int → Int → ByteArray → List Int → List ByteArray → List (S62) → List (S64) → Int → Int → ByteArray → List Int → List ByteArray → List (S62) → List (S64) → Option (Bool)
  | 0, _, _, _, _, _, _, _, _, _, _, _, _, _, _, _ => none
  | k + 1, x31, x297000, x297001, x297002, x297003, x297004, x297005, x297006, x298000, x298001, x298002, x298003, x298004, x298005, x298006 => if x31 = true then (some false) else ((slices_Equal_string_string.f k x297004 x298004).bind fun t299 => (if t299 = true then ((api_Member_65.f k x297005 x298005).bind fun t300 => (if t300 = true then ((api_Past_66.f k x297006 x298006).bind fun t301 => (some t301)) else (some false))) else (some false)))
def answer_Same.f (k : Nat) (a0_0 : Int) (a0_1 : Int) (a0_2 : ByteArray) (l0_3 : List Int) (l0_4 : List ByteArray) (l0_5 : List (S62)) (l0_6 : List (S64)) (a1_0 : Int) (a1_1 : Int) (a1_2 : ByteArray) (l1_3 : List Int) (l1_4 : List ByteArray) (l1_5 : List (S62)) (l1_6 : List (S64)) : Option (Bool) := if a0_0 = a1_0 then (if a0_1 = a1_1 then (if a0_2.toList = a1_2.toList then ((bytes_Equal.f l0_3 l1_3).bind fun t298 => (answer_Same.j0 k (!t298) a0_0 a0_1 a0_2 l0_3 l0_4 l0_5 l0_6 a1_0 a1_1 a1_2 l1_3 l1_4 l1_5 l1_6)) else (answer_Same.j0 k true a0_0 a0_1 a0_2 l0_3 l0_4 l0_5 l0_6 a1_0 a1_1 a1_2 l1_3 l1_4 l1_5 l1_6)) else (answer_Same.j0 k true a0_0 a0_1 a0_2 l0_3 l0_4 l0_5 l0_6 a1_0 a1_1 a1_2 l1_3 l1_4 l1_5 l1_6)) else (answer_Same.j0 k true a0_0 a0_1 a0_2 l0_3 l0_4 l0_5 l0_6 a1_0 a1_1 a1_2 l1_3 l1_4 l1_5 l1_6)
theorem answer_Same.mono_l : ∀ k, (∀ y0 y1 y2 y3 y4 y5 y6 y7 y8 y9 y10 y11 y12 y13 y14, LeO (answer_Same.j0 k y0 y1 y2 y3 y4 y5 y6 y7 y8 y9 y10 y11 y12 y13 y14) (answer_Same.j0 (k + 1) y0 y1 y2 y3 y4 y5 y6 y7 y8 y9 y10 y11 y12 y13 y14))
  | 0 => fun _ _ _ _ _ _ _ _ _ _ _ _ _ _ _ r h => by simp [answer_Same.j0] at h
  | k + 1 => by
    have ih0 := answer_Same.mono_l k
    · intro y0 y1 y2 y3 y4 y5 y6 y7 y8 y9 y10 y11 y12 y13 y14
      unfold answer_Same.j0
      repeat' first
      | (with_reducible exact ih0 _ _ _ _ _ _ _ _ _ _ _ _ _ _ _)
      | (with_reducible exact api_Member_65.mono _ _ _)
      | (with_reducible exact api_Past_66.mono _ _ _)
      | (with_reducible exact slices_Equal_string_string.mono _ _ _)
      | (with_reducible exact LeO.refl _)
      | (with_reducible exact LeO.none _)
      | (with_reducible refine LeO.ite ?_ ?_)
      | (with_reducible refine LeO.bind ?_ (fun _ => ?_))
      | exact ih0 _ _ _ _ _ _ _ _ _ _ _ _ _ _ _
      | exact api_Member_65.mono _ _ _
      | exact api_Past_66.mono _ _ _
      | exact slices_Equal_string_string.mono _ _ _
      | exact LeO.none _
      | refine LeO.ite ?_ ?_
      | refine LeO.bind ?_ (fun _ => ?_)
theorem answer_Same.mono : ∀ a0 a1 a2 a3 a4 a5 a6 a7 a8 a9 a10 a11 a12 a13 k, LeO (answer_Same.f k a0 a1 a2 a3 a4 a5 a6 a7 a8 a9 a10 a11 a12 a13) (answer_Same.f (k + 1) a0 a1 a2 a3 a4 a5 a6 a7 a8 a9 a10 a11 a12 a13) := by
  intro a0 a1 a2 a3 a4 a5 a6 a7 a8 a9 a10 a11 a12 a13 k
  have ih0 := answer_Same.mono_l k
  unfold answer_Same.f
  repeat' first
      | (with_reducible exact ih0 _ _ _ _ _ _ _ _ _ _ _ _ _ _ _)
      | (with_reducible exact api_Member_65.mono _ _ _)
      | (with_reducible exact api_Past_66.mono _ _ _)
      | (with_reducible exact slices_Equal_string_string.mono _ _ _)
      | (with_reducible exact LeO.refl _)
      | (with_reducible exact LeO.none _)
      | (with_reducible refine LeO.ite ?_ ?_)
      | (with_reducible refine LeO.bind ?_ (fun _ => ?_))
      | exact ih0 _ _ _ _ _ _ _ _ _ _ _ _ _ _ _
      | exact api_Member_65.mono _ _ _
      | exact api_Past_66.mono _ _ _
      | exact slices_Equal_string_string.mono _ _ _
      | exact LeO.none _
      | refine LeO.ite ?_ ?_
      | refine LeO.bind ?_ (fun _ => ?_)
set_option maxHeartbeats 8000000 in
set_option maxRecDepth 100000 in
theorem answer_Same.calls (k : Nat) (a0_0 : Int) (a0_1 : Int) (a0_2 : ByteArray) (A0_3 : Option Addr) (c0_3 : Nat) (l0_3 : List Int) (A0_4 : Option Addr) (c0_4 : Nat) (l0_4 : List ByteArray) (A0_5 : Option Addr) (c0_5 : Nat) (l0_5 : List (S62)) (A0_6 : Option Addr) (c0_6 : Nat) (l0_6 : List (S64)) (a1_0 : Int) (a1_1 : Int) (a1_2 : ByteArray) (A1_3 : Option Addr) (c1_3 : Nat) (l1_3 : List Int) (A1_4 : Option Addr) (c1_4 : Nat) (l1_4 : List ByteArray) (A1_5 : Option Addr) (c1_5 : Nat) (l1_5 : List (S62)) (A1_6 : Option Addr) (c1_6 : Nat) (l1_6 : List (S64)) (r : Bool) (w : World) (hr0_3 : Kd.C (Kd.int .u8) w A0_3 l0_3.length l0_3) (hc0_3 : l0_3.length ≤ c0_3) (hr0_4 : Kd.C Kd.string w A0_4 l0_4.length l0_4) (hc0_4 : l0_4.length ≤ c0_4) (hr0_5 : Kd.C k62 w A0_5 l0_5.length l0_5) (hc0_5 : l0_5.length ≤ c0_5) (hr0_6 : Kd.C k64 w A0_6 l0_6.length l0_6) (hc0_6 : l0_6.length ≤ c0_6) (hr1_3 : Kd.C (Kd.int .u8) w A1_3 l1_3.length l1_3) (hc1_3 : l1_3.length ≤ c1_3) (hr1_4 : Kd.C Kd.string w A1_4 l1_4.length l1_4) (hc1_4 : l1_4.length ≤ c1_4) (hr1_5 : Kd.C k62 w A1_5 l1_5.length l1_5) (hc1_5 : l1_5.length ≤ c1_5) (hr1_6 : Kd.C k64 w A1_6 l1_6.length l1_6) (hc1_6 : l1_6.length ≤ c1_6) (h : answer_Same.f k a0_0 a0_1 a0_2 l0_3 l0_4 l0_5 l0_6 a1_0 a1_1 a1_2 l1_3 l1_4 l1_5 l1_6 = some r) :
    Calls Try.prog 33 #[.agg #[.int .i64 a0_0, .int .i64 a0_1, .string a0_2, .slice A0_3 l0_3.length c0_3, .slice A0_4 l0_4.length c0_4, .slice A0_5 l0_5.length c0_5, .slice A0_6 l0_6.length c0_6], .agg #[.int .i64 a1_0, .int .i64 a1_1, .string a1_2, .slice A1_3 l1_3.length c1_3, .slice A1_4 l1_4.length c1_4, .slice A1_5 l1_5.length c1_5, .slice A1_6 l1_6.length c1_6]] w fun e w' => e = .returned (.bool r) ∧ Below w.heap.size w w' := by
  have hu28 := Try.underlying28
  have HR0_3 := Aside0.mk hr0_3
  have HC0_3 := Aside0.mk hc0_3
  clear hr0_3 hc0_3
  have HR0_4 := Aside0.mk hr0_4
  have HC0_4 := Aside0.mk hc0_4
  clear hr0_4 hc0_4
  have HR0_5 := Aside0.mk hr0_5
  have HC0_5 := Aside0.mk hc0_5
  clear hr0_5 hc0_5
  have HR0_6 := Aside0.mk hr0_6
  have HC0_6 := Aside0.mk hc0_6
  clear hr0_6 hc0_6
  have HR1_3 := Aside0.mk hr1_3
  have HC1_3 := Aside0.mk hc1_3
  clear hr1_3 hc1_3
  have HR1_4 := Aside0.mk hr1_4
  have HC1_4 := Aside0.mk hc1_4
  clear hr1_4 hc1_4
  have HR1_5 := Aside0.mk hr1_5
  have HC1_5 := Aside0.mk hc1_5
  clear hr1_5 hc1_5
  have HR1_6 := Aside0.mk hr1_6
  have HC1_6 := Aside0.mk hc1_6
  clear hr1_6 hc1_6
  have HB := Aside0.mk (Below.refl w.heap.size w)
  have H : (if a0_0 = a1_0 then (if a0_1 = a1_1 then (if a0_2.toList = a1_2.toList then ((bytes_Equal.f l0_3 l1_3).bind fun t298 => (answer_Same.j0 k (!t298) a0_0 a0_1 a0_2 l0_3 l0_4 l0_5 l0_6 a1_0 a1_1 a1_2 l1_3 l1_4 l1_5 l1_6)) else (answer_Same.j0 k true a0_0 a0_1 a0_2 l0_3 l0_4 l0_5 l0_6 a1_0 a1_1 a1_2 l1_3 l1_4 l1_5 l1_6)) else (answer_Same.j0 k true a0_0 a0_1 a0_2 l0_3 l0_4 l0_5 l0_6 a1_0 a1_1 a1_2 l1_3 l1_4 l1_5 l1_6)) else (answer_Same.j0 k true a0_0 a0_1 a0_2 l0_3 l0_4 l0_5 l0_6 a1_0 a1_1 a1_2 l1_3 l1_4 l1_5 l1_6)) = some r := h
  clear h
  have HC3 := Aside0.mk H
  clear H
  go_enter Try.func33, Try.ntmps33
  go_upto_region 1 with (first | ((with_reducible refine gate_dst (N := 2) rfl ?_); refine box_event ?hg (N := 2) ?hd (cs := #[.int .i64 a0_0, .int .i64 a0_1, .string a0_2, .slice A0_3 l0_3.length c0_3, .slice A0_4 l0_4.length c0_4, .slice A0_5 l0_5.length c0_5, .slice A0_6 l0_6.length c0_6]) (t := 28) ?hr ?_; (case hd => rfl); (case hg => rfl); (case hr => first | (go_simp; done) | (go_simp; rfl)); intro gb296 hg w4 hbox hb; have n0_ := Aside0.mk (below_step (by repeat (first | (with_reducible first | exact HB.out | apply below_alloc | apply pw_below_drewN | apply below_drew1) | exact HB.out)) hb); have n1_ := Aside0.mk (hbox); have n2_ := Aside0.mk ((by rw [hg]; exact (below_size (by repeat (first | (with_reducible first | exact HB.out | apply below_alloc | apply pw_below_drewN | apply below_drew1) | exact HB.out))) : w.heap.size ≤ gb296)); have n3_ := Aside0.mk ((by rw [hg]; exact (below_size (by repeat (first | (with_reducible first | exact HB.out | apply below_alloc | apply pw_below_drewN | apply below_drew1) | exact HB.out))) : w.heap.size ≤ gb296)); clear HB; have HB := n0_; have BK296 := n1_; have GW296 := n2_; have GE296 := n3_; clear n0_ n1_ n2_ n3_; clear hb hbox hg) | ((with_reducible refine gate_dst (N := 3) rfl ?_); refine box_event ?hg (N := 3) ?hd (cs := #[.int .i64 a1_0, .int .i64 a1_1, .string a1_2, .slice A1_3 l1_3.length c1_3, .slice A1_4 l1_4.length c1_4, .slice A1_5 l1_5.length c1_5, .slice A1_6 l1_6.length c1_6]) (t := 28) ?hr ?_; (case hd => rfl); (case hg => rfl); (case hr => first | (go_simp; done) | (go_simp; rfl)); intro gb297 hg w5 hbox hb; have n0_ := Aside0.mk (blk_below (g := gb296) (o := .cells #[.int .i64 a0_0, .int .i64 a0_1, .string a0_2, .slice A0_3 l0_3.length c0_3, .slice A0_4 l0_4.length c0_4, .slice A0_5 l0_5.length c0_5, .slice A0_6 l0_6.length c0_6] 28 (0, 0)) (by (with_reducible repeat (first | refine blk_drewN ?_ _ | refine blk_drew ?_ | refine blk_alloc ?_ _)); exact BK296.out) hb); have n1_ := Aside0.mk (below_step (by repeat (first | (with_reducible first | exact HB.out | apply below_alloc | apply pw_below_drewN | apply below_drew1 | refine below_set ?_ GE296.out) | exact HB.out)) hb); have n2_ := Aside0.mk (hbox); have n3_ := Aside0.mk ((by rw [hg]; exact (below_size (by repeat (first | (with_reducible first | exact HB.out | apply below_alloc | apply pw_below_drewN | apply below_drew1 | refine below_set ?_ GE296.out) | exact HB.out))) : w.heap.size ≤ gb297)); have n4_ := Aside0.mk ((by rw [hg]; exact (below_size (by repeat (first | (with_reducible first | exact HB.out | apply below_alloc | apply pw_below_drewN | apply below_drew1 | refine below_set ?_ GE296.out) | exact HB.out))) : w.heap.size ≤ gb297)); have n5_ := Aside0.mk ((by rw [hg]; exact Nat.ne_of_lt (blk_lt (g := gb296) (o := .cells #[.int .i64 a0_0, .int .i64 a0_1, .string a0_2, .slice A0_3 l0_3.length c0_3, .slice A0_4 l0_4.length c0_4, .slice A0_5 l0_5.length c0_5, .slice A0_6 l0_6.length c0_6] 28 (0, 0)) (by (with_reducible repeat (first | refine blk_drewN ?_ _ | refine blk_drew ?_ | refine blk_alloc ?_ _)); exact BK296.out)) : gb296 ≠ gb297)); have n6_ := Aside0.mk ((by rw [hg]; exact Nat.ne_of_gt (blk_lt (g := gb296) (o := .cells #[.int .i64 a0_0, .int .i64 a0_1, .string a0_2, .slice A0_3 l0_3.length c0_3, .slice A0_4 l0_4.length c0_4, .slice A0_5 l0_5.length c0_5, .slice A0_6 l0_6.length c0_6] 28 (0, 0)) (by (with_reducible repeat (first | refine blk_drewN ?_ _ | refine blk_drew ?_ | refine blk_alloc ?_ _)); exact BK296.out)) : gb297 ≠ gb296)); clear BK296; clear HB; have BK296 := n0_; have HB := n1_; have BK297 := n2_; have GW297 := n3_; have GE297 := n4_; have NB296_297 := n5_; have NB297_296 := n6_; clear n0_ n1_ n2_ n3_ n4_ n5_ n6_; clear hb hbox hg))
  (try simp only [Act.put, List.setIfInBounds_toArray, List.set_cons_zero, List.set_cons_succ])
  go_cut [31] (fun v31 wc => ∃ (kq : Nat) (x31_2 : Bool), v31 = .bool x31_2 ∧ Aside0 (answer_Same.j0 kq x31_2 a0_0 a0_1 a0_2 l0_3 l0_4 l0_5 l0_6 a1_0 a1_1 a1_2 l1_3 l1_4 l1_5 l1_6 = some r) ∧ Aside0 (kq ≤ k) ∧ Aside0 (wc.heap[gb296]? = some (.cells #[.int .i64 a0_0, .int .i64 a0_1, .string a0_2, (.slice A0_3 l0_3.length c0_3), (.slice A0_4 l0_4.length c0_4), (.slice A0_5 l0_5.length c0_5), (.slice A0_6 l0_6.length c0_6)] 28 (0, 0))) ∧ Aside0 (wc.heap[gb297]? = some (.cells #[.int .i64 a1_0, .int .i64 a1_1, .string a1_2, (.slice A1_3 l1_3.length c1_3), (.slice A1_4 l1_4.length c1_4), (.slice A1_5 l1_5.length c1_5), (.slice A1_6 l1_6.length c1_6)] 28 (0, 0))) ∧ Aside0 (Below w.heap.size w wc))
  case first =>
    have H := HC3.out
    clear HC3
    by_cases c6 : a0_0 = a1_0
    · rw [if_pos c6] at H
      have c6b0 : (a0_0 == a1_0) = true := beq_iff_eq.mpr c6
      have c6b1 : (a0_0 != a1_0) = false := bne_eq_false_iff_eq.mpr c6
      clear c6
      (first | rw [c6b0] | (simp only [i64_w, i32_w]; rw [c6b0]) | skip)
      by_cases c7 : a0_1 = a1_1
      · rw [if_pos c7] at H
        have c7b0 : (a0_1 == a1_1) = true := beq_iff_eq.mpr c7
        have c7b1 : (a0_1 != a1_1) = false := bne_eq_false_iff_eq.mpr c7
        clear c7
        by_cases c8 : a0_2.toList = a1_2.toList
        · rw [if_pos c8] at H
          have c8b0 : (a0_2.toList == a1_2.toList) = true := beq_iff_eq.mpr c8
          have c8b1 : (a0_2.toList != a1_2.toList) = false := bne_eq_false_iff_eq.mpr c8
          clear c8
          replace H := Option.bind_eq_some_iff.mp H
          obtain ⟨t298, A90, H⟩ := H
          replace H : (answer_Same.j0 k (!t298) a0_0 a0_1 a0_2 l0_3 l0_4 l0_5 l0_6 a1_0 a1_1 a1_2 l1_3 l1_4 l1_5 l1_6) = some r := H
          have A9 := Aside0.mk A90
          clear A90
          have H' := Aside0.mk H
          clear H
          have hnb10 := NB296_297.out
          have hnc10 := NB297_296.out
          have hcz11_0 : w5.cell? ⟨gb296, 0, none⟩ = some (.int .i64 a0_0) := (blk_cell BK296.out 0).trans rfl
          have hcz11_1 : w5.cell? ⟨gb296, 1, none⟩ = some (.int .i64 a0_1) := (blk_cell BK296.out 1).trans rfl
          have hcz11_2 : w5.cell? ⟨gb296, 2, none⟩ = some (.string a0_2) := (blk_cell BK296.out 2).trans rfl
          have hcz11_3 : w5.cell? ⟨gb296, 3, none⟩ = some (.slice A0_3 l0_3.length c0_3) := (blk_cell BK296.out 3).trans rfl
          have hcz11_4 : w5.cell? ⟨gb296, 4, none⟩ = some (.slice A0_4 l0_4.length c0_4) := (blk_cell BK296.out 4).trans rfl
          have hcz11_5 : w5.cell? ⟨gb296, 5, none⟩ = some (.slice A0_5 l0_5.length c0_5) := (blk_cell BK296.out 5).trans rfl
          have hcz11_6 : w5.cell? ⟨gb296, 6, none⟩ = some (.slice A0_6 l0_6.length c0_6) := (blk_cell BK296.out 6).trans rfl
          have hfz11_0 := blk_frozen BK296.out 0
          have hfz11_1 := blk_frozen BK296.out 1
          have hfz11_2 := blk_frozen BK296.out 2
          have hfz11_3 := blk_frozen BK296.out 3
          have hfz11_4 := blk_frozen BK296.out 4
          have hfz11_5 := blk_frozen BK296.out 5
          have hfz11_6 := blk_frozen BK296.out 6
          have hcz12_0 : w5.cell? ⟨gb297, 0, none⟩ = some (.int .i64 a1_0) := (blk_cell BK297.out 0).trans rfl
          have hcz12_1 : w5.cell? ⟨gb297, 1, none⟩ = some (.int .i64 a1_1) := (blk_cell BK297.out 1).trans rfl
          have hcz12_2 : w5.cell? ⟨gb297, 2, none⟩ = some (.string a1_2) := (blk_cell BK297.out 2).trans rfl
          have hcz12_3 : w5.cell? ⟨gb297, 3, none⟩ = some (.slice A1_3 l1_3.length c1_3) := (blk_cell BK297.out 3).trans rfl
          have hcz12_4 : w5.cell? ⟨gb297, 4, none⟩ = some (.slice A1_4 l1_4.length c1_4) := (blk_cell BK297.out 4).trans rfl
          have hcz12_5 : w5.cell? ⟨gb297, 5, none⟩ = some (.slice A1_5 l1_5.length c1_5) := (blk_cell BK297.out 5).trans rfl
          have hcz12_6 : w5.cell? ⟨gb297, 6, none⟩ = some (.slice A1_6 l1_6.length c1_6) := (blk_cell BK297.out 6).trans rfl
          have hfz12_0 := blk_frozen BK297.out 0
          have hfz12_1 := blk_frozen BK297.out 1
          have hfz12_2 := blk_frozen BK297.out 2
          have hfz12_3 := blk_frozen BK297.out 3
          have hfz12_4 := blk_frozen BK297.out 4
          have hfz12_5 := blk_frozen BK297.out 5
          have hfz12_6 := blk_frozen BK297.out 6
          go_wp2_with (first | (go_at_call 62; (with_reducible refine (bytes_Equal.calls _ _ l0_3 _ _ l1_3 t298 _ ?side1 ?side2 ?side3 ?side4 A9.out).mono ?_); (case side1 => repeat (first | exact (Kd.C_below HR0_3.out HB.out) | (with_reducible refine Kd.C_alloc ?_ _) | (with_reducible refine Kd.C_drewN ?_ _) | (with_reducible refine Kd.C_drew ?_))); (case side2 => exact HC0_3.out); (case side3 => repeat (first | exact (Kd.C_below HR1_3.out HB.out) | (with_reducible refine Kd.C_alloc ?_ _) | (with_reducible refine Kd.C_drewN ?_ _) | (with_reducible refine Kd.C_drew ?_))); (case side4 => exact HC1_3.out); rintro e w' ⟨rfl, ⟨nd, rfl⟩⟩))
          go_meet
          case rel => exact ⟨_, (!t298), (by first | rfl | (simp; done) | (simp [*]; done)), H', ⟨by first | omega | exact Nat.le_refl _⟩, ⟨by (with_reducible repeat (first | refine blk_drewN ?_ _ | refine blk_drew ?_ | refine blk_alloc ?_ _)); exact BK296.out⟩, ⟨by (with_reducible repeat (first | refine blk_drewN ?_ _ | refine blk_drew ?_ | refine blk_alloc ?_ _)); exact BK297.out⟩, ⟨by repeat (first | (with_reducible first | exact HB.out | apply below_alloc | apply pw_below_drewN | apply below_drew1 | refine below_set ?_ GE296.out | refine below_set ?_ GE297.out) | exact HB.out)⟩⟩
        · rw [if_neg c8] at H
          have c8b0 : (a0_2.toList == a1_2.toList) = false := beq_eq_false_iff_ne.mpr c8
          have c8b1 : (a0_2.toList != a1_2.toList) = true := bne_iff_ne.mpr c8
          have H' := Aside0.mk H
          clear H
          have hnb13 := NB296_297.out
          have hnc13 := NB297_296.out
          have hcz14_0 : w5.cell? ⟨gb296, 0, none⟩ = some (.int .i64 a0_0) := (blk_cell BK296.out 0).trans rfl
          have hcz14_1 : w5.cell? ⟨gb296, 1, none⟩ = some (.int .i64 a0_1) := (blk_cell BK296.out 1).trans rfl
          have hcz14_2 : w5.cell? ⟨gb296, 2, none⟩ = some (.string a0_2) := (blk_cell BK296.out 2).trans rfl
          have hcz14_3 : w5.cell? ⟨gb296, 3, none⟩ = some (.slice A0_3 l0_3.length c0_3) := (blk_cell BK296.out 3).trans rfl
          have hcz14_4 : w5.cell? ⟨gb296, 4, none⟩ = some (.slice A0_4 l0_4.length c0_4) := (blk_cell BK296.out 4).trans rfl
          have hcz14_5 : w5.cell? ⟨gb296, 5, none⟩ = some (.slice A0_5 l0_5.length c0_5) := (blk_cell BK296.out 5).trans rfl
          have hcz14_6 : w5.cell? ⟨gb296, 6, none⟩ = some (.slice A0_6 l0_6.length c0_6) := (blk_cell BK296.out 6).trans rfl
          have hfz14_0 := blk_frozen BK296.out 0
          have hfz14_1 := blk_frozen BK296.out 1
          have hfz14_2 := blk_frozen BK296.out 2
          have hfz14_3 := blk_frozen BK296.out 3
          have hfz14_4 := blk_frozen BK296.out 4
          have hfz14_5 := blk_frozen BK296.out 5
          have hfz14_6 := blk_frozen BK296.out 6
          have hcz15_0 : w5.cell? ⟨gb297, 0, none⟩ = some (.int .i64 a1_0) := (blk_cell BK297.out 0).trans rfl
          have hcz15_1 : w5.cell? ⟨gb297, 1, none⟩ = some (.int .i64 a1_1) := (blk_cell BK297.out 1).trans rfl
          have hcz15_2 : w5.cell? ⟨gb297, 2, none⟩ = some (.string a1_2) := (blk_cell BK297.out 2).trans rfl
          have hcz15_3 : w5.cell? ⟨gb297, 3, none⟩ = some (.slice A1_3 l1_3.length c1_3) := (blk_cell BK297.out 3).trans rfl
          have hcz15_4 : w5.cell? ⟨gb297, 4, none⟩ = some (.slice A1_4 l1_4.length c1_4) := (blk_cell BK297.out 4).trans rfl
          have hcz15_5 : w5.cell? ⟨gb297, 5, none⟩ = some (.slice A1_5 l1_5.length c1_5) := (blk_cell BK297.out 5).trans rfl
          have hcz15_6 : w5.cell? ⟨gb297, 6, none⟩ = some (.slice A1_6 l1_6.length c1_6) := (blk_cell BK297.out 6).trans rfl
          have hfz15_0 := blk_frozen BK297.out 0
          have hfz15_1 := blk_frozen BK297.out 1
          have hfz15_2 := blk_frozen BK297.out 2
          have hfz15_3 := blk_frozen BK297.out 3
          have hfz15_4 := blk_frozen BK297.out 4
          have hfz15_5 := blk_frozen BK297.out 5
          have hfz15_6 := blk_frozen BK297.out 6
          go_wp2
          go_meet
          case rel => exact ⟨_, (true), (by first | rfl | (simp; done) | (simp [*]; done)), H', ⟨by first | omega | exact Nat.le_refl _⟩, ⟨by (with_reducible repeat (first | refine blk_drewN ?_ _ | refine blk_drew ?_ | refine blk_alloc ?_ _)); exact BK296.out⟩, ⟨by (with_reducible repeat (first | refine blk_drewN ?_ _ | refine blk_drew ?_ | refine blk_alloc ?_ _)); exact BK297.out⟩, ⟨by repeat (first | (with_reducible first | exact HB.out | apply below_alloc | apply pw_below_drewN | apply below_drew1 | refine below_set ?_ GE296.out | refine below_set ?_ GE297.out) | exact HB.out)⟩⟩
      · rw [if_neg c7] at H
        have c7b0 : (a0_1 == a1_1) = false := beq_eq_false_iff_ne.mpr c7
        have c7b1 : (a0_1 != a1_1) = true := bne_iff_ne.mpr c7
        have H' := Aside0.mk H
        clear H
        have hnb16 := NB296_297.out
        have hnc16 := NB297_296.out
        have hcz17_0 : w5.cell? ⟨gb296, 0, none⟩ = some (.int .i64 a0_0) := (blk_cell BK296.out 0).trans rfl
        have hcz17_1 : w5.cell? ⟨gb296, 1, none⟩ = some (.int .i64 a0_1) := (blk_cell BK296.out 1).trans rfl
        have hcz17_2 : w5.cell? ⟨gb296, 2, none⟩ = some (.string a0_2) := (blk_cell BK296.out 2).trans rfl
        have hcz17_3 : w5.cell? ⟨gb296, 3, none⟩ = some (.slice A0_3 l0_3.length c0_3) := (blk_cell BK296.out 3).trans rfl
        have hcz17_4 : w5.cell? ⟨gb296, 4, none⟩ = some (.slice A0_4 l0_4.length c0_4) := (blk_cell BK296.out 4).trans rfl
        have hcz17_5 : w5.cell? ⟨gb296, 5, none⟩ = some (.slice A0_5 l0_5.length c0_5) := (blk_cell BK296.out 5).trans rfl
        have hcz17_6 : w5.cell? ⟨gb296, 6, none⟩ = some (.slice A0_6 l0_6.length c0_6) := (blk_cell BK296.out 6).trans rfl
        have hfz17_0 := blk_frozen BK296.out 0
        have hfz17_1 := blk_frozen BK296.out 1
        have hfz17_2 := blk_frozen BK296.out 2
        have hfz17_3 := blk_frozen BK296.out 3
        have hfz17_4 := blk_frozen BK296.out 4
        have hfz17_5 := blk_frozen BK296.out 5
        have hfz17_6 := blk_frozen BK296.out 6
        have hcz18_0 : w5.cell? ⟨gb297, 0, none⟩ = some (.int .i64 a1_0) := (blk_cell BK297.out 0).trans rfl
        have hcz18_1 : w5.cell? ⟨gb297, 1, none⟩ = some (.int .i64 a1_1) := (blk_cell BK297.out 1).trans rfl
        have hcz18_2 : w5.cell? ⟨gb297, 2, none⟩ = some (.string a1_2) := (blk_cell BK297.out 2).trans rfl
        have hcz18_3 : w5.cell? ⟨gb297, 3, none⟩ = some (.slice A1_3 l1_3.length c1_3) := (blk_cell BK297.out 3).trans rfl
        have hcz18_4 : w5.cell? ⟨gb297, 4, none⟩ = some (.slice A1_4 l1_4.length c1_4) := (blk_cell BK297.out 4).trans rfl
        have hcz18_5 : w5.cell? ⟨gb297, 5, none⟩ = some (.slice A1_5 l1_5.length c1_5) := (blk_cell BK297.out 5).trans rfl
        have hcz18_6 : w5.cell? ⟨gb297, 6, none⟩ = some (.slice A1_6 l1_6.length c1_6) := (blk_cell BK297.out 6).trans rfl
        have hfz18_0 := blk_frozen BK297.out 0
        have hfz18_1 := blk_frozen BK297.out 1
        have hfz18_2 := blk_frozen BK297.out 2
        have hfz18_3 := blk_frozen BK297.out 3
        have hfz18_4 := blk_frozen BK297.out 4
        have hfz18_5 := blk_frozen BK297.out 5
        have hfz18_6 := blk_frozen BK297.out 6
        go_wp2
        go_meet
        case rel => exact ⟨_, (true), (by first | rfl | (simp; done) | (simp [*]; done)), H', ⟨by first | omega | exact Nat.le_refl _⟩, ⟨by (with_reducible repeat (first | refine blk_drewN ?_ _ | refine blk_drew ?_ | refine blk_alloc ?_ _)); exact BK296.out⟩, ⟨by (with_reducible repeat (first | refine blk_drewN ?_ _ | refine blk_drew ?_ | refine blk_alloc ?_ _)); exact BK297.out⟩, ⟨by repeat (first | (with_reducible first | exact HB.out | apply below_alloc | apply pw_below_drewN | apply below_drew1 | refine below_set ?_ GE296.out | refine below_set ?_ GE297.out) | exact HB.out)⟩⟩
    · rw [if_neg c6] at H
      have c6b0 : (a0_0 == a1_0) = false := beq_eq_false_iff_ne.mpr c6
      have c6b1 : (a0_0 != a1_0) = true := bne_iff_ne.mpr c6
      (first | rw [c6b0] | (simp only [i64_w, i32_w]; rw [c6b0]) | skip)
      have H' := Aside0.mk H
      clear H
      have hnb19 := NB296_297.out
      have hnc19 := NB297_296.out
      have hcz20_0 : w5.cell? ⟨gb296, 0, none⟩ = some (.int .i64 a0_0) := (blk_cell BK296.out 0).trans rfl
      have hcz20_1 : w5.cell? ⟨gb296, 1, none⟩ = some (.int .i64 a0_1) := (blk_cell BK296.out 1).trans rfl
      have hcz20_2 : w5.cell? ⟨gb296, 2, none⟩ = some (.string a0_2) := (blk_cell BK296.out 2).trans rfl
      have hcz20_3 : w5.cell? ⟨gb296, 3, none⟩ = some (.slice A0_3 l0_3.length c0_3) := (blk_cell BK296.out 3).trans rfl
      have hcz20_4 : w5.cell? ⟨gb296, 4, none⟩ = some (.slice A0_4 l0_4.length c0_4) := (blk_cell BK296.out 4).trans rfl
      have hcz20_5 : w5.cell? ⟨gb296, 5, none⟩ = some (.slice A0_5 l0_5.length c0_5) := (blk_cell BK296.out 5).trans rfl
      have hcz20_6 : w5.cell? ⟨gb296, 6, none⟩ = some (.slice A0_6 l0_6.length c0_6) := (blk_cell BK296.out 6).trans rfl
      have hfz20_0 := blk_frozen BK296.out 0
      have hfz20_1 := blk_frozen BK296.out 1
      have hfz20_2 := blk_frozen BK296.out 2
      have hfz20_3 := blk_frozen BK296.out 3
      have hfz20_4 := blk_frozen BK296.out 4
      have hfz20_5 := blk_frozen BK296.out 5
      have hfz20_6 := blk_frozen BK296.out 6
      have hcz21_0 : w5.cell? ⟨gb297, 0, none⟩ = some (.int .i64 a1_0) := (blk_cell BK297.out 0).trans rfl
      have hcz21_1 : w5.cell? ⟨gb297, 1, none⟩ = some (.int .i64 a1_1) := (blk_cell BK297.out 1).trans rfl
      have hcz21_2 : w5.cell? ⟨gb297, 2, none⟩ = some (.string a1_2) := (blk_cell BK297.out 2).trans rfl
      have hcz21_3 : w5.cell? ⟨gb297, 3, none⟩ = some (.slice A1_3 l1_3.length c1_3) := (blk_cell BK297.out 3).trans rfl
      have hcz21_4 : w5.cell? ⟨gb297, 4, none⟩ = some (.slice A1_4 l1_4.length c1_4) := (blk_cell BK297.out 4).trans rfl
      have hcz21_5 : w5.cell? ⟨gb297, 5, none⟩ = some (.slice A1_5 l1_5.length c1_5) := (blk_cell BK297.out 5).trans rfl
      have hcz21_6 : w5.cell? ⟨gb297, 6, none⟩ = some (.slice A1_6 l1_6.length c1_6) := (blk_cell BK297.out 6).trans rfl
      have hfz21_0 := blk_frozen BK297.out 0
      have hfz21_1 := blk_frozen BK297.out 1
      have hfz21_2 := blk_frozen BK297.out 2
      have hfz21_3 := blk_frozen BK297.out 3
      have hfz21_4 := blk_frozen BK297.out 4
      have hfz21_5 := blk_frozen BK297.out 5
      have hfz21_6 := blk_frozen BK297.out 6
      go_wp2
      go_meet
      case rel => exact ⟨_, (true), (by first | rfl | (simp; done) | (simp [*]; done)), H', ⟨by first | omega | exact Nat.le_refl _⟩, ⟨by (with_reducible repeat (first | refine blk_drewN ?_ _ | refine blk_drew ?_ | refine blk_alloc ?_ _)); exact BK296.out⟩, ⟨by (with_reducible repeat (first | refine blk_drewN ?_ _ | refine blk_drew ?_ | refine blk_alloc ?_ _)); exact BK297.out⟩, ⟨by repeat (first | (with_reducible first | exact HB.out | apply below_alloc | apply pw_below_drewN | apply below_drew1 | refine below_set ?_ GE296.out | refine below_set ?_ GE297.out) | exact HB.out)⟩⟩
  case rest =>
    clear HC3
    try clear c1
    try clear p2
    try clear c3
    try clear c6
    try clear c6b0
    try clear c6b1
    try clear c7
    try clear c7b0
    try clear c7b1
    try clear c8
    try clear c8b0
    try clear c8b1
    try clear c10
    try clear c13
    try clear c16
    try clear c19
    try clear hcz11_0
    try clear hcz11_1
    try clear hcz11_2
    try clear hcz11_3
    try clear hcz11_4
    try clear hcz11_5
    try clear hcz11_6
    try clear hcz12_0
    try clear hcz12_1
    try clear hcz12_2
    try clear hcz12_3
    try clear hcz12_4
    try clear hcz12_5
    try clear hcz12_6
    try clear hcz14_0
    try clear hcz14_1
    try clear hcz14_2
    try clear hcz14_3
    try clear hcz14_4
    try clear hcz14_5
    try clear hcz14_6
    try clear hcz15_0
    try clear hcz15_1
    try clear hcz15_2
    try clear hcz15_3
    try clear hcz15_4
    try clear hcz15_5
    try clear hcz15_6
    try clear hcz17_0
    try clear hcz17_1
    try clear hcz17_2
    try clear hcz17_3
    try clear hcz17_4
    try clear hcz17_5
    try clear hcz17_6
    try clear hcz18_0
    try clear hcz18_1
    try clear hcz18_2
    try clear hcz18_3
    try clear hcz18_4
    try clear hcz18_5
    try clear hcz18_6
    try clear hcz20_0
    try clear hcz20_1
    try clear hcz20_2
    try clear hcz20_3
    try clear hcz20_4
    try clear hcz20_5
    try clear hcz20_6
    try clear hcz21_0
    try clear hcz21_1
    try clear hcz21_2
    try clear hcz21_3
    try clear hcz21_4
    try clear hcz21_5
    try clear hcz21_6
    try clear hfz11_0
    try clear hfz11_1
    try clear hfz11_2
    try clear hfz11_3
    try clear hfz11_4
    try clear hfz11_5
    try clear hfz11_6
    try clear hfz12_0
    try clear hfz12_1
    try clear hfz12_2
    try clear hfz12_3
    try clear hfz12_4
    try clear hfz12_5
    try clear hfz12_6
    try clear hfz14_0
    try clear hfz14_1
    try clear hfz14_2
    try clear hfz14_3
    try clear hfz14_4
    try clear hfz14_5
    try clear hfz14_6
    try clear hfz15_0
    try clear hfz15_1
    try clear hfz15_2
    try clear hfz15_3
    try clear hfz15_4
    try clear hfz15_5
    try clear hfz15_6
    try clear hfz17_0
    try clear hfz17_1
    try clear hfz17_2
    try clear hfz17_3
    try clear hfz17_4
    try clear hfz17_5
    try clear hfz17_6
    try clear hfz18_0
    try clear hfz18_1
    try clear hfz18_2
    try clear hfz18_3
    try clear hfz18_4
    try clear hfz18_5
    try clear hfz18_6
    try clear hfz20_0
    try clear hfz20_1
    try clear hfz20_2
    try clear hfz20_3
    try clear hfz20_4
    try clear hfz20_5
    try clear hfz20_6
    try clear hfz21_0
    try clear hfz21_1
    try clear hfz21_2
    try clear hfz21_3
    try clear hfz21_4
    try clear hfz21_5
    try clear hfz21_6
    obtain ⟨kq, x31_2, rfl, HA, HJ2, BK296, BK297, HB⟩ := hcut
    cases kq with
    | zero => exact absurd HA.out (by simp [answer_Same.j0])
    | succ kj2 =>
      have H := HA.out
      clear HA
      simp only [answer_Same.j0] at H
      by_cases c22 : x31_2 = true
      · subst c22
        have H1 : (some false) = some r := by rw [if_pos rfl] at H; exact H
        clear H
        have H := H1
        clear H1
        obtain rfl := Option.some.inj H
        go_wp2
        go_ret
        exact ⟨by first | rfl | (simp [errW_none, errW_some] <;> rfl) | (simp [*, errW_none, errW_some] <;> rfl), by repeat (first | (with_reducible first | exact HB.out | apply below_alloc | apply pw_below_drewN | apply below_drew1 | refine below_set ?_ GE296.out | refine below_set ?_ GE297.out) | exact HB.out)⟩
      · replace c22 := Bool.eq_false_iff.mpr c22
        subst c22
        have H1 : ((slices_Equal_string_string.f kj2 l0_4 l1_4).bind fun t299 => (if t299 = true then ((api_Member_65.f kj2 l0_5 l1_5).bind fun t300 => (if t300 = true then ((api_Past_66.f kj2 l0_6 l1_6).bind fun t301 => (some t301)) else (some false))) else (some false))) = some r := by rw [if_neg (show ¬ (false = true) by decide)] at H; exact H
        clear H
        have H := H1
        clear H1
        replace H := Option.bind_eq_some_iff.mp H
        obtain ⟨t299, A230, H⟩ := H
        replace H : (if t299 = true then ((api_Member_65.f kj2 l0_5 l1_5).bind fun t300 => (if t300 = true then ((api_Past_66.f kj2 l0_6 l1_6).bind fun t301 => (some t301)) else (some false))) else (some false)) = some r := H
        have A23 := Aside0.mk A230
        clear A230
        by_cases c24 : t299 = true
        · subst c24
          have H1 : ((api_Member_65.f kj2 l0_5 l1_5).bind fun t300 => (if t300 = true then ((api_Past_66.f kj2 l0_6 l1_6).bind fun t301 => (some t301)) else (some false))) = some r := by rw [if_pos rfl] at H; exact H
          clear H
          have H := H1
          clear H1
          replace H := Option.bind_eq_some_iff.mp H
          obtain ⟨t300, A250, H⟩ := H
          replace H : (if t300 = true then ((api_Past_66.f kj2 l0_6 l1_6).bind fun t301 => (some t301)) else (some false)) = some r := H
          have A25 := Aside0.mk A250
          clear A250
          by_cases c26 : t300 = true
          · subst c26
            have H1 : ((api_Past_66.f kj2 l0_6 l1_6).bind fun t301 => (some t301)) = some r := by rw [if_pos rfl] at H; exact H
            clear H
            have H := H1
            clear H1
            replace H := Option.bind_eq_some_iff.mp H
            obtain ⟨t301, A270, H⟩ := H
            replace H : (some t301) = some r := H
            have A27 := Aside0.mk A270
            clear A270
            obtain rfl := Option.some.inj H
            have hnb28 := NB296_297.out
            have hnc28 := NB297_296.out
            have hcz29_0 : wc.cell? ⟨gb296, 0, none⟩ = some (.int .i64 a0_0) := (blk_cell BK296.out 0).trans rfl
            have hcz29_1 : wc.cell? ⟨gb296, 1, none⟩ = some (.int .i64 a0_1) := (blk_cell BK296.out 1).trans rfl
            have hcz29_2 : wc.cell? ⟨gb296, 2, none⟩ = some (.string a0_2) := (blk_cell BK296.out 2).trans rfl
            have hcz29_3 : wc.cell? ⟨gb296, 3, none⟩ = some (.slice A0_3 l0_3.length c0_3) := (blk_cell BK296.out 3).trans rfl
            have hcz29_4 : wc.cell? ⟨gb296, 4, none⟩ = some (.slice A0_4 l0_4.length c0_4) := (blk_cell BK296.out 4).trans rfl
            have hcz29_5 : wc.cell? ⟨gb296, 5, none⟩ = some (.slice A0_5 l0_5.length c0_5) := (blk_cell BK296.out 5).trans rfl
            have hcz29_6 : wc.cell? ⟨gb296, 6, none⟩ = some (.slice A0_6 l0_6.length c0_6) := (blk_cell BK296.out 6).trans rfl
            have hfz29_0 := blk_frozen BK296.out 0
            have hfz29_1 := blk_frozen BK296.out 1
            have hfz29_2 := blk_frozen BK296.out 2
            have hfz29_3 := blk_frozen BK296.out 3
            have hfz29_4 := blk_frozen BK296.out 4
            have hfz29_5 := blk_frozen BK296.out 5
            have hfz29_6 := blk_frozen BK296.out 6
            have hcz30_0 : wc.cell? ⟨gb297, 0, none⟩ = some (.int .i64 a1_0) := (blk_cell BK297.out 0).trans rfl
            have hcz30_1 : wc.cell? ⟨gb297, 1, none⟩ = some (.int .i64 a1_1) := (blk_cell BK297.out 1).trans rfl
            have hcz30_2 : wc.cell? ⟨gb297, 2, none⟩ = some (.string a1_2) := (blk_cell BK297.out 2).trans rfl
            have hcz30_3 : wc.cell? ⟨gb297, 3, none⟩ = some (.slice A1_3 l1_3.length c1_3) := (blk_cell BK297.out 3).trans rfl
            have hcz30_4 : wc.cell? ⟨gb297, 4, none⟩ = some (.slice A1_4 l1_4.length c1_4) := (blk_cell BK297.out 4).trans rfl
            have hcz30_5 : wc.cell? ⟨gb297, 5, none⟩ = some (.slice A1_5 l1_5.length c1_5) := (blk_cell BK297.out 5).trans rfl
            have hcz30_6 : wc.cell? ⟨gb297, 6, none⟩ = some (.slice A1_6 l1_6.length c1_6) := (blk_cell BK297.out 6).trans rfl
            have hfz30_0 := blk_frozen BK297.out 0
            have hfz30_1 := blk_frozen BK297.out 1
            have hfz30_2 := blk_frozen BK297.out 2
            have hfz30_3 := blk_frozen BK297.out 3
            have hfz30_4 := blk_frozen BK297.out 4
            have hfz30_5 := blk_frozen BK297.out 5
            have hfz30_6 := blk_frozen BK297.out 6
            go_wp2_with (first | ((with_reducible refine gate_callee (f := 64) rfl ?_); refine goesL_ (some 36) rfl rfl Try.func64 (by kernel_rfl) rfl #[.slice A0_4 l0_4.length c0_4, .slice A1_4 l1_4.length c1_4] rfl (by (try simp only [List.map_toArray, List.map_cons, List.map_nil]); first | done | rfl | (simp only [List.length_drop, List.length_take]; rfl)) ?_; (with_reducible refine (slices_Equal_string_string.calls kj2 _ _ l0_4 _ _ l1_4 true _ ?side1 ?side2 ?side3 ?side4 A23.out).mono ?_); (case side1 => repeat (first | exact (Kd.C_below HR0_4.out HB.out) | (with_reducible refine Kd.C_alloc ?_ _) | (with_reducible refine Kd.C_drewN ?_ _) | (with_reducible refine Kd.C_drew ?_))); (case side2 => exact HC0_4.out); (case side3 => repeat (first | exact (Kd.C_below HR1_4.out HB.out) | (with_reducible refine Kd.C_alloc ?_ _) | (with_reducible refine Kd.C_drewN ?_ _) | (with_reducible refine Kd.C_drew ?_))); (case side4 => exact HC1_4.out); rintro e w' ⟨rfl, ⟨nd, rfl⟩⟩; refine ⟨_, rfl, ?_⟩) | (go_at_call 65; (with_reducible refine (api_Member_65.calls kj2 _ _ l0_5 _ _ l1_5 true _ ?side1 ?side2 ?side3 ?side4 A25.out).mono ?_); (case side1 => repeat (first | exact (Kd.C_below HR0_5.out (by repeat (first | (with_reducible first | exact HB.out | apply below_alloc | apply pw_below_drewN | apply below_drew1 | refine below_set ?_ GE296.out | refine below_set ?_ GE297.out) | exact HB.out))) | (with_reducible refine Kd.C_alloc ?_ _) | (with_reducible refine Kd.C_drewN ?_ _) | (with_reducible refine Kd.C_drew ?_))); (case side2 => exact HC0_5.out); (case side3 => repeat (first | exact (Kd.C_below HR1_5.out (by repeat (first | (with_reducible first | exact HB.out | apply below_alloc | apply pw_below_drewN | apply below_drew1 | refine below_set ?_ GE296.out | refine below_set ?_ GE297.out) | exact HB.out))) | (with_reducible refine Kd.C_alloc ?_ _) | (with_reducible refine Kd.C_drewN ?_ _) | (with_reducible refine Kd.C_drew ?_))); (case side4 => exact HC1_5.out); rintro e w' ⟨rfl, ⟨nd, rfl⟩⟩) | (go_at_call 66; (with_reducible refine (api_Past_66.calls kj2 _ _ l0_6 _ _ l1_6 t301 _ ?side1 ?side2 ?side3 ?side4 A27.out).mono ?_); (case side1 => repeat (first | exact (Kd.C_below HR0_6.out (by repeat (first | (with_reducible first | exact HB.out | apply below_alloc | apply pw_below_drewN | apply below_drew1 | refine below_set ?_ GE296.out | refine below_set ?_ GE297.out) | exact HB.out))) | (with_reducible refine Kd.C_alloc ?_ _) | (with_reducible refine Kd.C_drewN ?_ _) | (with_reducible refine Kd.C_drew ?_))); (case side2 => exact HC0_6.out); (case side3 => repeat (first | exact (Kd.C_below HR1_6.out (by repeat (first | (with_reducible first | exact HB.out | apply below_alloc | apply pw_below_drewN | apply below_drew1 | refine below_set ?_ GE296.out | refine below_set ?_ GE297.out) | exact HB.out))) | (with_reducible refine Kd.C_alloc ?_ _) | (with_reducible refine Kd.C_drewN ?_ _) | (with_reducible refine Kd.C_drew ?_))); (case side4 => exact HC1_6.out); rintro e w' ⟨rfl, ⟨nd, rfl⟩⟩))
            go_ret
            exact ⟨by first | rfl | (simp [errW_none, errW_some] <;> rfl) | (simp [*, errW_none, errW_some] <;> rfl), by repeat (first | (with_reducible first | exact HB.out | apply below_alloc | apply pw_below_drewN | apply below_drew1 | refine below_set ?_ GE296.out | refine below_set ?_ GE297.out) | exact HB.out)⟩
          · replace c26 := Bool.eq_false_iff.mpr c26
            subst c26
            have H1 : (some false) = some r := by rw [if_neg (show ¬ (false = true) by decide)] at H; exact H
            clear H
            have H := H1
            clear H1
            obtain rfl := Option.some.inj H
            have hnb31 := NB296_297.out
            have hnc31 := NB297_296.out
            have hcz32_0 : wc.cell? ⟨gb296, 0, none⟩ = some (.int .i64 a0_0) := (blk_cell BK296.out 0).trans rfl
            have hcz32_1 : wc.cell? ⟨gb296, 1, none⟩ = some (.int .i64 a0_1) := (blk_cell BK296.out 1).trans rfl
            have hcz32_2 : wc.cell? ⟨gb296, 2, none⟩ = some (.string a0_2) := (blk_cell BK296.out 2).trans rfl
            have hcz32_3 : wc.cell? ⟨gb296, 3, none⟩ = some (.slice A0_3 l0_3.length c0_3) := (blk_cell BK296.out 3).trans rfl
            have hcz32_4 : wc.cell? ⟨gb296, 4, none⟩ = some (.slice A0_4 l0_4.length c0_4) := (blk_cell BK296.out 4).trans rfl
            have hcz32_5 : wc.cell? ⟨gb296, 5, none⟩ = some (.slice A0_5 l0_5.length c0_5) := (blk_cell BK296.out 5).trans rfl
            have hcz32_6 : wc.cell? ⟨gb296, 6, none⟩ = some (.slice A0_6 l0_6.length c0_6) := (blk_cell BK296.out 6).trans rfl
            have hfz32_0 := blk_frozen BK296.out 0
            have hfz32_1 := blk_frozen BK296.out 1
            have hfz32_2 := blk_frozen BK296.out 2
            have hfz32_3 := blk_frozen BK296.out 3
            have hfz32_4 := blk_frozen BK296.out 4
            have hfz32_5 := blk_frozen BK296.out 5
            have hfz32_6 := blk_frozen BK296.out 6
            have hcz33_0 : wc.cell? ⟨gb297, 0, none⟩ = some (.int .i64 a1_0) := (blk_cell BK297.out 0).trans rfl
            have hcz33_1 : wc.cell? ⟨gb297, 1, none⟩ = some (.int .i64 a1_1) := (blk_cell BK297.out 1).trans rfl
            have hcz33_2 : wc.cell? ⟨gb297, 2, none⟩ = some (.string a1_2) := (blk_cell BK297.out 2).trans rfl
            have hcz33_3 : wc.cell? ⟨gb297, 3, none⟩ = some (.slice A1_3 l1_3.length c1_3) := (blk_cell BK297.out 3).trans rfl
            have hcz33_4 : wc.cell? ⟨gb297, 4, none⟩ = some (.slice A1_4 l1_4.length c1_4) := (blk_cell BK297.out 4).trans rfl
            have hcz33_5 : wc.cell? ⟨gb297, 5, none⟩ = some (.slice A1_5 l1_5.length c1_5) := (blk_cell BK297.out 5).trans rfl
            have hcz33_6 : wc.cell? ⟨gb297, 6, none⟩ = some (.slice A1_6 l1_6.length c1_6) := (blk_cell BK297.out 6).trans rfl
            have hfz33_0 := blk_frozen BK297.out 0
            have hfz33_1 := blk_frozen BK297.out 1
            have hfz33_2 := blk_frozen BK297.out 2
            have hfz33_3 := blk_frozen BK297.out 3
            have hfz33_4 := blk_frozen BK297.out 4
            have hfz33_5 := blk_frozen BK297.out 5
            have hfz33_6 := blk_frozen BK297.out 6
            go_wp2_with (first | ((with_reducible refine gate_callee (f := 64) rfl ?_); refine goesL_ (some 36) rfl rfl Try.func64 (by kernel_rfl) rfl #[.slice A0_4 l0_4.length c0_4, .slice A1_4 l1_4.length c1_4] rfl (by (try simp only [List.map_toArray, List.map_cons, List.map_nil]); first | done | rfl | (simp only [List.length_drop, List.length_take]; rfl)) ?_; (with_reducible refine (slices_Equal_string_string.calls kj2 _ _ l0_4 _ _ l1_4 true _ ?side1 ?side2 ?side3 ?side4 A23.out).mono ?_); (case side1 => repeat (first | exact (Kd.C_below HR0_4.out HB.out) | (with_reducible refine Kd.C_alloc ?_ _) | (with_reducible refine Kd.C_drewN ?_ _) | (with_reducible refine Kd.C_drew ?_))); (case side2 => exact HC0_4.out); (case side3 => repeat (first | exact (Kd.C_below HR1_4.out HB.out) | (with_reducible refine Kd.C_alloc ?_ _) | (with_reducible refine Kd.C_drewN ?_ _) | (with_reducible refine Kd.C_drew ?_))); (case side4 => exact HC1_4.out); rintro e w' ⟨rfl, ⟨nd, rfl⟩⟩; refine ⟨_, rfl, ?_⟩) | (go_at_call 65; (with_reducible refine (api_Member_65.calls kj2 _ _ l0_5 _ _ l1_5 false _ ?side1 ?side2 ?side3 ?side4 A25.out).mono ?_); (case side1 => repeat (first | exact (Kd.C_below HR0_5.out (by repeat (first | (with_reducible first | exact HB.out | apply below_alloc | apply pw_below_drewN | apply below_drew1 | refine below_set ?_ GE296.out | refine below_set ?_ GE297.out) | exact HB.out))) | (with_reducible refine Kd.C_alloc ?_ _) | (with_reducible refine Kd.C_drewN ?_ _) | (with_reducible refine Kd.C_drew ?_))); (case side2 => exact HC0_5.out); (case side3 => repeat (first | exact (Kd.C_below HR1_5.out (by repeat (first | (with_reducible first | exact HB.out | apply below_alloc | apply pw_below_drewN | apply below_drew1 | refine below_set ?_ GE296.out | refine below_set ?_ GE297.out) | exact HB.out))) | (with_reducible refine Kd.C_alloc ?_ _) | (with_reducible refine Kd.C_drewN ?_ _) | (with_reducible refine Kd.C_drew ?_))); (case side4 => exact HC1_5.out); rintro e w' ⟨rfl, ⟨nd, rfl⟩⟩))
            go_ret
            exact ⟨by first | rfl | (simp [errW_none, errW_some] <;> rfl) | (simp [*, errW_none, errW_some] <;> rfl), by repeat (first | (with_reducible first | exact HB.out | apply below_alloc | apply pw_below_drewN | apply below_drew1 | refine below_set ?_ GE296.out | refine below_set ?_ GE297.out) | exact HB.out)⟩
        · replace c24 := Bool.eq_false_iff.mpr c24
          subst c24
          have H1 : (some false) = some r := by rw [if_neg (show ¬ (false = true) by decide)] at H; exact H
          clear H
          have H := H1
          clear H1
          obtain rfl := Option.some.inj H
          have hnb34 := NB296_297.out
          have hnc34 := NB297_296.out
          have hcz35_0 : wc.cell? ⟨gb296, 0, none⟩ = some (.int .i64 a0_0) := (blk_cell BK296.out 0).trans rfl
          have hcz35_1 : wc.cell? ⟨gb296, 1, none⟩ = some (.int .i64 a0_1) := (blk_cell BK296.out 1).trans rfl
          have hcz35_2 : wc.cell? ⟨gb296, 2, none⟩ = some (.string a0_2) := (blk_cell BK296.out 2).trans rfl
          have hcz35_3 : wc.cell? ⟨gb296, 3, none⟩ = some (.slice A0_3 l0_3.length c0_3) := (blk_cell BK296.out 3).trans rfl
          have hcz35_4 : wc.cell? ⟨gb296, 4, none⟩ = some (.slice A0_4 l0_4.length c0_4) := (blk_cell BK296.out 4).trans rfl
          have hcz35_5 : wc.cell? ⟨gb296, 5, none⟩ = some (.slice A0_5 l0_5.length c0_5) := (blk_cell BK296.out 5).trans rfl
          have hcz35_6 : wc.cell? ⟨gb296, 6, none⟩ = some (.slice A0_6 l0_6.length c0_6) := (blk_cell BK296.out 6).trans rfl
          have hfz35_0 := blk_frozen BK296.out 0
          have hfz35_1 := blk_frozen BK296.out 1
          have hfz35_2 := blk_frozen BK296.out 2
          have hfz35_3 := blk_frozen BK296.out 3
          have hfz35_4 := blk_frozen BK296.out 4
          have hfz35_5 := blk_frozen BK296.out 5
          have hfz35_6 := blk_frozen BK296.out 6
          have hcz36_0 : wc.cell? ⟨gb297, 0, none⟩ = some (.int .i64 a1_0) := (blk_cell BK297.out 0).trans rfl
          have hcz36_1 : wc.cell? ⟨gb297, 1, none⟩ = some (.int .i64 a1_1) := (blk_cell BK297.out 1).trans rfl
          have hcz36_2 : wc.cell? ⟨gb297, 2, none⟩ = some (.string a1_2) := (blk_cell BK297.out 2).trans rfl
          have hcz36_3 : wc.cell? ⟨gb297, 3, none⟩ = some (.slice A1_3 l1_3.length c1_3) := (blk_cell BK297.out 3).trans rfl
          have hcz36_4 : wc.cell? ⟨gb297, 4, none⟩ = some (.slice A1_4 l1_4.length c1_4) := (blk_cell BK297.out 4).trans rfl
          have hcz36_5 : wc.cell? ⟨gb297, 5, none⟩ = some (.slice A1_5 l1_5.length c1_5) := (blk_cell BK297.out 5).trans rfl
          have hcz36_6 : wc.cell? ⟨gb297, 6, none⟩ = some (.slice A1_6 l1_6.length c1_6) := (blk_cell BK297.out 6).trans rfl
          have hfz36_0 := blk_frozen BK297.out 0
          have hfz36_1 := blk_frozen BK297.out 1
          have hfz36_2 := blk_frozen BK297.out 2
          have hfz36_3 := blk_frozen BK297.out 3
          have hfz36_4 := blk_frozen BK297.out 4
          have hfz36_5 := blk_frozen BK297.out 5
          have hfz36_6 := blk_frozen BK297.out 6
          go_wp2_with (first | ((with_reducible refine gate_callee (f := 64) rfl ?_); refine goesL_ (some 36) rfl rfl Try.func64 (by kernel_rfl) rfl #[.slice A0_4 l0_4.length c0_4, .slice A1_4 l1_4.length c1_4] rfl (by (try simp only [List.map_toArray, List.map_cons, List.map_nil]); first | done | rfl | (simp only [List.length_drop, List.length_take]; rfl)) ?_; (with_reducible refine (slices_Equal_string_string.calls kj2 _ _ l0_4 _ _ l1_4 false _ ?side1 ?side2 ?side3 ?side4 A23.out).mono ?_); (case side1 => repeat (first | exact (Kd.C_below HR0_4.out HB.out) | (with_reducible refine Kd.C_alloc ?_ _) | (with_reducible refine Kd.C_drewN ?_ _) | (with_reducible refine Kd.C_drew ?_))); (case side2 => exact HC0_4.out); (case side3 => repeat (first | exact (Kd.C_below HR1_4.out HB.out) | (with_reducible refine Kd.C_alloc ?_ _) | (with_reducible refine Kd.C_drewN ?_ _) | (with_reducible refine Kd.C_drew ?_))); (case side4 => exact HC1_4.out); rintro e w' ⟨rfl, ⟨nd, rfl⟩⟩; refine ⟨_, rfl, ?_⟩))
          go_ret
          exact ⟨by first | rfl | (simp [errW_none, errW_some] <;> rfl) | (simp [*, errW_none, errW_some] <;> rfl), by repeat (first | (with_reducible first | exact HB.out | apply below_alloc | apply pw_below_drewN | apply below_drew1 | refine below_set ?_ GE296.out | refine below_set ?_ GE297.out) | exact HB.out)⟩

end Go.Proofs.Ytiibnfnjfmcggaa.PAnswerSame
