-- Written by drive.py of this work: the kit's print.py with contracts of this work laid in.
import Derived.Test.YtiibnfnjfmcggaaDoorPCallReadsx0
namespace Go.Proofs.YtiibnfnjfmcggaaDoor.PCallReads
open Go.RowKit Go.Proofs.YtiibnfnjfmcggaaDoorW.PrintWords Go.Proofs.YtiibnfnjfmcggaaDoorW.PrintLast Go.Proofs.YtiibnfnjfmcggaaDoorW.PrintMore
attribute [local go_sem] max2_int min2_int max_two min_two max_three min_three max_four min_four   -- for this text's walks alone
set_option linter.unusedVariables false
set_option linter.unusedSimpArgs false

/-! ### codec_pure: function 52 -/
--ALONE
def codec_pure.T1 : Bool × List (List Nat × List Nat) := (true, [([], []), ([0], [0]), ([1], [1]), ([], []), ([3], [3]), ([4], [4]), ([5], [5]), ([], []), ([7], [7]), ([8], [8]), ([9], [9]), ([2, 0, 1, 2], [2]), ([6, 11, 0, 1, 2, 3, 4, 5, 6, 11], [6]), ([10, 12, 0, 1, 2, 3, 4, 5, 6, 7, 8, 9, 10, 11, 12], [10])])
def codec_pure.B1 : List Nat := [0, 1, 3, 0, 8, 24, 56, 0, 128, 384, 896, 7, 2175, 8191]
theorem codec_pure.tab1 : rtab .any (opsOf Tryd.f52 1) = codec_pure.T1 := by kernel_rfl
theorem codec_pure.bits1 : waitsOk codec_pure.T1.2 codec_pure.B1 = true := by kernel_rfl
def codec_pure.f (a0_0 : Int) (a0_1 : Int) (l0_2 : List Int) (l0_3 : List (S43)) : Option (Bool) := if a0_0 = 1 then (if a0_1 ≥ 0 then (if a0_1 ≤ 4611686018427387904 then (if (l0_2.length : Int) = 0 then (some ((l0_3.length : Int) == 0)) else (some false)) else (some false)) else (some false)) else (if a0_0 = 2 then (if a0_1 = 0 then (if (l0_2.length : Int) ≤ 1048576 then (some ((l0_3.length : Int) == 0)) else (some false)) else (some false)) else (if a0_0 = 3 then (if a0_1 = 0 then (if (l0_2.length : Int) = 0 then (some (decide ((l0_3.length : Int) ≤ 4096))) else (some false)) else (some false)) else (some false)))
set_option maxHeartbeats 4000000 in
set_option maxRecDepth 100000 in
theorem codec_pure.calls (a0_0 : Int) (a0_1 : Int) (A0_2 : Option Addr) (c0_2 : Nat) (l0_2 : List Int) (A0_3 : Option Addr) (c0_3 : Nat) (l0_3 : List (S43)) (r : Bool) (w : World) (hr0_2 : Kd.C (Kd.int .u8) w A0_2 l0_2.length l0_2) (hc0_2 : l0_2.length ≤ c0_2) (hr0_3 : Kd.C k43 w A0_3 l0_3.length l0_3) (hc0_3 : l0_3.length ≤ c0_3) (h : codec_pure.f a0_0 a0_1 l0_2 l0_3 = some r) :
  Calls Tryd.prog 52 #[.agg #[.int .i64 a0_0, .int .i64 a0_1, .slice A0_2 l0_2.length c0_2, .slice A0_3 l0_3.length c0_3]] w fun e w' => e = .returned (.bool r) ∧ Below w.heap.size w w' := by
 clear hr0_2 hc0_2 hr0_3 hc0_3
 have H := Aside0.mk h
 clear h
 unfold codec_pure.f at H
 have KX := Aside0.mk (show (w.alloc (.cells #[.int .i64 a0_0, .int .i64 a0_1, .slice A0_2 l0_2.length c0_2, .slice A0_3 l0_3.length c0_3] 43)).drew.heap[w.heap.size]? = some (.cells #[.int .i64 a0_0, .int .i64 a0_1, .slice A0_2 l0_2.length c0_2, .slice A0_3 l0_3.length c0_3] 43 (0, 0)) from Array.getElem?_push_size)
 have HB := Aside0.mk (show Below w.heap.size w (w.alloc (.cells #[.int .i64 a0_0, .int .i64 a0_1, .slice A0_2 l0_2.length c0_2, .slice A0_3 l0_3.length c0_3] 43)).drew from below_drew ((Below.refl _ w).alloc (Nat.le_refl _) _))
 go_enter Tryd.func52, Tryd.ntmps52
 go_upto_region 1 with (fail)
 refine start_ (n := 14) (S := fun w' => w'.cell? ⟨w.heap.size, 0, none⟩ = some (.int .i64 a0_0) ∧ w'.cell? ⟨w.heap.size, 1, none⟩ = some (.int .i64 a0_1) ∧ w'.cell? ⟨w.heap.size, 2, none⟩ = some (.slice A0_2 l0_2.length c0_2) ∧ w'.cell? ⟨w.heap.size, 3, none⟩ = some (.slice A0_3 l0_3.length c0_3)) (ds := []) #[false, false, false, false, false, false, false, false, false, false, false, false, false, false] (by kernel_rfl) rfl rfl ⟨(blk_cell KX.out 0).trans rfl, (blk_cell KX.out 1).trans rfl, (blk_cell KX.out 2).trans rfl, (blk_cell KX.out 3).trans rfl⟩ (fun hHeld => ?_)
 refine with_tabW codec_pure.tab1 codec_pure.bits1 (fun HT_ HW_ => ?_)
 generalize World.drew _ = wd at KX HB hHeld ⊢
 refine pure_ (i := 0) (N := some 6) (v := ?_) (a' := ?_) #[true, false, false, false, false, false, false, false, false, false, false, false, false, false] rfl rfl (any_of HT_.out (by kernel_rfl)) (fun _ _ _ h => h) (Or.inl ⟨by rfl, ?_⟩) ?_ ?_
 rotate_left
 ·intro w'
  go_simp
  with_reducible rfl
 rotate_left
 ·simp only [Act.put, List.setIfInBounds_toArray, List.set_cons_zero, List.set_cons_succ, i64_w, i32_w]
  rfl
 refine pure_ (i := 3) (N := some 9) (v := ?_) (a' := ?_) #[true, false, false, true, false, false, false, false, false, false, false, false, false, false] rfl rfl (any_of HT_.out (by kernel_rfl)) (fun _ _ _ h => h) (Or.inl ⟨by rfl, ?_⟩) ?_ ?_
 rotate_left
 ·intro w'
  go_simp
  with_reducible rfl
 rotate_left
 ·simp only [Act.put, List.setIfInBounds_toArray, List.set_cons_zero, List.set_cons_succ, i64_w, i32_w]
  rfl
 refine pure_ (i := 7) (N := some 13) (v := ?_) (a' := ?_) #[true, false, false, true, false, false, false, true, false, false, false, false, false, false] rfl rfl (any_of HT_.out (by kernel_rfl)) (fun _ _ _ h => h) (Or.inl ⟨by rfl, ?_⟩) ?_ ?_
 rotate_left
 ·intro w'
  go_simp
  with_reducible rfl
 rotate_left
 ·simp only [Act.put, List.setIfInBounds_toArray, List.set_cons_zero, List.set_cons_succ, i64_w, i32_w]
  rfl
 refine take_ (i := 1) (N := some 7) (v := ?_) (a' := ?_) #[true, true, false, true, false, false, false, true, false, false, false, false, false, false] rfl rfl (take_ofW HT_.out HW_.out (by kernel_rfl)) (fun _ _ _ h => h) (Or.inl ⟨by rfl, ?_⟩) hHeld ?_ ?_
 rotate_left
 ·rintro w' ⟨s0, s1, s2, s3⟩
  go_simp
  with_reducible rfl
 rotate_left
 ·simp only [Act.put, List.setIfInBounds_toArray, List.set_cons_zero, List.set_cons_succ, i64_w, i32_w]
  rfl
 refine pure_ (i := 2) (N := some 8) (v := ?_) (a' := ?_) #[true, true, true, true, false, false, false, true, false, false, false, false, false, false] rfl rfl (any_of HT_.out (by kernel_rfl)) (fun _ _ _ h => h) (Or.inl ⟨by rfl, ?_⟩) ?_ ?_
 rotate_left
 ·intro w'
  go_simp
  with_reducible rfl
 rotate_left
 ·simp only [Act.put, List.setIfInBounds_toArray, List.set_cons_zero, List.set_cons_succ, i64_w, i32_w]
  rfl
 refine pure_ (i := 11) (N := some 3) (v := ?_) (a' := ?_) #[true, true, true, true, false, false, false, true, false, false, false, true, false, false] rfl rfl (any_of HT_.out (by kernel_rfl)) (fun _ _ _ h => h) (Or.inl ⟨by rfl, ?_⟩) ?_ ?_
 rotate_left
 ·intro w'
  go_simp
  with_reducible rfl
 rotate_left
 ·simp only [Act.put, List.setIfInBounds_toArray, List.set_cons_zero, List.set_cons_succ, i64_w, i32_w]
  rfl
 refine take_ (i := 4) (N := some 10) (v := ?_) (a' := ?_) #[true, true, true, true, true, false, false, true, false, false, false, true, false, false] rfl rfl (take_ofW HT_.out HW_.out (by kernel_rfl)) (fun _ _ _ h => h) (Or.inl ⟨by rfl, ?_⟩) hHeld ?_ ?_
 rotate_left
 ·rintro w' ⟨s0, s1, s2, s3⟩
  go_simp
  with_reducible rfl
 rotate_left
 ·simp only [Act.put, List.setIfInBounds_toArray, List.set_cons_zero, List.set_cons_succ, i64_w, i32_w]
  rfl
 refine pure_ (i := 5) (N := some 11) (v := ?_) (a' := ?_) #[true, true, true, true, true, true, false, true, false, false, false, true, false, false] rfl rfl (any_of HT_.out (by kernel_rfl)) (fun _ _ _ h => h) (Or.inl ⟨by rfl, ?_⟩) ?_ ?_
 rotate_left
 ·intro w'
  go_simp
  with_reducible rfl
 rotate_left
 ·simp only [Act.put, List.setIfInBounds_toArray, List.set_cons_zero, List.set_cons_succ, i64_w, i32_w]
  rfl
 refine pure_ (i := 6) (N := some 12) (v := ?_) (a' := ?_) #[true, true, true, true, true, true, true, true, false, false, false, true, false, false] rfl rfl (any_of HT_.out (by kernel_rfl)) (fun _ _ _ h => h) (Or.inl ⟨by rfl, ?_⟩) ?_ ?_
 rotate_left
 ·intro w'
  go_simp
  with_reducible rfl
 rotate_left
 ·simp only [Act.put, List.setIfInBounds_toArray, List.set_cons_zero, List.set_cons_succ, i64_w, i32_w]
  rfl
 refine pure_ (i := 12) (N := some 4) (v := ?_) (a' := ?_) #[true, true, true, true, true, true, true, true, false, false, false, true, true, false] rfl rfl (any_of HT_.out (by kernel_rfl)) (fun _ _ _ h => h) (Or.inl ⟨by rfl, ?_⟩) ?_ ?_
 rotate_left
 ·intro w'
  go_simp
  with_reducible rfl
 rotate_left
 ·simp only [Act.put, List.setIfInBounds_toArray, List.set_cons_zero, List.set_cons_succ, i64_w, i32_w]
  rfl
 refine take_ (i := 8) (N := some 14) (v := ?_) (a' := ?_) #[true, true, true, true, true, true, true, true, true, false, false, true, true, false] rfl rfl (take_ofW HT_.out HW_.out (by kernel_rfl)) (fun _ _ _ h => h) (Or.inl ⟨by rfl, ?_⟩) hHeld ?_ ?_
 rotate_left
 ·rintro w' ⟨s0, s1, s2, s3⟩
  go_simp
  with_reducible rfl
 rotate_left
 ·simp only [Act.put, List.setIfInBounds_toArray, List.set_cons_zero, List.set_cons_succ, i64_w, i32_w]
  rfl
 refine pure_ (i := 9) (N := some 15) (v := ?_) (a' := ?_) #[true, true, true, true, true, true, true, true, true, true, false, true, true, false] rfl rfl (any_of HT_.out (by kernel_rfl)) (fun _ _ _ h => h) (Or.inl ⟨by rfl, ?_⟩) ?_ ?_
 rotate_left
 ·intro w'
  go_simp
  with_reducible rfl
 rotate_left
 ·simp only [Act.put, List.setIfInBounds_toArray, List.set_cons_zero, List.set_cons_succ, i64_w, i32_w]
  rfl
 refine pure_ (i := 10) (N := some 16) (v := ?_) (a' := ?_) #[true, true, true, true, true, true, true, true, true, true, true, true, true, false] rfl rfl (any_of HT_.out (by kernel_rfl)) (fun _ _ _ h => h) (Or.inl ⟨by rfl, ?_⟩) ?_ ?_
 rotate_left
 ·intro w'
  go_simp
  with_reducible rfl
 rotate_left
 ·simp only [Act.put, List.setIfInBounds_toArray, List.set_cons_zero, List.set_cons_succ, i64_w, i32_w]
  rfl
 refine pure_ (i := 13) (N := some 5) (v := ?_) (a' := ?_) #[true, true, true, true, true, true, true, true, true, true, true, true, true, true] rfl rfl (any_of HT_.out (by kernel_rfl)) (fun _ _ _ h => h) (Or.inl ⟨by rfl, ?_⟩) ?_ ?_
 rotate_left
 ·intro w'
  go_simp
  with_reducible rfl
 rotate_left
 ·simp only [Act.put, List.setIfInBounds_toArray, List.set_cons_zero, List.set_cons_succ, i64_w, i32_w]
  rfl
 refine done_ (done_of HT_.out (by kernel_rfl)) ?_
 clear hHeld
 have x0 := (blk_cell KX.out 0).trans rfl
 have x1 := (blk_cell KX.out 1).trans rfl
 have x2 := (blk_cell KX.out 2).trans rfl
 have x3 := (blk_cell KX.out 3).trans rfl
 have h := H.out
 clear H
 by_cases c1 : a0_0 = 1
 ·rw [if_pos c1] at h
  have c1b : (a0_0 == 1) = true := beq_iff_eq.2 c1
  have c1n : (a0_0 != 1) = false := bne_eq_false_iff_eq.mpr c1
  by_cases c3 : a0_1 ≥ 0
  ·rw [if_pos c3] at h
   have c3_0 : decide (0 ≤ a0_1) = true := decide_eq_true (by omega)
   have c3_1 : decide (a0_1 ≥ 0) = true := decide_eq_true (by omega)
   by_cases c4 : a0_1 ≤ 4611686018427387904
   ·rw [if_pos c4] at h
    have c4_0 : decide (a0_1 ≤ 4611686018427387904) = true := decide_eq_true (by omega)
    by_cases c5 : (l0_2.length : Int) = 0
    ·rw [if_pos c5] at h
     have c5b : ((l0_2.length : Int) == 0) = true := beq_iff_eq.2 c5
     have c5n : ((l0_2.length : Int) != 0) = false := bne_eq_false_iff_eq.mpr c5
     cases h
     go_wp2
     go_ret
     exact ⟨rfl, HB.out⟩
    ·rw [if_neg c5] at h
     have c5b : ((l0_2.length : Int) == 0) = false := beq_eq_false_iff_ne.2 c5
     have c5n : ((l0_2.length : Int) != 0) = true := bne_iff_ne.mpr c5
     cases h
     go_wp2
     go_ret
     exact ⟨rfl, HB.out⟩
   ·rw [if_neg c4] at h
    have c4_0 : decide (a0_1 ≤ 4611686018427387904) = false := decide_eq_false (by omega)
    cases h
    go_wp2
    go_ret
    exact ⟨rfl, HB.out⟩
  ·rw [if_neg c3] at h
   have c3_0 : decide (0 ≤ a0_1) = false := decide_eq_false (by omega)
   have c3_1 : decide (a0_1 ≥ 0) = false := decide_eq_false (by omega)
   cases h
   go_wp2
   go_ret
   exact ⟨rfl, HB.out⟩
 ·rw [if_neg c1] at h
  have c1b : (a0_0 == 1) = false := beq_eq_false_iff_ne.2 c1
  have c1n : (a0_0 != 1) = true := bne_iff_ne.mpr c1
  by_cases c2 : a0_0 = 2
  ·rw [if_pos c2] at h
   have c2b : (a0_0 == 2) = true := beq_iff_eq.2 c2
   have c2n : (a0_0 != 2) = false := bne_eq_false_iff_eq.mpr c2
   by_cases c6 : a0_1 = 0
   ·rw [if_pos c6] at h
    have c6b : (a0_1 == 0) = true := beq_iff_eq.2 c6
    have c6n : (a0_1 != 0) = false := bne_eq_false_iff_eq.mpr c6
    by_cases c7 : (l0_2.length : Int) ≤ 1048576
    ·rw [if_pos c7] at h
     have c7_0 : decide ((l0_2.length : Int) ≤ 1048576) = true := decide_eq_true (by omega)
     have c7_1 : decide (l0_2.length ≤ 1048576) = true := decide_eq_true (by omega)
     cases h
     go_wp2
     go_ret
     exact ⟨rfl, HB.out⟩
    ·rw [if_neg c7] at h
     have c7_0 : decide ((l0_2.length : Int) ≤ 1048576) = false := decide_eq_false (by omega)
     have c7_1 : decide (l0_2.length ≤ 1048576) = false := decide_eq_false (by omega)
     cases h
     go_wp2
     go_ret
     exact ⟨rfl, HB.out⟩
   ·rw [if_neg c6] at h
    have c6b : (a0_1 == 0) = false := beq_eq_false_iff_ne.2 c6
    have c6n : (a0_1 != 0) = true := bne_iff_ne.mpr c6
    cases h
    go_wp2
    go_ret
    exact ⟨rfl, HB.out⟩
  ·rw [if_neg c2] at h
   have c2b : (a0_0 == 2) = false := beq_eq_false_iff_ne.2 c2
   have c2n : (a0_0 != 2) = true := bne_iff_ne.mpr c2
   by_cases c8 : a0_0 = 3
   ·rw [if_pos c8] at h
    have c8b : (a0_0 == 3) = true := beq_iff_eq.2 c8
    have c8n : (a0_0 != 3) = false := bne_eq_false_iff_eq.mpr c8
    by_cases c6 : a0_1 = 0
    ·rw [if_pos c6] at h
     have c6b : (a0_1 == 0) = true := beq_iff_eq.2 c6
     have c6n : (a0_1 != 0) = false := bne_eq_false_iff_eq.mpr c6
     by_cases c5 : (l0_2.length : Int) = 0
     ·rw [if_pos c5] at h
      have c5b : ((l0_2.length : Int) == 0) = true := beq_iff_eq.2 c5
      have c5n : ((l0_2.length : Int) != 0) = false := bne_eq_false_iff_eq.mpr c5
      cases h
      go_wp2
      go_ret
      exact ⟨rfl, HB.out⟩
     ·rw [if_neg c5] at h
      have c5b : ((l0_2.length : Int) == 0) = false := beq_eq_false_iff_ne.2 c5
      have c5n : ((l0_2.length : Int) != 0) = true := bne_iff_ne.mpr c5
      cases h
      go_wp2
      go_ret
      exact ⟨rfl, HB.out⟩
    ·rw [if_neg c6] at h
     have c6b : (a0_1 == 0) = false := beq_eq_false_iff_ne.2 c6
     have c6n : (a0_1 != 0) = true := bne_iff_ne.mpr c6
     cases h
     go_wp2
     go_ret
     exact ⟨rfl, HB.out⟩
   ·rw [if_neg c8] at h
    have c8b : (a0_0 == 3) = false := beq_eq_false_iff_ne.2 c8
    have c8n : (a0_0 != 3) = true := bne_iff_ne.mpr c8
    cases h
    go_wp2
    go_ret
    exact ⟨rfl, HB.out⟩


end Go.Proofs.YtiibnfnjfmcggaaDoor.PCallReads
