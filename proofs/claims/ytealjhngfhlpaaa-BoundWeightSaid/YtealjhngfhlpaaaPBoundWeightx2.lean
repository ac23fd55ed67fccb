-- Written by drive.py of this work: the kit's print.py with contracts of this work laid in.
import Derived.Test.YtealjhngfhlpaaaPBoundWeightx0
import Derived.Test.YtealjhngfhlpaaaPBoundWeightx1
namespace Go.Proofs.Ytealjhngfhlpaaa.PBoundWeight
open Go.RowKit Go.Proofs.YtealjhngfhlpaaaW.PrintWords Go.Proofs.YtealjhngfhlpaaaW.PrintLast Go.Proofs.YtealjhngfhlpaaaW.PrintMore
attribute [local go_sem] max2_int min2_int max_two min_two max_three min_three max_four min_four   -- for this text's walks alone
set_option linter.unusedVariables false
set_option linter.unusedSimpArgs false

/-! ### bound_Weight: function 25 -/
def bound_Weight.j0 : Nat → Int → Int → Bool → Option (Int)
  | 0, _, _, _ => none
  | k + 1, x0, x1, x18 => if x18 = true then (some 0) else ((blob_Count.f 120).bind fun t137 => ((blob_Count.f 1020).bind fun t138 => (some (wrap64 ((wrap64 ((wrap64 (4 + t137)) * x0)) + (wrap64 ((wrap64 (4 + t138)) * x1)))))))
def bound_Weight.f (k : Nat) (a0 : Int) (a1 : Int) : Option (Int) := if a0 < 0 then (bound_Weight.j0 k a0 a1 true) else (if a1 < 0 then (bound_Weight.j0 k a0 a1 true) else (if a0 > 1048576 then (bound_Weight.j0 k a0 a1 true) else (bound_Weight.j0 k a0 a1 (decide (a1 > 1048576)))))
theorem bound_Weight.mono_l : ∀ k, (∀ y0 y1 y2, LeO (bound_Weight.j0 k y0 y1 y2) (bound_Weight.j0 (k + 1) y0 y1 y2))
  | 0 => fun _ _ _ r h => by simp [bound_Weight.j0] at h
  | k + 1 => by
    have ih0 := bound_Weight.mono_l k
    · intro y0 y1 y2
      unfold bound_Weight.j0
      repeat' first
      | (with_reducible exact ih0 _ _ _)
      | (with_reducible exact LeO.refl _)
      | (with_reducible exact LeO.none _)
      | (with_reducible refine LeO.ite ?_ ?_)
      | (with_reducible refine LeO.bind ?_ (fun _ => ?_))
      | exact ih0 _ _ _
      | exact LeO.none _
      | refine LeO.ite ?_ ?_
      | refine LeO.bind ?_ (fun _ => ?_)
theorem bound_Weight.mono : ∀ a0 a1 k, LeO (bound_Weight.f k a0 a1) (bound_Weight.f (k + 1) a0 a1) := by
  intro a0 a1 k
  have ih0 := bound_Weight.mono_l k
  unfold bound_Weight.f
  repeat' first
      | (with_reducible exact ih0 _ _ _)
      | (with_reducible exact LeO.refl _)
      | (with_reducible exact LeO.none _)
      | (with_reducible refine LeO.ite ?_ ?_)
      | (with_reducible refine LeO.bind ?_ (fun _ => ?_))
      | exact ih0 _ _ _
      | exact LeO.none _
      | refine LeO.ite ?_ ?_
      | refine LeO.bind ?_ (fun _ => ?_)
set_option maxHeartbeats 8000000 in
set_option maxRecDepth 100000 in
theorem bound_Weight.calls (k : Nat) (a0 : Int) (a1 : Int) (r : Int) (w : World) (h : bound_Weight.f k a0 a1 = some r) :
    Calls Try.prog 25 #[.int .i64 a0, .int .i64 a1] w fun e w' => e = .returned (.int .i64 r) ∧ Drawn0 w w' := by
  have H : (if a0 < 0 then (bound_Weight.j0 k a0 a1 true) else (if a1 < 0 then (bound_Weight.j0 k a0 a1 true) else (if a0 > 1048576 then (bound_Weight.j0 k a0 a1 true) else (bound_Weight.j0 k a0 a1 (decide (a1 > 1048576)))))) = some r := h
  clear h
  have HC3 := Aside0.mk H
  clear H
  go_enter Try.func25, Try.ntmps25
  go_upto_region 1 with (fail)
  go_cut [18] (fun v18 wc => ∃ (kq : Nat) (x18_2 : Bool), v18 = .bool x18_2 ∧ Aside0 (bound_Weight.j0 kq a0 a1 x18_2 = some r) ∧ Aside0 (kq ≤ k) ∧ Drawn0 w wc)
  case first =>
    have H := HC3.out
    clear HC3
    by_cases c4 : a0 < 0
    · rw [if_pos c4] at H
      have c4b0 : decide (a0 < 0) = true := decide_eq_true c4
      clear c4
      (first | rw [c4b0] | (simp only [i64_w, i32_w]; rw [c4b0]) | skip)
      have H' := Aside0.mk H
      clear H
      go_wp2
      go_meet
      case rel => exact ⟨_, (true), (by first | rfl | (simp; done) | (simp [*]; done)), H', ⟨by first | omega | exact Nat.le_refl _⟩, by repeat (first | exact Drawn0.refl _ | apply Drawn0.step)⟩
    · rw [if_neg c4] at H
      have c4b0 : decide (a0 < 0) = false := decide_eq_false c4
      clear c4
      (first | rw [c4b0] | (simp only [i64_w, i32_w]; rw [c4b0]) | skip)
      by_cases c5 : a1 < 0
      · rw [if_pos c5] at H
        have c5b0 : decide (a1 < 0) = true := decide_eq_true c5
        clear c5
        have H' := Aside0.mk H
        clear H
        go_wp2
        go_meet
        case rel => exact ⟨_, (true), (by first | rfl | (simp; done) | (simp [*]; done)), H', ⟨by first | omega | exact Nat.le_refl _⟩, by repeat (first | exact Drawn0.refl _ | apply Drawn0.step)⟩
      · rw [if_neg c5] at H
        have c5b0 : decide (a1 < 0) = false := decide_eq_false c5
        clear c5
        by_cases c6 : a0 > 1048576
        · rw [if_pos c6] at H
          have c6b0 : decide (1048576 < a0) = true := decide_eq_true c6
          clear c6
          have H' := Aside0.mk H
          clear H
          go_wp2
          go_meet
          case rel => exact ⟨_, (true), (by first | rfl | (simp; done) | (simp [*]; done)), H', ⟨by first | omega | exact Nat.le_refl _⟩, by repeat (first | exact Drawn0.refl _ | apply Drawn0.step)⟩
        · rw [if_neg c6] at H
          have c6b0 : decide (1048576 < a0) = false := decide_eq_false c6
          clear c6
          have H' := Aside0.mk H
          clear H
          go_wp2
          go_meet
          case rel => exact ⟨_, (decide (a1 > 1048576)), (by first | rfl | (simp; done) | (simp [*]; done)), H', ⟨by first | omega | exact Nat.le_refl _⟩, by repeat (first | exact Drawn0.refl _ | apply Drawn0.step)⟩
  case rest =>
    clear HC3
    try clear c2
    try clear p2
    try clear c4
    try clear c4b0
    try clear c5
    try clear c5b0
    try clear c6
    try clear c6b0
    obtain ⟨kq, x18_2, rfl, HA, HJ2, ⟨mc2, rfl⟩⟩ := hcut
    cases kq with
    | zero => exact absurd HA.out (by simp [bound_Weight.j0])
    | succ kj2 =>
      have H := HA.out
      clear HA
      simp only [bound_Weight.j0] at H
      by_cases c7 : x18_2 = true
      · subst c7
        have H1 : (some 0) = some r := by rw [if_pos rfl] at H; exact H
        clear H
        have H := H1
        clear H1
        obtain rfl := Option.some.inj H
        go_wp2
        go_ret
        exact ⟨by first | rfl | (simp; done) | (simp [*]; done), by repeat (first | exact Drawn0.refl _ | apply Drawn0.step)⟩
      · replace c7 := Bool.eq_false_iff.mpr c7
        subst c7
        have H1 : ((blob_Count.f 120).bind fun t137 => ((blob_Count.f 1020).bind fun t138 => (some (wrap64 ((wrap64 ((wrap64 (4 + t137)) * a0)) + (wrap64 ((wrap64 (4 + t138)) * a1))))))) = some r := by rw [if_neg (show ¬ (false = true) by decide)] at H; exact H
        clear H
        have H := H1
        clear H1
        replace H := Option.bind_eq_some_iff.mp H
        obtain ⟨t137, A80, H⟩ := H
        replace H : ((blob_Count.f 1020).bind fun t138 => (some (wrap64 ((wrap64 ((wrap64 (4 + t137)) * a0)) + (wrap64 ((wrap64 (4 + t138)) * a1)))))) = some r := H
        have A8 := Aside0.mk A80
        clear A80
        replace H := Option.bind_eq_some_iff.mp H
        obtain ⟨t138, A90, H⟩ := H
        replace H : (some (wrap64 ((wrap64 ((wrap64 (4 + t137)) * a0)) + (wrap64 ((wrap64 (4 + t138)) * a1))))) = some r := H
        have A9 := Aside0.mk A90
        clear A90
        obtain rfl := Option.some.inj H
        go_wp2_with (first | ((with_reducible refine gate_callee (f := 63) rfl ?_); refine goesL_ (some 19) rfl rfl Try.func63 (by kernel_rfl) rfl #[.int .i64 120] rfl (by (try simp only [List.map_toArray, List.map_cons, List.map_nil]); first | done | rfl | (simp only [List.length_drop, List.length_take]; rfl)) ?_; (with_reducible refine (blob_Count.calls 120 t137 _ A8.out).mono ?_); rintro e w' ⟨rfl, ⟨nd, rfl⟩⟩; refine ⟨_, rfl, ?_⟩) | ((with_reducible refine gate_callee (f := 63) rfl ?_); refine goesL_ (some 23) rfl rfl Try.func63 (by kernel_rfl) rfl #[.int .i64 1020] rfl (by (try simp only [List.map_toArray, List.map_cons, List.map_nil]); first | done | rfl | (simp only [List.length_drop, List.length_take]; rfl)) ?_; (with_reducible refine (blob_Count.calls 1020 t138 _ A9.out).mono ?_); rintro e w' ⟨rfl, ⟨nd, rfl⟩⟩; refine ⟨_, rfl, ?_⟩))
        go_ret
        exact ⟨by first | rfl | (simp; done) | (simp [*]; done), by repeat (first | exact Drawn0.refl _ | apply Drawn0.step)⟩

/-! ### bastillelaw33_BoundWeight: function 5 -/
def bastillelaw33_BoundWeight.j0 : Nat → Int → Int → Int → Int → Bool → Option (Bool)
  | 0, _, _, _, _, _ => none
  | k + 1, x0, x1, x5, x6, x21 => if x21 = true then (none) else ((bound_Weight.f k x0 x1).bind fun t143 => (if x0 < 0 then (some (t143 == 0)) else (if x1 < 0 then (some (t143 == 0)) else (if x0 > 1048576 then (some (t143 == 0)) else (if x1 > 1048576 then (some (t143 == 0)) else (some (t143 == (wrap64 ((wrap64 (x5 * x0)) + (wrap64 (x6 * x1)))))))))))
def bastillelaw33_BoundWeight.f (k : Nat) (a0 : Int) (a1 : Int) : Option (Bool) := (bastillelaw33_awake.f k).bind fun t139 => (if t139 = true then ((bound_Weight.f k 1 0).bind fun t140 => ((bound_Weight.f k 0 1).bind fun t141 => (if t140 = 6 then (if t141 = 21 then ((bound_Weight.f k 38 3).bind fun t142 => (bastillelaw33_BoundWeight.j0 k a0 a1 t140 t141 (decide (t142 > 512)))) else (bastillelaw33_BoundWeight.j0 k a0 a1 t140 t141 true)) else (bastillelaw33_BoundWeight.j0 k a0 a1 t140 t141 true)))) else (none))
theorem bastillelaw33_BoundWeight.mono_l : ∀ k, (∀ y0 y1 y2 y3 y4, LeO (bastillelaw33_BoundWeight.j0 k y0 y1 y2 y3 y4) (bastillelaw33_BoundWeight.j0 (k + 1) y0 y1 y2 y3 y4))
  | 0 => fun _ _ _ _ _ r h => by simp [bastillelaw33_BoundWeight.j0] at h
  | k + 1 => by
    have ih0 := bastillelaw33_BoundWeight.mono_l k
    · intro y0 y1 y2 y3 y4
      unfold bastillelaw33_BoundWeight.j0
      repeat' first
      | (with_reducible exact ih0 _ _ _ _ _)
      | (with_reducible exact bastillelaw33_awake.mono _)
      | (with_reducible exact bound_Weight.mono _ _ _)
      | (with_reducible exact LeO.refl _)
      | (with_reducible exact LeO.none _)
      | (with_reducible refine LeO.ite ?_ ?_)
      | (with_reducible refine LeO.bind ?_ (fun _ => ?_))
      | exact ih0 _ _ _ _ _
      | exact bastillelaw33_awake.mono _
      | exact bound_Weight.mono _ _ _
      | exact LeO.none _
      | refine LeO.ite ?_ ?_
      | refine LeO.bind ?_ (fun _ => ?_)
theorem bastillelaw33_BoundWeight.mono : ∀ a0 a1 k, LeO (bastillelaw33_BoundWeight.f k a0 a1) (bastillelaw33_BoundWeight.f (k + 1) a0 a1) := by
  intro a0 a1 k
  have ih0 := bastillelaw33_BoundWeight.mono_l k
  unfold bastillelaw33_BoundWeight.f
  repeat' first
      | (with_reducible exact ih0 _ _ _ _ _)
      | (with_reducible exact bastillelaw33_awake.mono _)
      | (with_reducible exact bound_Weight.mono _ _ _)
      | (with_reducible exact LeO.refl _)
      | (with_reducible exact LeO.none _)
      | (with_reducible refine LeO.ite ?_ ?_)
      | (with_reducible refine LeO.bind ?_ (fun _ => ?_))
      | exact ih0 _ _ _ _ _
      | exact bastillelaw33_awake.mono _
      | exact bound_Weight.mono _ _ _
      | exact LeO.none _
      | refine LeO.ite ?_ ?_
      | refine LeO.bind ?_ (fun _ => ?_)
set_option maxHeartbeats 8000000 in
set_option maxRecDepth 100000 in
theorem bastillelaw33_BoundWeight.calls (k : Nat) (a0 : Int) (a1 : Int) (r : Bool) (w : World) (h : bastillelaw33_BoundWeight.f k a0 a1 = some r) :
    Calls Try.prog 5 #[.int .i64 a0, .int .i64 a1] w fun e w' => e = .returned (.bool r) ∧ Below w.heap.size w w' := by
  have HB := Aside0.mk (Below.refl w.heap.size w)
  have H : ((bastillelaw33_awake.f k).bind fun t139 => (if t139 = true then ((bound_Weight.f k 1 0).bind fun t140 => ((bound_Weight.f k 0 1).bind fun t141 => (if t140 = 6 then (if t141 = 21 then ((bound_Weight.f k 38 3).bind fun t142 => (bastillelaw33_BoundWeight.j0 k a0 a1 t140 t141 (decide (t142 > 512)))) else (bastillelaw33_BoundWeight.j0 k a0 a1 t140 t141 true)) else (bastillelaw33_BoundWeight.j0 k a0 a1 t140 t141 true)))) else (none))) = some r := h
  clear h
  replace H := Option.bind_eq_some_iff.mp H
  obtain ⟨t139, A30, H⟩ := H
  replace H : (if t139 = true then ((bound_Weight.f k 1 0).bind fun t140 => ((bound_Weight.f k 0 1).bind fun t141 => (if t140 = 6 then (if t141 = 21 then ((bound_Weight.f k 38 3).bind fun t142 => (bastillelaw33_BoundWeight.j0 k a0 a1 t140 t141 (decide (t142 > 512)))) else (bastillelaw33_BoundWeight.j0 k a0 a1 t140 t141 true)) else (bastillelaw33_BoundWeight.j0 k a0 a1 t140 t141 true)))) else (none)) = some r := H
  have A3 := Aside0.mk A30
  clear A30
  by_cases c4 : t139 = true
  · subst c4
    have H1 : ((bound_Weight.f k 1 0).bind fun t140 => ((bound_Weight.f k 0 1).bind fun t141 => (if t140 = 6 then (if t141 = 21 then ((bound_Weight.f k 38 3).bind fun t142 => (bastillelaw33_BoundWeight.j0 k a0 a1 t140 t141 (decide (t142 > 512)))) else (bastillelaw33_BoundWeight.j0 k a0 a1 t140 t141 true)) else (bastillelaw33_BoundWeight.j0 k a0 a1 t140 t141 true)))) = some r := by rw [if_pos rfl] at H; exact H
    clear H
    have H := H1
    clear H1
    replace H := Option.bind_eq_some_iff.mp H
    obtain ⟨t140, A50, H⟩ := H
    replace H : ((bound_Weight.f k 0 1).bind fun t141 => (if t140 = 6 then (if t141 = 21 then ((bound_Weight.f k 38 3).bind fun t142 => (bastillelaw33_BoundWeight.j0 k a0 a1 t140 t141 (decide (t142 > 512)))) else (bastillelaw33_BoundWeight.j0 k a0 a1 t140 t141 true)) else (bastillelaw33_BoundWeight.j0 k a0 a1 t140 t141 true))) = some r := H
    have A5 := Aside0.mk A50
    clear A50
    replace H := Option.bind_eq_some_iff.mp H
    obtain ⟨t141, A60, H⟩ := H
    replace H : (if t140 = 6 then (if t141 = 21 then ((bound_Weight.f k 38 3).bind fun t142 => (bastillelaw33_BoundWeight.j0 k a0 a1 t140 t141 (decide (t142 > 512)))) else (bastillelaw33_BoundWeight.j0 k a0 a1 t140 t141 true)) else (bastillelaw33_BoundWeight.j0 k a0 a1 t140 t141 true)) = some r := H
    have A6 := Aside0.mk A60
    clear A60
    have HC7 := Aside0.mk H
    clear H
    go_enter Try.func5, Try.ntmps5
    go_upto_region 4 with (first | ((with_reducible refine gate_callee (f := 20) rfl ?_); refine goesL_ (some 8) rfl rfl Try.func20 (by kernel_rfl) rfl #[] rfl (by (try simp only [List.map_toArray, List.map_cons, List.map_nil]); first | done | rfl | (simp only [List.length_drop, List.length_take]; rfl)) ?_; (with_reducible refine (bastillelaw33_awake.calls k  true _ A3.out).mono ?_); rintro e w8 ⟨rfl, hb⟩; refine ⟨_, rfl, ?_⟩; have n0_ := Aside0.mk (below_step (by repeat (first | (with_reducible first | exact HB.out | apply below_alloc | apply pw_below_drewN | apply below_drew1) | exact HB.out)) hb); clear HB; have HB := n0_; clear n0_; (try clear hb); (try clear hb2); (try clear hk); (try clear hi)) | ((with_reducible refine gate_callee (f := 25) rfl ?_); refine goesL_ (some 10) rfl rfl Try.func25 (by kernel_rfl) rfl #[.int .i64 1, .int .i64 0] rfl (by (try simp only [List.map_toArray, List.map_cons, List.map_nil]); first | done | rfl | (simp only [List.length_drop, List.length_take]; rfl)) ?_; (with_reducible refine (bound_Weight.calls k 1 0 t140 _ A5.out).mono ?_); rintro e w' ⟨rfl, ⟨nd, rfl⟩⟩; refine ⟨_, rfl, ?_⟩) | ((with_reducible refine gate_callee (f := 25) rfl ?_); refine goesL_ (some 11) rfl rfl Try.func25 (by kernel_rfl) rfl #[.int .i64 0, .int .i64 1] rfl (by (try simp only [List.map_toArray, List.map_cons, List.map_nil]); first | done | rfl | (simp only [List.length_drop, List.length_take]; rfl)) ?_; (with_reducible refine (bound_Weight.calls k 0 1 t141 _ A6.out).mono ?_); rintro e w' ⟨rfl, ⟨nd, rfl⟩⟩; refine ⟨_, rfl, ?_⟩))
    (try simp only [Act.put, List.setIfInBounds_toArray, List.set_cons_zero, List.set_cons_succ])
    go_cut [21] (fun v21 wc => ∃ (kq : Nat) (x21_6 : Bool), v21 = .bool x21_6 ∧ Aside0 (bastillelaw33_BoundWeight.j0 kq a0 a1 t140 t141 x21_6 = some r) ∧ Aside0 (kq ≤ k) ∧ Aside0 (Below w.heap.size w wc))
    case first =>
      have H := HC7.out
      clear HC7
      by_cases c9 : t140 = 6
      · rw [if_pos c9] at H
        have c9b0 : (t140 == 6) = true := beq_iff_eq.mpr c9
        have c9b1 : (t140 != 6) = false := bne_eq_false_iff_eq.mpr c9
        clear c9
        (first | rw [c9b0] | (simp only [i64_w, i32_w]; rw [c9b0]) | skip)
        by_cases c10 : t141 = 21
        · rw [if_pos c10] at H
          have c10b0 : (t141 == 21) = true := beq_iff_eq.mpr c10
          have c10b1 : (t141 != 21) = false := bne_eq_false_iff_eq.mpr c10
          clear c10
          replace H := Option.bind_eq_some_iff.mp H
          obtain ⟨t142, A110, H⟩ := H
          replace H : (bastillelaw33_BoundWeight.j0 k a0 a1 t140 t141 (decide (t142 > 512))) = some r := H
          have A11 := Aside0.mk A110
          clear A110
          have H' := Aside0.mk H
          clear H
          go_wp2_with (first | (go_at_call 25; (with_reducible refine (bound_Weight.calls k 38 3 t142 _ A11.out).mono ?_); rintro e w' ⟨rfl, ⟨nd, rfl⟩⟩))
          go_meet
          case rel => exact ⟨_, (decide (t142 > 512)), (by first | rfl | (simp; done) | (simp [*]; done)), H', ⟨by first | omega | exact Nat.le_refl _⟩, ⟨by repeat (first | (with_reducible first | exact HB.out | apply below_alloc | apply pw_below_drewN | apply below_drew1) | exact HB.out)⟩⟩
        · rw [if_neg c10] at H
          have c10b0 : (t141 == 21) = false := beq_eq_false_iff_ne.mpr c10
          have c10b1 : (t141 != 21) = true := bne_iff_ne.mpr c10
          have H' := Aside0.mk H
          clear H
          go_wp2
          go_meet
          case rel => exact ⟨_, (true), (by first | rfl | (simp; done) | (simp [*]; done)), H', ⟨by first | omega | exact Nat.le_refl _⟩, ⟨by repeat (first | (with_reducible first | exact HB.out | apply below_alloc | apply pw_below_drewN | apply below_drew1) | exact HB.out)⟩⟩
      · rw [if_neg c9] at H
        have c9b0 : (t140 == 6) = false := beq_eq_false_iff_ne.mpr c9
        have c9b1 : (t140 != 6) = true := bne_iff_ne.mpr c9
        (first | rw [c9b0] | (simp only [i64_w, i32_w]; rw [c9b0]) | skip)
        have H' := Aside0.mk H
        clear H
        go_wp2
        go_meet
        case rel => exact ⟨_, (true), (by first | rfl | (simp; done) | (simp [*]; done)), H', ⟨by first | omega | exact Nat.le_refl _⟩, ⟨by repeat (first | (with_reducible first | exact HB.out | apply below_alloc | apply pw_below_drewN | apply below_drew1) | exact HB.out)⟩⟩
    case rest =>
      clear HC7
      try clear c1
      try clear c2
      try clear p2
      try clear c4
      try clear c5
      try clear c9
      try clear c9b0
      try clear c9b1
      try clear c10
      try clear c10b0
      try clear c10b1
      obtain ⟨kq, x21_6, rfl, HA, HJ6, HB⟩ := hcut
      cases kq with
      | zero => exact absurd HA.out (by simp [bastillelaw33_BoundWeight.j0])
      | succ kj6 =>
        have H := HA.out
        clear HA
        simp only [bastillelaw33_BoundWeight.j0] at H
        by_cases c12 : x21_6 = true
        · subst c12
          have H1 : (none) = some r := by rw [if_pos rfl] at H; exact H
          clear H
          have H := H1
          clear H1
          exact absurd H (by simp)
        · replace c12 := Bool.eq_false_iff.mpr c12
          subst c12
          have H1 : ((bound_Weight.f kj6 a0 a1).bind fun t143 => (if a0 < 0 then (some (t143 == 0)) else (if a1 < 0 then (some (t143 == 0)) else (if a0 > 1048576 then (some (t143 == 0)) else (if a1 > 1048576 then (some (t143 == 0)) else (some (t143 == (wrap64 ((wrap64 (t140 * a0)) + (wrap64 (t141 * a1))))))))))) = some r := by rw [if_neg (show ¬ (false = true) by decide)] at H; exact H
          clear H
          have H := H1
          clear H1
          replace H := Option.bind_eq_some_iff.mp H
          obtain ⟨t143, A130, H⟩ := H
          replace H : (if a0 < 0 then (some (t143 == 0)) else (if a1 < 0 then (some (t143 == 0)) else (if a0 > 1048576 then (some (t143 == 0)) else (if a1 > 1048576 then (some (t143 == 0)) else (some (t143 == (wrap64 ((wrap64 (t140 * a0)) + (wrap64 (t141 * a1)))))))))) = some r := H
          have A13 := Aside0.mk A130
          clear A130
          by_cases c14 : a0 < 0
          · rw [if_pos c14] at H
            have c14b0 : decide (a0 < 0) = true := decide_eq_true c14
            clear c14
            obtain rfl := Option.some.inj H
            go_wp2_with (first | ((with_reducible refine gate_callee (f := 25) rfl ?_); refine goesL_ (some 24) rfl rfl Try.func25 (by kernel_rfl) rfl #[.int .i64 a0, .int .i64 a1] rfl (by (try simp only [List.map_toArray, List.map_cons, List.map_nil]); first | done | rfl | (simp only [List.length_drop, List.length_take]; rfl)) ?_; (with_reducible refine (bound_Weight.calls kj6 a0 a1 t143 _ A13.out).mono ?_); rintro e w' ⟨rfl, ⟨nd, rfl⟩⟩; refine ⟨_, rfl, ?_⟩))
            go_ret
            exact ⟨by first | rfl | (simp [errW_none, errW_some] <;> rfl) | (simp [*, errW_none, errW_some] <;> rfl), by repeat (first | (with_reducible first | exact HB.out | apply below_alloc | apply pw_below_drewN | apply below_drew1) | exact HB.out)⟩
          · rw [if_neg c14] at H
            have c14b0 : decide (a0 < 0) = false := decide_eq_false c14
            clear c14
            by_cases c15 : a1 < 0
            · rw [if_pos c15] at H
              have c15b0 : decide (a1 < 0) = true := decide_eq_true c15
              clear c15
              obtain rfl := Option.some.inj H
              go_wp2_with (first | ((with_reducible refine gate_callee (f := 25) rfl ?_); refine goesL_ (some 24) rfl rfl Try.func25 (by kernel_rfl) rfl #[.int .i64 a0, .int .i64 a1] rfl (by (try simp only [List.map_toArray, List.map_cons, List.map_nil]); first | done | rfl | (simp only [List.length_drop, List.length_take]; rfl)) ?_; (with_reducible refine (bound_Weight.calls kj6 a0 a1 t143 _ A13.out).mono ?_); rintro e w' ⟨rfl, ⟨nd, rfl⟩⟩; refine ⟨_, rfl, ?_⟩))
              go_ret
              exact ⟨by first | rfl | (simp [errW_none, errW_some] <;> rfl) | (simp [*, errW_none, errW_some] <;> rfl), by repeat (first | (with_reducible first | exact HB.out | apply below_alloc | apply pw_below_drewN | apply below_drew1) | exact HB.out)⟩
            · rw [if_neg c15] at H
              have c15b0 : decide (a1 < 0) = false := decide_eq_false c15
              clear c15
              by_cases c16 : a0 > 1048576
              · rw [if_pos c16] at H
                have c16b0 : decide (1048576 < a0) = true := decide_eq_true c16
                clear c16
                obtain rfl := Option.some.inj H
                go_wp2_with (first | ((with_reducible refine gate_callee (f := 25) rfl ?_); refine goesL_ (some 24) rfl rfl Try.func25 (by kernel_rfl) rfl #[.int .i64 a0, .int .i64 a1] rfl (by (try simp only [List.map_toArray, List.map_cons, List.map_nil]); first | done | rfl | (simp only [List.length_drop, List.length_take]; rfl)) ?_; (with_reducible refine (bound_Weight.calls kj6 a0 a1 t143 _ A13.out).mono ?_); rintro e w' ⟨rfl, ⟨nd, rfl⟩⟩; refine ⟨_, rfl, ?_⟩))
                go_ret
                exact ⟨by first | rfl | (simp [errW_none, errW_some] <;> rfl) | (simp [*, errW_none, errW_some] <;> rfl), by repeat (first | (with_reducible first | exact HB.out | apply below_alloc | apply pw_below_drewN | apply below_drew1) | exact HB.out)⟩
              · rw [if_neg c16] at H
                have c16b0 : decide (1048576 < a0) = false := decide_eq_false c16
                clear c16
                by_cases c17 : a1 > 1048576
                · rw [if_pos c17] at H
                  have c17b0 : decide (1048576 < a1) = true := decide_eq_true c17
                  clear c17
                  obtain rfl := Option.some.inj H
                  go_wp2_with (first | ((with_reducible refine gate_callee (f := 25) rfl ?_); refine goesL_ (some 24) rfl rfl Try.func25 (by kernel_rfl) rfl #[.int .i64 a0, .int .i64 a1] rfl (by (try simp only [List.map_toArray, List.map_cons, List.map_nil]); first | done | rfl | (simp only [List.length_drop, List.length_take]; rfl)) ?_; (with_reducible refine (bound_Weight.calls kj6 a0 a1 t143 _ A13.out).mono ?_); rintro e w' ⟨rfl, ⟨nd, rfl⟩⟩; refine ⟨_, rfl, ?_⟩))
                  go_ret
                  exact ⟨by first | rfl | (simp [errW_none, errW_some] <;> rfl) | (simp [*, errW_none, errW_some] <;> rfl), by repeat (first | (with_reducible first | exact HB.out | apply below_alloc | apply pw_below_drewN | apply below_drew1) | exact HB.out)⟩
                · rw [if_neg c17] at H
                  have c17b0 : decide (1048576 < a1) = false := decide_eq_false c17
                  clear c17
                  obtain rfl := Option.some.inj H
                  go_wp2_with (first | ((with_reducible refine gate_callee (f := 25) rfl ?_); refine goesL_ (some 24) rfl rfl Try.func25 (by kernel_rfl) rfl #[.int .i64 a0, .int .i64 a1] rfl (by (try simp only [List.map_toArray, List.map_cons, List.map_nil]); first | done | rfl | (simp only [List.length_drop, List.length_take]; rfl)) ?_; (with_reducible refine (bound_Weight.calls kj6 a0 a1 t143 _ A13.out).mono ?_); rintro e w' ⟨rfl, ⟨nd, rfl⟩⟩; refine ⟨_, rfl, ?_⟩))
                  go_ret
                  exact ⟨by first | rfl | (simp [errW_none, errW_some] <;> rfl) | (simp [*, errW_none, errW_some] <;> rfl), by repeat (first | (with_reducible first | exact HB.out | apply below_alloc | apply pw_below_drewN | apply below_drew1) | exact HB.out)⟩
  · replace c4 := Bool.eq_false_iff.mpr c4
    subst c4
    have H1 : (none) = some r := by rw [if_neg (show ¬ (false = true) by decide)] at H; exact H
    clear H
    have H := H1
    clear H1
    exact absurd H (by simp)

/-- THE ONE PURE STATEMENT of bastillelaw33_BoundWeight: yours. -/
def bastillelaw33_BoundWeight.Pure : Prop := ∀ (a0 : Int) (a1 : Int), (Lit.int .i64 a0).wf = true → (Lit.int .i64 a1).wf = true → ∃ k, bastillelaw33_BoundWeight.f k a0 a1 = some true
theorem bastillelaw33_BoundWeight.walk (P : bastillelaw33_BoundWeight.Pure) (a0 : Int) (a1 : Int) (w : World) (w0 : (Lit.int .i64 a0).wf = true) (w1 : (Lit.int .i64 a1).wf = true) :
    Calls Try.prog 5 #[.int .i64 a0, .int .i64 a1] w fun e w' => e = .returned (.bool true) ∧ Below w.heap.size w w' := by
  obtain ⟨k, h⟩ := P a0 a1 w0 w1
  refine (bastillelaw33_BoundWeight.calls k a0 a1 true w h).mono ?_
  rintro e w' ⟨rfl, hd⟩
  exact ⟨rfl, hd⟩

end Go.Proofs.Ytealjhngfhlpaaa.PBoundWeight
