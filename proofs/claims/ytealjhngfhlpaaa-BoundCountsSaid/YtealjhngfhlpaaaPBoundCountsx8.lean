-- Written by drive.py of this work: the kit's print.py with contracts of this work laid in.
import Derived.Test.YtealjhngfhlpaaaPBoundCountsx0
namespace Go.Proofs.Ytealjhngfhlpaaa.PBoundCounts
open Go.RowKit Go.Proofs.YtealjhngfhlpaaaW.PrintWords Go.Proofs.YtealjhngfhlpaaaW.PrintLast Go.Proofs.YtealjhngfhlpaaaW.PrintMore
attribute [local go_sem] max2_int min2_int max_two min_two max_three min_three max_four min_four   -- for this text's walks alone
set_option linter.unusedVariables false
set_option linter.unusedSimpArgs false

/-! ### bastilleref33_Within: function 37 -/
mutual
def bastilleref33_Within.j0 : Nat → Bool → Int → List (S101) → List (S103) → List (S45) → Option (Bool)
  | 0, _, _, _, _, _ => none
  | k + 1, x18, x197000, x197001, x197002, x197003 => if x18 = true then (some false) else (bastilleref33_Within.l0 k 0 x197000 x197001 x197002 x197003)
def bastilleref33_Within.l0 : Nat → Int → Int → List (S101) → List (S103) → List (S45) → Option (Bool)
  | 0, _, _, _, _, _ => none
  | k + 1, x3, x197000, x197001, x197002, x197003 => if x3 < (x197003.length : Int) then (if 0 ≤ x3 then (if (((rd_T45 x197003 x3).f2).length : Int) = 0 then (bastilleref33_Within.j2 k x3 true x197000 x197001 x197002 x197003 ((rd_T45 x197003 x3).f0) ((rd_T45 x197003 x3).f1) ((rd_T45 x197003 x3).f2) ((rd_T45 x197003 x3).f3) ((rd_T45 x197003 x3).f4) ((rd_T45 x197003 x3).f5) ((rd_T45 x197003 x3).f6)) else (if (((rd_T45 x197003 x3).f3).length : Int) = 0 then (bastilleref33_Within.j2 k x3 true x197000 x197001 x197002 x197003 ((rd_T45 x197003 x3).f0) ((rd_T45 x197003 x3).f1) ((rd_T45 x197003 x3).f2) ((rd_T45 x197003 x3).f3) ((rd_T45 x197003 x3).f4) ((rd_T45 x197003 x3).f5) ((rd_T45 x197003 x3).f6)) else (bastilleref33_Within.j2 k x3 (decide ((((rd_T45 x197003 x3).f4).length : Int) > 32)) x197000 x197001 x197002 x197003 ((rd_T45 x197003 x3).f0) ((rd_T45 x197003 x3).f1) ((rd_T45 x197003 x3).f2) ((rd_T45 x197003 x3).f3) ((rd_T45 x197003 x3).f4) ((rd_T45 x197003 x3).f5) ((rd_T45 x197003 x3).f6)))) else (none)) else (some true)
def bastilleref33_Within.j2 : Nat → Int → Bool → Int → List (S101) → List (S103) → List (S45) → ByteArray → Int → List (S113) → List (S116) → List (S108) → List (S137) → List (S139) → Option (Bool)
  | 0, _, _, _, _, _, _, _, _, _, _, _, _, _ => none
  | k + 1, x3, x46, x197000, x197001, x197002, x197003, x199000, x199001, x199002, x199003, x199004, x199005, x199006 => if x46 = true then (some false) else (bastilleref33_Within.l1 k x3 0 x197000 x197001 x197002 x197003 x199000 x199001 x199002 x199003 x199004 x199005 x199006)
def bastilleref33_Within.l1 : Nat → Int → Int → Int → List (S101) → List (S103) → List (S45) → ByteArray → Int → List (S113) → List (S116) → List (S108) → List (S137) → List (S139) → Option (Bool)
  | 0, _, _, _, _, _, _, _, _, _, _, _, _, _ => none
  | k + 1, x3, x5, x197000, x197001, x197002, x197003, x199000, x199001, x199002, x199003, x199004, x199005, x199006 => if x5 < (x199002.length : Int) then (if 0 ≤ x5 then (if (((rd_T113 x199002 x5).f4).length : Int) > 8 then (some false) else (bastilleref33_Within.l1 k x3 (wrap64 (x5 + 1)) x197000 x197001 x197002 x197003 x199000 x199001 x199002 x199003 x199004 x199005 x199006)) else (none)) else (bastilleref33_Within.l2 k x3 0 x197000 x197001 x197002 x197003 x199000 x199001 x199002 x199003 x199004 x199005 x199006)
def bastilleref33_Within.l2 : Nat → Int → Int → Int → List (S101) → List (S103) → List (S45) → ByteArray → Int → List (S113) → List (S116) → List (S108) → List (S137) → List (S139) → Option (Bool)
  | 0, _, _, _, _, _, _, _, _, _, _, _, _, _ => none
  | k + 1, x3, x6, x197000, x197001, x197002, x197003, x199000, x199001, x199002, x199003, x199004, x199005, x199006 => if x6 < (x199003.length : Int) then (if 0 ≤ x6 then (if ((rd_T116 x199003 x6).f0) < 1 then (some false) else (if ((rd_T116 x199003 x6).f0) > 4 then (some false) else (bastilleref33_Within.l2 k x3 (wrap64 (x6 + 1)) x197000 x197001 x197002 x197003 x199000 x199001 x199002 x199003 x199004 x199005 x199006))) else (none)) else (bastilleref33_Within.l3 k x3 0 x197000 x197001 x197002 x197003 x199000 x199001 x199002 x199003 x199004 x199005 x199006)
def bastilleref33_Within.l3 : Nat → Int → Int → Int → List (S101) → List (S103) → List (S45) → ByteArray → Int → List (S113) → List (S116) → List (S108) → List (S137) → List (S139) → Option (Bool)
  | 0, _, _, _, _, _, _, _, _, _, _, _, _, _ => none
  | k + 1, x3, x7, x197000, x197001, x197002, x197003, x199000, x199001, x199002, x199003, x199004, x199005, x199006 => if x7 < (x199004.length : Int) then (if 0 ≤ x7 then (if (((rd_T108 x199004 x7).f1).length : Int) = 0 then (some false) else (if (((rd_T108 x199004 x7).f1).length : Int) > 256 then (some false) else (bastilleref33_Within.l3 k x3 (wrap64 (x7 + 1)) x197000 x197001 x197002 x197003 x199000 x199001 x199002 x199003 x199004 x199005 x199006))) else (none)) else (bastilleref33_Within.l0 k (wrap64 (x3 + 1)) x197000 x197001 x197002 x197003)
end
def bastilleref33_Within.f (k : Nat) (a0_0 : Int) (l0_1 : List (S101)) (l0_2 : List (S103)) (l0_3 : List (S45)) : Option (Bool) := if (l0_1.length : Int) > 16 then (bastilleref33_Within.j0 k true a0_0 l0_1 l0_2 l0_3) else (bastilleref33_Within.j0 k (decide ((l0_3.length : Int) > 64)) a0_0 l0_1 l0_2 l0_3)
theorem bastilleref33_Within.mono_l : ∀ k, (∀ y0 y1 y2 y3 y4, LeO (bastilleref33_Within.j0 k y0 y1 y2 y3 y4) (bastilleref33_Within.j0 (k + 1) y0 y1 y2 y3 y4)) ∧ (∀ y0 y1 y2 y3 y4, LeO (bastilleref33_Within.l0 k y0 y1 y2 y3 y4) (bastilleref33_Within.l0 (k + 1) y0 y1 y2 y3 y4)) ∧ (∀ y0 y1 y2 y3 y4 y5 y6 y7 y8 y9 y10 y11 y12, LeO (bastilleref33_Within.j2 k y0 y1 y2 y3 y4 y5 y6 y7 y8 y9 y10 y11 y12) (bastilleref33_Within.j2 (k + 1) y0 y1 y2 y3 y4 y5 y6 y7 y8 y9 y10 y11 y12)) ∧ (∀ y0 y1 y2 y3 y4 y5 y6 y7 y8 y9 y10 y11 y12, LeO (bastilleref33_Within.l1 k y0 y1 y2 y3 y4 y5 y6 y7 y8 y9 y10 y11 y12) (bastilleref33_Within.l1 (k + 1) y0 y1 y2 y3 y4 y5 y6 y7 y8 y9 y10 y11 y12)) ∧ (∀ y0 y1 y2 y3 y4 y5 y6 y7 y8 y9 y10 y11 y12, LeO (bastilleref33_Within.l2 k y0 y1 y2 y3 y4 y5 y6 y7 y8 y9 y10 y11 y12) (bastilleref33_Within.l2 (k + 1) y0 y1 y2 y3 y4 y5 y6 y7 y8 y9 y10 y11 y12)) ∧ (∀ y0 y1 y2 y3 y4 y5 y6 y7 y8 y9 y10 y11 y12, LeO (bastilleref33_Within.l3 k y0 y1 y2 y3 y4 y5 y6 y7 y8 y9 y10 y11 y12) (bastilleref33_Within.l3 (k + 1) y0 y1 y2 y3 y4 y5 y6 y7 y8 y9 y10 y11 y12))
  | 0 => ⟨fun _ _ _ _ _ r h => by simp [bastilleref33_Within.j0] at h, fun _ _ _ _ _ r h => by simp [bastilleref33_Within.l0] at h, fun _ _ _ _ _ _ _ _ _ _ _ _ _ r h => by simp [bastilleref33_Within.j2] at h, fun _ _ _ _ _ _ _ _ _ _ _ _ _ r h => by simp [bastilleref33_Within.l1] at h, fun _ _ _ _ _ _ _ _ _ _ _ _ _ r h => by simp [bastilleref33_Within.l2] at h, fun _ _ _ _ _ _ _ _ _ _ _ _ _ r h => by simp [bastilleref33_Within.l3] at h⟩
  | k + 1 => by
    obtain ⟨ih0, ih1, ih2, ih3, ih4, ih5⟩ := bastilleref33_Within.mono_l k
    refine ⟨?_, ?_, ?_, ?_, ?_, ?_⟩
    · intro y0 y1 y2 y3 y4
      unfold bastilleref33_Within.j0
      repeat' first
      | (with_reducible exact ih0 _ _ _ _ _)
      | (with_reducible exact ih1 _ _ _ _ _)
      | (with_reducible exact ih2 _ _ _ _ _ _ _ _ _ _ _ _ _)
      | (with_reducible exact ih3 _ _ _ _ _ _ _ _ _ _ _ _ _)
      | (with_reducible exact ih4 _ _ _ _ _ _ _ _ _ _ _ _ _)
      | (with_reducible exact ih5 _ _ _ _ _ _ _ _ _ _ _ _ _)
      | (with_reducible exact LeO.refl _)
      | (with_reducible exact LeO.none _)
      | (with_reducible refine LeO.ite ?_ ?_)
      | (with_reducible refine LeO.bind ?_ (fun _ => ?_))
      | exact ih0 _ _ _ _ _
      | exact ih1 _ _ _ _ _
      | exact ih2 _ _ _ _ _ _ _ _ _ _ _ _ _
      | exact ih3 _ _ _ _ _ _ _ _ _ _ _ _ _
      | exact ih4 _ _ _ _ _ _ _ _ _ _ _ _ _
      | exact ih5 _ _ _ _ _ _ _ _ _ _ _ _ _
      | exact LeO.none _
      | refine LeO.ite ?_ ?_
      | refine LeO.bind ?_ (fun _ => ?_)
    · intro y0 y1 y2 y3 y4
      unfold bastilleref33_Within.l0
      repeat' first
      | (with_reducible exact ih0 _ _ _ _ _)
      | (with_reducible exact ih1 _ _ _ _ _)
      | (with_reducible exact ih2 _ _ _ _ _ _ _ _ _ _ _ _ _)
      | (with_reducible exact ih3 _ _ _ _ _ _ _ _ _ _ _ _ _)
      | (with_reducible exact ih4 _ _ _ _ _ _ _ _ _ _ _ _ _)
      | (with_reducible exact ih5 _ _ _ _ _ _ _ _ _ _ _ _ _)
      | (with_reducible exact LeO.refl _)
      | (with_reducible exact LeO.none _)
      | (with_reducible refine LeO.ite ?_ ?_)
      | (with_reducible refine LeO.bind ?_ (fun _ => ?_))
      | exact ih0 _ _ _ _ _
      | exact ih1 _ _ _ _ _
      | exact ih2 _ _ _ _ _ _ _ _ _ _ _ _ _
      | exact ih3 _ _ _ _ _ _ _ _ _ _ _ _ _
      | exact ih4 _ _ _ _ _ _ _ _ _ _ _ _ _
      | exact ih5 _ _ _ _ _ _ _ _ _ _ _ _ _
      | exact LeO.none _
      | refine LeO.ite ?_ ?_
      | refine LeO.bind ?_ (fun _ => ?_)
    · intro y0 y1 y2 y3 y4 y5 y6 y7 y8 y9 y10 y11 y12
      unfold bastilleref33_Within.j2
      repeat' first
      | (with_reducible exact ih0 _ _ _ _ _)
      | (with_reducible exact ih1 _ _ _ _ _)
      | (with_reducible exact ih2 _ _ _ _ _ _ _ _ _ _ _ _ _)
      | (with_reducible exact ih3 _ _ _ _ _ _ _ _ _ _ _ _ _)
      | (with_reducible exact ih4 _ _ _ _ _ _ _ _ _ _ _ _ _)
      | (with_reducible exact ih5 _ _ _ _ _ _ _ _ _ _ _ _ _)
      | (with_reducible exact LeO.refl _)
      | (with_reducible exact LeO.none _)
      | (with_reducible refine LeO.ite ?_ ?_)
      | (with_reducible refine LeO.bind ?_ (fun _ => ?_))
      | exact ih0 _ _ _ _ _
      | exact ih1 _ _ _ _ _
      | exact ih2 _ _ _ _ _ _ _ _ _ _ _ _ _
      | exact ih3 _ _ _ _ _ _ _ _ _ _ _ _ _
      | exact ih4 _ _ _ _ _ _ _ _ _ _ _ _ _
      | exact ih5 _ _ _ _ _ _ _ _ _ _ _ _ _
      | exact LeO.none _
      | refine LeO.ite ?_ ?_
      | refine LeO.bind ?_ (fun _ => ?_)
    · intro y0 y1 y2 y3 y4 y5 y6 y7 y8 y9 y10 y11 y12
      unfold bastilleref33_Within.l1
      repeat' first
      | (with_reducible exact ih0 _ _ _ _ _)
      | (with_reducible exact ih1 _ _ _ _ _)
      | (with_reducible exact ih2 _ _ _ _ _ _ _ _ _ _ _ _ _)
      | (with_reducible exact ih3 _ _ _ _ _ _ _ _ _ _ _ _ _)
      | (with_reducible exact ih4 _ _ _ _ _ _ _ _ _ _ _ _ _)
      | (with_reducible exact ih5 _ _ _ _ _ _ _ _ _ _ _ _ _)
      | (with_reducible exact LeO.refl _)
      | (with_reducible exact LeO.none _)
      | (with_reducible refine LeO.ite ?_ ?_)
      | (with_reducible refine LeO.bind ?_ (fun _ => ?_))
      | exact ih0 _ _ _ _ _
      | exact ih1 _ _ _ _ _
      | exact ih2 _ _ _ _ _ _ _ _ _ _ _ _ _
      | exact ih3 _ _ _ _ _ _ _ _ _ _ _ _ _
      | exact ih4 _ _ _ _ _ _ _ _ _ _ _ _ _
      | exact ih5 _ _ _ _ _ _ _ _ _ _ _ _ _
      | exact LeO.none _
      | refine LeO.ite ?_ ?_
      | refine LeO.bind ?_ (fun _ => ?_)
    · intro y0 y1 y2 y3 y4 y5 y6 y7 y8 y9 y10 y11 y12
      unfold bastilleref33_Within.l2
      repeat' first
      | (with_reducible exact ih0 _ _ _ _ _)
      | (with_reducible exact ih1 _ _ _ _ _)
      | (with_reducible exact ih2 _ _ _ _ _ _ _ _ _ _ _ _ _)
      | (with_reducible exact ih3 _ _ _ _ _ _ _ _ _ _ _ _ _)
      | (with_reducible exact ih4 _ _ _ _ _ _ _ _ _ _ _ _ _)
      | (with_reducible exact ih5 _ _ _ _ _ _ _ _ _ _ _ _ _)
      | (with_reducible exact LeO.refl _)
      | (with_reducible exact LeO.none _)
      | (with_reducible refine LeO.ite ?_ ?_)
      | (with_reducible refine LeO.bind ?_ (fun _ => ?_))
      | exact ih0 _ _ _ _ _
      | exact ih1 _ _ _ _ _
      | exact ih2 _ _ _ _ _ _ _ _ _ _ _ _ _
      | exact ih3 _ _ _ _ _ _ _ _ _ _ _ _ _
      | exact ih4 _ _ _ _ _ _ _ _ _ _ _ _ _
      | exact ih5 _ _ _ _ _ _ _ _ _ _ _ _ _
      | exact LeO.none _
      | refine LeO.ite ?_ ?_
      | refine LeO.bind ?_ (fun _ => ?_)
    · intro y0 y1 y2 y3 y4 y5 y6 y7 y8 y9 y10 y11 y12
      unfold bastilleref33_Within.l3
      repeat' first
      | (with_reducible exact ih0 _ _ _ _ _)
      | (with_reducible exact ih1 _ _ _ _ _)
      | (with_reducible exact ih2 _ _ _ _ _ _ _ _ _ _ _ _ _)
      | (with_reducible exact ih3 _ _ _ _ _ _ _ _ _ _ _ _ _)
      | (with_reducible exact ih4 _ _ _ _ _ _ _ _ _ _ _ _ _)
      | (with_reducible exact ih5 _ _ _ _ _ _ _ _ _ _ _ _ _)
      | (with_reducible exact LeO.refl _)
      | (with_reducible exact LeO.none _)
      | (with_reducible refine LeO.ite ?_ ?_)
      | (with_reducible refine LeO.bind ?_ (fun _ => ?_))
      | exact ih0 _ _ _ _ _
      | exact ih1 _ _ _ _ _
      | exact ih2 _ _ _ _ _ _ _ _ _ _ _ _ _
      | exact ih3 _ _ _ _ _ _ _ _ _ _ _ _ _
      | exact ih4 _ _ _ _ _ _ _ _ _ _ _ _ _
      | exact ih5 _ _ _ _ _ _ _ _ _ _ _ _ _
      | exact LeO.none _
      | refine LeO.ite ?_ ?_
      | refine LeO.bind ?_ (fun _ => ?_)
theorem bastilleref33_Within.mono : ∀ a0 a1 a2 a3 k, LeO (bastilleref33_Within.f k a0 a1 a2 a3) (bastilleref33_Within.f (k + 1) a0 a1 a2 a3) := by
  intro a0 a1 a2 a3 k
  obtain ⟨ih0, ih1, ih2, ih3, ih4, ih5⟩ := bastilleref33_Within.mono_l k
  unfold bastilleref33_Within.f
  repeat' first
      | (with_reducible exact ih0 _ _ _ _ _)
      | (with_reducible exact ih1 _ _ _ _ _)
      | (with_reducible exact ih2 _ _ _ _ _ _ _ _ _ _ _ _ _)
      | (with_reducible exact ih3 _ _ _ _ _ _ _ _ _ _ _ _ _)
      | (with_reducible exact ih4 _ _ _ _ _ _ _ _ _ _ _ _ _)
      | (with_reducible exact ih5 _ _ _ _ _ _ _ _ _ _ _ _ _)
      | (with_reducible exact LeO.refl _)
      | (with_reducible exact LeO.none _)
      | (with_reducible refine LeO.ite ?_ ?_)
      | (with_reducible refine LeO.bind ?_ (fun _ => ?_))
      | exact ih0 _ _ _ _ _
      | exact ih1 _ _ _ _ _
      | exact ih2 _ _ _ _ _ _ _ _ _ _ _ _ _
      | exact ih3 _ _ _ _ _ _ _ _ _ _ _ _ _
      | exact ih4 _ _ _ _ _ _ _ _ _ _ _ _ _
      | exact ih5 _ _ _ _ _ _ _ _ _ _ _ _ _
      | exact LeO.none _
      | refine LeO.ite ?_ ?_
      | refine LeO.bind ?_ (fun _ => ?_)
set_option maxHeartbeats 8000000 in
set_option maxRecDepth 100000 in
theorem bastilleref33_Within.calls (k : Nat) (a0_0 : Int) (A0_1 : Option Addr) (c0_1 : Nat) (l0_1 : List (S101)) (A0_2 : Option Addr) (c0_2 : Nat) (l0_2 : List (S103)) (A0_3 : Option Addr) (c0_3 : Nat) (l0_3 : List (S45)) (r : Bool) (w : World) (hr0_1 : Kd.C k101 w A0_1 l0_1.length l0_1) (hc0_1 : l0_1.length ≤ c0_1) (hr0_2 : Kd.C k103 w A0_2 l0_2.length l0_2) (hc0_2 : l0_2.length ≤ c0_2) (hr0_3 : Kd.C k45 w A0_3 l0_3.length l0_3) (hc0_3 : l0_3.length ≤ c0_3) (h : bastilleref33_Within.f k a0_0 l0_1 l0_2 l0_3 = some r) :
    Calls Try.prog 37 #[.agg #[.int .i64 a0_0, .slice A0_1 l0_1.length c0_1, .slice A0_2 l0_2.length c0_2, .slice A0_3 l0_3.length c0_3]] w fun e w' => e = .returned (.bool r) ∧ Below w.heap.size w w' := by
  have hu35 := Try.underlying35
  have hu45 := Try.underlying45
  have HR0_1 := Aside0.mk hr0_1
  have HC0_1 := Aside0.mk hc0_1
  clear hr0_1 hc0_1
  have HR0_2 := Aside0.mk hr0_2
  have HC0_2 := Aside0.mk hc0_2
  clear hr0_2 hc0_2
  have HR0_3 := Aside0.mk hr0_3
  have HC0_3 := Aside0.mk hc0_3
  clear hr0_3 hc0_3
  have HB := Aside0.mk (Below.refl w.heap.size w)
  have H : (if (l0_1.length : Int) > 16 then (bastilleref33_Within.j0 k true a0_0 l0_1 l0_2 l0_3) else (bastilleref33_Within.j0 k (decide ((l0_3.length : Int) > 64)) a0_0 l0_1 l0_2 l0_3)) = some r := h
  clear h
  have HC2 := Aside0.mk H
  clear H
  go_enter Try.func37, Try.ntmps37
  go_upto_region 1 with (first | ((with_reducible refine gate_dst (N := 1) rfl ?_); (try (refine gate_guard (by rfl) ?_; dsimp only)); refine box_event ?hg (N := 1) ?hd (cs := #[.int .i64 a0_0, .slice A0_1 l0_1.length c0_1, .slice A0_2 l0_2.length c0_2, .slice A0_3 l0_3.length c0_3]) (t := 35) ?hr ?_; (case hd => rfl); (case hg => rfl); (case hr => first | (go_simp; done) | (go_simp; rfl)); intro gb196 hg w3 hbox hb; have n0_ := Aside0.mk (below_step (by repeat (first | (with_reducible first | exact HB.out | apply below_alloc | apply pw_below_drewN | apply below_drew1) | exact HB.out)) hb); have n1_ := Aside0.mk (hbox); have n2_ := Aside0.mk ((by rw [hg]; exact (below_size (by repeat (first | (with_reducible first | exact HB.out | apply below_alloc | apply pw_below_drewN | apply below_drew1) | exact HB.out))) : w.heap.size ≤ gb196)); have n3_ := Aside0.mk ((by rw [hg]; exact (below_size (by repeat (first | (with_reducible first | exact HB.out | apply below_alloc | apply pw_below_drewN | apply below_drew1) | exact HB.out))) : w.heap.size ≤ gb196)); clear HB; have HB := n0_; have BK196 := n1_; have GW196 := n2_; have GE196 := n3_; clear n0_ n1_ n2_ n3_; clear hb hbox hg))
  (try simp only [Act.put, List.setIfInBounds_toArray, List.set_cons_zero, List.set_cons_succ])
  go_cut [18] (fun v18 wc => ∃ (kq : Nat) (x18_1 : Bool), v18 = .bool x18_1 ∧ Aside0 (bastilleref33_Within.j0 kq x18_1 a0_0 l0_1 l0_2 l0_3 = some r) ∧ Aside0 (kq ≤ k) ∧ Aside0 (wc.heap[gb196]? = some (.cells #[.int .i64 a0_0, (.slice A0_1 l0_1.length c0_1), (.slice A0_2 l0_2.length c0_2), (.slice A0_3 l0_3.length c0_3)] 35 (0, 0))) ∧ Aside0 (Below w.heap.size w wc))
  case first =>
    have H := HC2.out
    clear HC2
    by_cases c4 : (l0_1.length : Int) > 16
    · rw [if_pos c4] at H
      have c4b0 : decide (16 < (l0_1.length : Int)) = true := decide_eq_true c4
      have c4b1 : decide (16 < l0_1.length) = true := decide_eq_true (by omega)
      clear c4
      (first | rw [c4b0] | (simp only [i64_w, i32_w]; rw [c4b0]) | rw [c4b1] | skip)
      have H' := Aside0.mk H
      clear H
      have hcz5_0 : w3.cell? ⟨gb196, 0, none⟩ = some (.int .i64 a0_0) := (blk_cell BK196.out 0).trans rfl
      have hcz5_1 : w3.cell? ⟨gb196, 1, none⟩ = some (.slice A0_1 l0_1.length c0_1) := (blk_cell BK196.out 1).trans rfl
      have hcz5_2 : w3.cell? ⟨gb196, 2, none⟩ = some (.slice A0_2 l0_2.length c0_2) := (blk_cell BK196.out 2).trans rfl
      have hcz5_3 : w3.cell? ⟨gb196, 3, none⟩ = some (.slice A0_3 l0_3.length c0_3) := (blk_cell BK196.out 3).trans rfl
      have hfz5_0 := blk_frozen BK196.out 0
      have hfz5_1 := blk_frozen BK196.out 1
      have hfz5_2 := blk_frozen BK196.out 2
      have hfz5_3 := blk_frozen BK196.out 3
      go_wp2
      go_meet
      case rel => exact ⟨_, (true), (by first | rfl | (simp; done) | (simp [*]; done)), H', ⟨by first | omega | exact Nat.le_refl _⟩, ⟨by (with_reducible repeat (first | refine blk_drewN ?_ _ | refine blk_drew ?_ | refine blk_alloc ?_ _)); exact BK196.out⟩, ⟨by repeat (first | (with_reducible first | exact HB.out | apply below_alloc | apply pw_below_drewN | apply below_drew1 | refine below_set ?_ GE196.out) | exact HB.out)⟩⟩
    · rw [if_neg c4] at H
      have c4b0 : decide (16 < (l0_1.length : Int)) = false := decide_eq_false c4
      have c4b1 : decide (16 < l0_1.length) = false := decide_eq_false (by omega)
      clear c4
      (first | rw [c4b0] | (simp only [i64_w, i32_w]; rw [c4b0]) | rw [c4b1] | skip)
      have H' := Aside0.mk H
      clear H
      have hcz6_0 : w3.cell? ⟨gb196, 0, none⟩ = some (.int .i64 a0_0) := (blk_cell BK196.out 0).trans rfl
      have hcz6_1 : w3.cell? ⟨gb196, 1, none⟩ = some (.slice A0_1 l0_1.length c0_1) := (blk_cell BK196.out 1).trans rfl
      have hcz6_2 : w3.cell? ⟨gb196, 2, none⟩ = some (.slice A0_2 l0_2.length c0_2) := (blk_cell BK196.out 2).trans rfl
      have hcz6_3 : w3.cell? ⟨gb196, 3, none⟩ = some (.slice A0_3 l0_3.length c0_3) := (blk_cell BK196.out 3).trans rfl
      have hfz6_0 := blk_frozen BK196.out 0
      have hfz6_1 := blk_frozen BK196.out 1
      have hfz6_2 := blk_frozen BK196.out 2
      have hfz6_3 := blk_frozen BK196.out 3
      go_wp2
      go_meet
      case rel => exact ⟨_, (decide ((l0_3.length : Int) > 64)), (by first | rfl | (simp; done) | (simp [*]; done)), H', ⟨by first | omega | exact Nat.le_refl _⟩, ⟨by (with_reducible repeat (first | refine blk_drewN ?_ _ | refine blk_drew ?_ | refine blk_alloc ?_ _)); exact BK196.out⟩, ⟨by repeat (first | (with_reducible first | exact HB.out | apply below_alloc | apply pw_below_drewN | apply below_drew1 | refine below_set ?_ GE196.out) | exact HB.out)⟩⟩
  case rest =>
    clear HC2
    try clear p2
    try clear c3
    try clear c4
    try clear c4b0
    try clear c4b1
    try clear hcz5_0
    try clear hcz5_1
    try clear hcz5_2
    try clear hcz5_3
    try clear hcz6_0
    try clear hcz6_1
    try clear hcz6_2
    try clear hcz6_3
    try clear hfz5_0
    try clear hfz5_1
    try clear hfz5_2
    try clear hfz5_3
    try clear hfz6_0
    try clear hfz6_1
    try clear hfz6_2
    try clear hfz6_3
    obtain ⟨kq, x18_1, rfl, HA, HJ1, BK196, HB⟩ := hcut
    cases kq with
    | zero => exact absurd HA.out (by simp [bastilleref33_Within.j0])
    | succ kj1 =>
      have H := HA.out
      clear HA
      simp only [bastilleref33_Within.j0] at H
      by_cases c7 : x18_1 = true
      · subst c7
        have H1 : (some false) = some r := by rw [if_pos rfl] at H; exact H
        clear H
        have H := H1
        clear H1
        obtain rfl := Option.some.inj H
        go_wp2
        go_ret
        exact ⟨by first | rfl | (simp [errW_none, errW_some] <;> rfl) | (simp [*, errW_none, errW_some] <;> rfl), by repeat (first | (with_reducible first | exact HB.out | apply below_alloc | apply pw_below_drewN | apply below_drew1 | refine below_set ?_ GE196.out) | exact HB.out)⟩
      · replace c7 := Bool.eq_false_iff.mpr c7
        subst c7
        have H1 : (bastilleref33_Within.l0 kj1 0 a0_0 l0_1 l0_2 l0_3) = some r := by rw [if_neg (show ¬ (false = true) by decide)] at H; exact H
        clear H
        have H := H1
        clear H1
        have H' := Aside0.mk H
        clear H
        go_wp2
        go_loopg [3] kj1 (fun kq v3 w' => ∃ (x3_2 : Int), v3 = .int .i64 x3_2 ∧ Aside0 (bastilleref33_Within.l0 kq x3_2 a0_0 l0_1 l0_2 l0_3 = some r) ∧ Aside0 (kq ≤ kj1) ∧ Aside0 (w'.heap[gb196]? = some (.cells #[.int .i64 a0_0, (.slice A0_1 l0_1.length c0_1), (.slice A0_2 l0_2.length c0_2), (.slice A0_3 l0_3.length c0_3)] 35 (0, 0))) ∧ Aside0 (Below w.heap.size w w'))
        case atStart => exact ⟨(0), (by first | rfl | (simp; done) | (simp [*]; done)), H', ⟨Nat.le_refl _⟩, ⟨by (with_reducible repeat (first | refine blk_drewN ?_ _ | refine blk_drew ?_ | refine blk_alloc ?_ _)); exact BK196.out⟩, ⟨by repeat (first | (with_reducible first | exact HB.out | apply below_alloc | apply pw_below_drewN | apply below_drew1 | refine below_set ?_ GE196.out) | exact HB.out)⟩⟩
        case round =>
          clear H'
          try clear p2
          try clear c3
          try clear c4
          try clear c4b0
          try clear c4b1
          try clear c7
          try clear hcz5_0
          try clear hcz5_1
          try clear hcz5_2
          try clear hcz5_3
          try clear hcz6_0
          try clear hcz6_1
          try clear hcz6_2
          try clear hcz6_3
          try clear hfz5_0
          try clear hfz5_1
          try clear hfz5_2
          try clear hfz5_3
          try clear hfz6_0
          try clear hfz6_1
          try clear hfz6_2
          try clear hfz6_3
          try clear p2
          obtain ⟨x3_2, rfl, HA, HK2, BK196, HB⟩ := hrel
          cases gk with
          | zero => exact absurd HA.out (by simp [bastilleref33_Within.l0])
          | succ k2 =>
            have H := HA.out
            clear HA
            simp only [bastilleref33_Within.l0] at H
            by_cases c8 : x3_2 < (l0_3.length : Int)
            · rw [if_pos c8] at H
              have c8b0 : decide (x3_2 < (l0_3.length : Int)) = true := decide_eq_true c8
              clear c8
              by_cases c9 : 0 ≤ x3_2
              · rw [if_pos c9] at H
                have c9b0 : decide (0 ≤ x3_2) = true := decide_eq_true c9
                clear c9
                have HC10 := Aside0.mk H
                clear H
                have hcz11_0 : wr.cell? ⟨gb196, 0, none⟩ = some (.int .i64 a0_0) := (blk_cell BK196.out 0).trans rfl
                have hcz11_1 : wr.cell? ⟨gb196, 1, none⟩ = some (.slice A0_1 l0_1.length c0_1) := (blk_cell BK196.out 1).trans rfl
                have hcz11_2 : wr.cell? ⟨gb196, 2, none⟩ = some (.slice A0_2 l0_2.length c0_2) := (blk_cell BK196.out 2).trans rfl
                have hcz11_3 : wr.cell? ⟨gb196, 3, none⟩ = some (.slice A0_3 l0_3.length c0_3) := (blk_cell BK196.out 3).trans rfl
                have hfz11_0 := blk_frozen BK196.out 0
                have hfz11_1 := blk_frozen BK196.out 1
                have hfz11_2 := blk_frozen BK196.out 2
                have hfz11_3 := blk_frozen BK196.out 3
                have p197 : 0 ≤ (x3_2 : Int) := of_decide_eq_true (by first | (with_reducible assumption) | assumption)
                have q197 : x3_2 < (l0_3.length : Int) := of_decide_eq_true (by first | (with_reducible assumption) | assumption)
                obtain ⟨ad197, A197_2, c197_2, A197_3, c197_3, A197_4, c197_4, A197_5, c197_5, A197_6, c197_6, e197, hx197_0, hx197_1, hx197_2, hx197_3, hx197_4, hx197_5, hx197_6, hl197_2, hi197_2, hl197_3, hi197_3, hl197_4, hi197_4, hl197_5, hi197_5, hl197_6, hi197_6⟩ := at_T45 HR0_3.out x3_2 p197 q197
                cases e197
                replace hx197_0 := (HB.out.cell (World.block_lt_of_cell? w _ hx197_0)).trans hx197_0
                replace hx197_1 := (HB.out.cell (World.block_lt_of_cell? w _ hx197_1)).trans hx197_1
                replace hx197_2 := (HB.out.cell (World.block_lt_of_cell? w _ hx197_2)).trans hx197_2
                replace hx197_3 := (HB.out.cell (World.block_lt_of_cell? w _ hx197_3)).trans hx197_3
                replace hx197_4 := (HB.out.cell (World.block_lt_of_cell? w _ hx197_4)).trans hx197_4
                replace hx197_5 := (HB.out.cell (World.block_lt_of_cell? w _ hx197_5)).trans hx197_5
                replace hx197_6 := (HB.out.cell (World.block_lt_of_cell? w _ hx197_6)).trans hx197_6
                have HR197_2 := Aside0.mk hi197_2
                have HC197_2 := Aside0.mk hl197_2
                clear hi197_2 hl197_2
                have HR197_3 := Aside0.mk hi197_3
                have HC197_3 := Aside0.mk hl197_3
                clear hi197_3 hl197_3
                have HR197_4 := Aside0.mk hi197_4
                have HC197_4 := Aside0.mk hl197_4
                clear hi197_4 hl197_4
                have HR197_5 := Aside0.mk hi197_5
                have HC197_5 := Aside0.mk hl197_5
                clear hi197_5 hl197_5
                have HR197_6 := Aside0.mk hi197_6
                have HC197_6 := Aside0.mk hl197_6
                clear hi197_6 hl197_6
                replace p197 := eq_true p197
                replace q197 := eq_true q197
                go_upto_region 7 with (first | ((with_reducible refine gate_dst (N := 4) rfl ?_); (try (refine gate_guard (by rfl) ?_; dsimp only)); refine box_event ?hg (N := 4) ?hd (cs := #[.string (⟨#[]⟩ : ByteArray), .int .i64 0, .slice none 0 0, .slice none 0 0, .slice none 0 0, .slice none 0 0, .slice none 0 0]) (t := 45) ?hr ?_; (case hd => rfl); (case hg => rfl); (case hr => first | (go_simp; done) | (go_simp; rfl)); intro gb198 hg w12 hbox hb; have n0_ := Aside0.mk (blk_below (g := gb196) (o := .cells #[.int .i64 a0_0, .slice A0_1 l0_1.length c0_1, .slice A0_2 l0_2.length c0_2, .slice (some ad197) l0_3.length c0_3] 35 (0, 0)) (by (with_reducible repeat (first | refine blk_drewN ?_ _ | refine blk_drew ?_ | refine blk_alloc ?_ _)); exact BK196.out) hb); have n1_ := Aside0.mk (below_step (by repeat (first | (with_reducible first | exact HB.out | apply below_alloc | apply pw_below_drewN | apply below_drew1 | refine below_set ?_ GE196.out) | exact HB.out)) hb); have n2_ := Aside0.mk (hbox); have n3_ := Aside0.mk ((by rw [hg]; exact (below_size (by repeat (first | (with_reducible first | exact HB.out | apply below_alloc | apply pw_below_drewN | apply below_drew1 | refine below_set ?_ GE196.out) | exact HB.out))) : w.heap.size ≤ gb198)); have n4_ := Aside0.mk ((by rw [hg]; exact (below_size (by repeat (first | (with_reducible first | exact HB.out | apply below_alloc | apply pw_below_drewN | apply below_drew1 | refine below_set ?_ GE196.out) | exact HB.out))) : w.heap.size ≤ gb198)); have n5_ := Aside0.mk ((by rw [hg]; exact Nat.ne_of_lt (blk_lt (g := gb196) (o := .cells #[.int .i64 a0_0, .slice A0_1 l0_1.length c0_1, .slice A0_2 l0_2.length c0_2, .slice (some ad197) l0_3.length c0_3] 35 (0, 0)) (by (with_reducible repeat (first | refine blk_drewN ?_ _ | refine blk_drew ?_ | refine blk_alloc ?_ _)); exact BK196.out)) : gb196 ≠ gb198)); have n6_ := Aside0.mk ((by rw [hg]; exact Nat.ne_of_gt (blk_lt (g := gb196) (o := .cells #[.int .i64 a0_0, .slice A0_1 l0_1.length c0_1, .slice A0_2 l0_2.length c0_2, .slice (some ad197) l0_3.length c0_3] 35 (0, 0)) (by (with_reducible repeat (first | refine blk_drewN ?_ _ | refine blk_drew ?_ | refine blk_alloc ?_ _)); exact BK196.out)) : gb198 ≠ gb196)); clear BK196; clear HB; have BK196 := n0_; have HB := n1_; have BK198 := n2_; have GW198 := n3_; have GE198 := n4_; have NB196_198 := n5_; have NB198_196 := n6_; clear n0_ n1_ n2_ n3_ n4_ n5_ n6_; clear hb hbox hg; have hnb13 := NB198_196.out; have hnc13 := NB196_198.out; have hcz14_0 : w12.cell? ⟨gb198, 0, none⟩ = some (.string (⟨#[]⟩ : ByteArray)) := (blk_cell BK198.out 0).trans rfl; have hcz14_1 : w12.cell? ⟨gb198, 1, none⟩ = some (.int .i64 0) := (blk_cell BK198.out 1).trans rfl; have hcz14_2 : w12.cell? ⟨gb198, 2, none⟩ = some (.slice none 0 0) := (blk_cell BK198.out 2).trans rfl; have hcz14_3 : w12.cell? ⟨gb198, 3, none⟩ = some (.slice none 0 0) := (blk_cell BK198.out 3).trans rfl; have hcz14_4 : w12.cell? ⟨gb198, 4, none⟩ = some (.slice none 0 0) := (blk_cell BK198.out 4).trans rfl; have hcz14_5 : w12.cell? ⟨gb198, 5, none⟩ = some (.slice none 0 0) := (blk_cell BK198.out 5).trans rfl; have hcz14_6 : w12.cell? ⟨gb198, 6, none⟩ = some (.slice none 0 0) := (blk_cell BK198.out 6).trans rfl; have hfz14_0 := blk_frozen BK198.out 0; have hfz14_1 := blk_frozen BK198.out 1; have hfz14_2 := blk_frozen BK198.out 2; have hfz14_3 := blk_frozen BK198.out 3; have hfz14_4 := blk_frozen BK198.out 4; have hfz14_5 := blk_frozen BK198.out 5; have hfz14_6 := blk_frozen BK198.out 6))
                (try simp only [Act.put, List.setIfInBounds_toArray, List.set_cons_zero, List.set_cons_succ])
                go_cut [46] (fun v46 wc => ∃ (kq : Nat) (x46_9 : Bool), v46 = .bool x46_9 ∧ Aside0 (bastilleref33_Within.j2 kq x3_2 x46_9 a0_0 l0_1 l0_2 l0_3 ((rd_T45 l0_3 x3_2).f0) ((rd_T45 l0_3 x3_2).f1) ((rd_T45 l0_3 x3_2).f2) ((rd_T45 l0_3 x3_2).f3) ((rd_T45 l0_3 x3_2).f4) ((rd_T45 l0_3 x3_2).f5) ((rd_T45 l0_3 x3_2).f6) = some r) ∧ Aside0 (kq ≤ k2) ∧ Aside0 (wc.heap[gb196]? = some (.cells #[.int .i64 a0_0, (.slice A0_1 l0_1.length c0_1), (.slice A0_2 l0_2.length c0_2), (.slice (some ad197) l0_3.length c0_3)] 35 (0, 0))) ∧ Aside0 (wc.heap[gb198]? = some (.cells #[.string ((rd_T45 l0_3 x3_2).f0), .int .i64 ((rd_T45 l0_3 x3_2).f1), (.slice A197_2 ((rd_T45 l0_3 x3_2).f2).length c197_2), (.slice A197_3 ((rd_T45 l0_3 x3_2).f3).length c197_3), (.slice A197_4 ((rd_T45 l0_3 x3_2).f4).length c197_4), (.slice A197_5 ((rd_T45 l0_3 x3_2).f5).length c197_5), (.slice A197_6 ((rd_T45 l0_3 x3_2).f6).length c197_6)] 45 (0, 0))) ∧ Aside0 (Below w.heap.size w wc))
                case first =>
                  have H := HC10.out
                  clear HC10
                  by_cases c15 : (((rd_T45 l0_3 x3_2).f2).length : Int) = 0
                  · rw [if_pos c15] at H
                    have c15b0 : ((((rd_T45 l0_3 x3_2).f2).length : Int) == 0) = true := beq_iff_eq.mpr c15
                    have c15b1 : ((((rd_T45 l0_3 x3_2).f2).length : Int) != 0) = false := bne_eq_false_iff_eq.mpr c15
                    clear c15
                    (first | rw [c15b0] | (simp only [i64_w, i32_w]; rw [c15b0]) | skip)
                    have H' := Aside0.mk H
                    clear H
                    have hnb16 := NB198_196.out
                    have hnc16 := NB196_198.out
                    have hcz17_0 : w12.cell? ⟨gb198, 0, none⟩ = some (.string (⟨#[]⟩ : ByteArray)) := (blk_cell BK198.out 0).trans rfl
                    have hcz17_1 : w12.cell? ⟨gb198, 1, none⟩ = some (.int .i64 0) := (blk_cell BK198.out 1).trans rfl
                    have hcz17_2 : w12.cell? ⟨gb198, 2, none⟩ = some (.slice none 0 0) := (blk_cell BK198.out 2).trans rfl
                    have hcz17_3 : w12.cell? ⟨gb198, 3, none⟩ = some (.slice none 0 0) := (blk_cell BK198.out 3).trans rfl
                    have hcz17_4 : w12.cell? ⟨gb198, 4, none⟩ = some (.slice none 0 0) := (blk_cell BK198.out 4).trans rfl
                    have hcz17_5 : w12.cell? ⟨gb198, 5, none⟩ = some (.slice none 0 0) := (blk_cell BK198.out 5).trans rfl
                    have hcz17_6 : w12.cell? ⟨gb198, 6, none⟩ = some (.slice none 0 0) := (blk_cell BK198.out 6).trans rfl
                    have hfz17_0 := blk_frozen BK198.out 0
                    have hfz17_1 := blk_frozen BK198.out 1
                    have hfz17_2 := blk_frozen BK198.out 2
                    have hfz17_3 := blk_frozen BK198.out 3
                    have hfz17_4 := blk_frozen BK198.out 4
                    have hfz17_5 := blk_frozen BK198.out 5
                    have hfz17_6 := blk_frozen BK198.out 6
                    go_wp2
                    go_meet
                    case rel => exact ⟨_, (true), (by first | rfl | (simp; done) | (simp [*]; done)), H', ⟨by have := HJ1.out; have := HK2.out; first | omega | exact Nat.le_refl _⟩, ⟨by (with_reducible repeat (first | refine blk_drewN ?_ _ | refine blk_drew ?_ | refine blk_alloc ?_ _)); refine blk_far ?_ NB196_198.out _; (with_reducible repeat (first | refine blk_drewN ?_ _ | refine blk_drew ?_ | refine blk_alloc ?_ _)); refine blk_far ?_ NB196_198.out _; (with_reducible repeat (first | refine blk_drewN ?_ _ | refine blk_drew ?_ | refine blk_alloc ?_ _)); refine blk_far ?_ NB196_198.out _; (with_reducible repeat (first | refine blk_drewN ?_ _ | refine blk_drew ?_ | refine blk_alloc ?_ _)); refine blk_far ?_ NB196_198.out _; (with_reducible repeat (first | refine blk_drewN ?_ _ | refine blk_drew ?_ | refine blk_alloc ?_ _)); refine blk_far ?_ NB196_198.out _; (with_reducible repeat (first | refine blk_drewN ?_ _ | refine blk_drew ?_ | refine blk_alloc ?_ _)); refine blk_far ?_ NB196_198.out _; (with_reducible repeat (first | refine blk_drewN ?_ _ | refine blk_drew ?_ | refine blk_alloc ?_ _)); refine blk_far ?_ NB196_198.out _; (with_reducible repeat (first | refine blk_drewN ?_ _ | refine blk_drew ?_ | refine blk_alloc ?_ _)); exact BK196.out⟩, ⟨by (with_reducible repeat (first | refine blk_drewN ?_ _ | refine blk_drew ?_ | refine blk_alloc ?_ _)); refine blk_put (cs := #[.string ((rd_T45 l0_3 x3_2).f0), .int .i64 ((rd_T45 l0_3 x3_2).f1), .slice A197_2 ((rd_T45 l0_3 x3_2).f2).length c197_2, .slice A197_3 ((rd_T45 l0_3 x3_2).f3).length c197_3, .slice A197_4 ((rd_T45 l0_3 x3_2).f4).length c197_4, .slice A197_5 ((rd_T45 l0_3 x3_2).f5).length c197_5, .slice none 0 0]) ?_ 6 _ rfl; (with_reducible repeat (first | refine blk_drewN ?_ _ | refine blk_drew ?_ | refine blk_alloc ?_ _)); refine blk_put (cs := #[.string ((rd_T45 l0_3 x3_2).f0), .int .i64 ((rd_T45 l0_3 x3_2).f1), .slice A197_2 ((rd_T45 l0_3 x3_2).f2).length c197_2, .slice A197_3 ((rd_T45 l0_3 x3_2).f3).length c197_3, .slice A197_4 ((rd_T45 l0_3 x3_2).f4).length c197_4, .slice none 0 0, .slice none 0 0]) ?_ 5 _ rfl; (with_reducible repeat (first | refine blk_drewN ?_ _ | refine blk_drew ?_ | refine blk_alloc ?_ _)); refine blk_put (cs := #[.string ((rd_T45 l0_3 x3_2).f0), .int .i64 ((rd_T45 l0_3 x3_2).f1), .slice A197_2 ((rd_T45 l0_3 x3_2).f2).length c197_2, .slice A197_3 ((rd_T45 l0_3 x3_2).f3).length c197_3, .slice none 0 0, .slice none 0 0, .slice none 0 0]) ?_ 4 _ rfl; (with_reducible repeat (first | refine blk_drewN ?_ _ | refine blk_drew ?_ | refine blk_alloc ?_ _)); refine blk_put (cs := #[.string ((rd_T45 l0_3 x3_2).f0), .int .i64 ((rd_T45 l0_3 x3_2).f1), .slice A197_2 ((rd_T45 l0_3 x3_2).f2).length c197_2, .slice none 0 0, .slice none 0 0, .slice none 0 0, .slice none 0 0]) ?_ 3 _ rfl; (with_reducible repeat (first | refine blk_drewN ?_ _ | refine blk_drew ?_ | refine blk_alloc ?_ _)); refine blk_put (cs := #[.string ((rd_T45 l0_3 x3_2).f0), .int .i64 ((rd_T45 l0_3 x3_2).f1), .slice none 0 0, .slice none 0 0, .slice none 0 0, .slice none 0 0, .slice none 0 0]) ?_ 2 _ rfl; (with_reducible repeat (first | refine blk_drewN ?_ _ | refine blk_drew ?_ | refine blk_alloc ?_ _)); refine blk_put (cs := #[.string ((rd_T45 l0_3 x3_2).f0), .int .i64 0, .slice none 0 0, .slice none 0 0, .slice none 0 0, .slice none 0 0, .slice none 0 0]) ?_ 1 _ rfl; (with_reducible repeat (first | refine blk_drewN ?_ _ | refine blk_drew ?_ | refine blk_alloc ?_ _)); refine blk_put (cs := #[.string (⟨#[]⟩ : ByteArray), .int .i64 0, .slice none 0 0, .slice none 0 0, .slice none 0 0, .slice none 0 0, .slice none 0 0]) ?_ 0 _ rfl; (with_reducible repeat (first | refine blk_drewN ?_ _ | refine blk_drew ?_ | refine blk_alloc ?_ _)); exact BK198.out⟩, ⟨by repeat (first | (with_reducible first | exact HB.out | apply below_alloc | apply pw_below_drewN | apply below_drew1 | refine below_set ?_ GE196.out | refine below_set ?_ GE198.out) | exact HB.out)⟩⟩
                  · rw [if_neg c15] at H
                    have c15b0 : ((((rd_T45 l0_3 x3_2).f2).length : Int) == 0) = false := beq_eq_false_iff_ne.mpr c15
                    have c15b1 : ((((rd_T45 l0_3 x3_2).f2).length : Int) != 0) = true := bne_iff_ne.mpr c15
                    have c15b2 : ¬ (((rd_T45 l0_3 x3_2).f2) = []) := fun h_ => c15 (by rw [h_]; rfl)
                    (first | rw [c15b0] | (simp only [i64_w, i32_w]; rw [c15b0]) | skip)
                    by_cases c18 : (((rd_T45 l0_3 x3_2).f3).length : Int) = 0
                    · rw [if_pos c18] at H
                      have c18b0 : ((((rd_T45 l0_3 x3_2).f3).length : Int) == 0) = true := beq_iff_eq.mpr c18
                      have c18b1 : ((((rd_T45 l0_3 x3_2).f3).length : Int) != 0) = false := bne_eq_false_iff_eq.mpr c18
                      clear c18
                      have H' := Aside0.mk H
                      clear H
                      have hnb19 := NB198_196.out
                      have hnc19 := NB196_198.out
                      have hcz20_0 : w12.cell? ⟨gb198, 0, none⟩ = some (.string (⟨#[]⟩ : ByteArray)) := (blk_cell BK198.out 0).trans rfl
                      have hcz20_1 : w12.cell? ⟨gb198, 1, none⟩ = some (.int .i64 0) := (blk_cell BK198.out 1).trans rfl
                      have hcz20_2 : w12.cell? ⟨gb198, 2, none⟩ = some (.slice none 0 0) := (blk_cell BK198.out 2).trans rfl
                      have hcz20_3 : w12.cell? ⟨gb198, 3, none⟩ = some (.slice none 0 0) := (blk_cell BK198.out 3).trans rfl
                      have hcz20_4 : w12.cell? ⟨gb198, 4, none⟩ = some (.slice none 0 0) := (blk_cell BK198.out 4).trans rfl
                      have hcz20_5 : w12.cell? ⟨gb198, 5, none⟩ = some (.slice none 0 0) := (blk_cell BK198.out 5).trans rfl
                      have hcz20_6 : w12.cell? ⟨gb198, 6, none⟩ = some (.slice none 0 0) := (blk_cell BK198.out 6).trans rfl
                      have hfz20_0 := blk_frozen BK198.out 0
                      have hfz20_1 := blk_frozen BK198.out 1
                      have hfz20_2 := blk_frozen BK198.out 2
                      have hfz20_3 := blk_frozen BK198.out 3
                      have hfz20_4 := blk_frozen BK198.out 4
                      have hfz20_5 := blk_frozen BK198.out 5
                      have hfz20_6 := blk_frozen BK198.out 6
                      go_wp2
                      go_meet
                      case rel => exact ⟨_, (true), (by first | rfl | (simp; done) | (simp [*]; done)), H', ⟨by have := HJ1.out; have := HK2.out; first | omega | exact Nat.le_refl _⟩, ⟨by (with_reducible repeat (first | refine blk_drewN ?_ _ | refine blk_drew ?_ | refine blk_alloc ?_ _)); refine blk_far ?_ NB196_198.out _; (with_reducible repeat (first | refine blk_drewN ?_ _ | refine blk_drew ?_ | refine blk_alloc ?_ _)); refine blk_far ?_ NB196_198.out _; (with_reducible repeat (first | refine blk_drewN ?_ _ | refine blk_drew ?_ | refine blk_alloc ?_ _)); refine blk_far ?_ NB196_198.out _; (with_reducible repeat (first | refine blk_drewN ?_ _ | refine blk_drew ?_ | refine blk_alloc ?_ _)); refine blk_far ?_ NB196_198.out _; (with_reducible repeat (first | refine blk_drewN ?_ _ | refine blk_drew ?_ | refine blk_alloc ?_ _)); refine blk_far ?_ NB196_198.out _; (with_reducible repeat (first | refine blk_drewN ?_ _ | refine blk_drew ?_ | refine blk_alloc ?_ _)); refine blk_far ?_ NB196_198.out _; (with_reducible repeat (first | refine blk_drewN ?_ _ | refine blk_drew ?_ | refine blk_alloc ?_ _)); refine blk_far ?_ NB196_198.out _; (with_reducible repeat (first | refine blk_drewN ?_ _ | refine blk_drew ?_ | refine blk_alloc ?_ _)); exact BK196.out⟩, ⟨by (with_reducible repeat (first | refine blk_drewN ?_ _ | refine blk_drew ?_ | refine blk_alloc ?_ _)); refine blk_put (cs := #[.string ((rd_T45 l0_3 x3_2).f0), .int .i64 ((rd_T45 l0_3 x3_2).f1), .slice A197_2 ((rd_T45 l0_3 x3_2).f2).length c197_2, .slice A197_3 ((rd_T45 l0_3 x3_2).f3).length c197_3, .slice A197_4 ((rd_T45 l0_3 x3_2).f4).length c197_4, .slice A197_5 ((rd_T45 l0_3 x3_2).f5).length c197_5, .slice none 0 0]) ?_ 6 _ rfl; (with_reducible repeat (first | refine blk_drewN ?_ _ | refine blk_drew ?_ | refine blk_alloc ?_ _)); refine blk_put (cs := #[.string ((rd_T45 l0_3 x3_2).f0), .int .i64 ((rd_T45 l0_3 x3_2).f1), .slice A197_2 ((rd_T45 l0_3 x3_2).f2).length c197_2, .slice A197_3 ((rd_T45 l0_3 x3_2).f3).length c197_3, .slice A197_4 ((rd_T45 l0_3 x3_2).f4).length c197_4, .slice none 0 0, .slice none 0 0]) ?_ 5 _ rfl; (with_reducible repeat (first | refine blk_drewN ?_ _ | refine blk_drew ?_ | refine blk_alloc ?_ _)); refine blk_put (cs := #[.string ((rd_T45 l0_3 x3_2).f0), .int .i64 ((rd_T45 l0_3 x3_2).f1), .slice A197_2 ((rd_T45 l0_3 x3_2).f2).length c197_2, .slice A197_3 ((rd_T45 l0_3 x3_2).f3).length c197_3, .slice none 0 0, .slice none 0 0, .slice none 0 0]) ?_ 4 _ rfl; (with_reducible repeat (first | refine blk_drewN ?_ _ | refine blk_drew ?_ | refine blk_alloc ?_ _)); refine blk_put (cs := #[.string ((rd_T45 l0_3 x3_2).f0), .int .i64 ((rd_T45 l0_3 x3_2).f1), .slice A197_2 ((rd_T45 l0_3 x3_2).f2).length c197_2, .slice none 0 0, .slice none 0 0, .slice none 0 0, .slice none 0 0]) ?_ 3 _ rfl; (with_reducible repeat (first | refine blk_drewN ?_ _ | refine blk_drew ?_ | refine blk_alloc ?_ _)); refine blk_put (cs := #[.string ((rd_T45 l0_3 x3_2).f0), .int .i64 ((rd_T45 l0_3 x3_2).f1), .slice none 0 0, .slice none 0 0, .slice none 0 0, .slice none 0 0, .slice none 0 0]) ?_ 2 _ rfl; (with_reducible repeat (first | refine blk_drewN ?_ _ | refine blk_drew ?_ | refine blk_alloc ?_ _)); refine blk_put (cs := #[.string ((rd_T45 l0_3 x3_2).f0), .int .i64 0, .slice none 0 0, .slice none 0 0, .slice none 0 0, .slice none 0 0, .slice none 0 0]) ?_ 1 _ rfl; (with_reducible repeat (first | refine blk_drewN ?_ _ | refine blk_drew ?_ | refine blk_alloc ?_ _)); refine blk_put (cs := #[.string (⟨#[]⟩ : ByteArray), .int .i64 0, .slice none 0 0, .slice none 0 0, .slice none 0 0, .slice none 0 0, .slice none 0 0]) ?_ 0 _ rfl; (with_reducible repeat (first | refine blk_drewN ?_ _ | refine blk_drew ?_ | refine blk_alloc ?_ _)); exact BK198.out⟩, ⟨by repeat (first | (with_reducible first | exact HB.out | apply below_alloc | apply pw_below_drewN | apply below_drew1 | refine below_set ?_ GE196.out | refine below_set ?_ GE198.out) | exact HB.out)⟩⟩
                    · rw [if_neg c18] at H
                      have c18b0 : ((((rd_T45 l0_3 x3_2).f3).length : Int) == 0) = false := beq_eq_false_iff_ne.mpr c18
                      have c18b1 : ((((rd_T45 l0_3 x3_2).f3).length : Int) != 0) = true := bne_iff_ne.mpr c18
                      have c18b2 : ¬ (((rd_T45 l0_3 x3_2).f3) = []) := fun h_ => c18 (by rw [h_]; rfl)
                      have H' := Aside0.mk H
                      clear H
                      have hnb21 := NB198_196.out
                      have hnc21 := NB196_198.out
                      have hcz22_0 : w12.cell? ⟨gb198, 0, none⟩ = some (.string (⟨#[]⟩ : ByteArray)) := (blk_cell BK198.out 0).trans rfl
                      have hcz22_1 : w12.cell? ⟨gb198, 1, none⟩ = some (.int .i64 0) := (blk_cell BK198.out 1).trans rfl
                      have hcz22_2 : w12.cell? ⟨gb198, 2, none⟩ = some (.slice none 0 0) := (blk_cell BK198.out 2).trans rfl
                      have hcz22_3 : w12.cell? ⟨gb198, 3, none⟩ = some (.slice none 0 0) := (blk_cell BK198.out 3).trans rfl
                      have hcz22_4 : w12.cell? ⟨gb198, 4, none⟩ = some (.slice none 0 0) := (blk_cell BK198.out 4).trans rfl
                      have hcz22_5 : w12.cell? ⟨gb198, 5, none⟩ = some (.slice none 0 0) := (blk_cell BK198.out 5).trans rfl
                      have hcz22_6 : w12.cell? ⟨gb198, 6, none⟩ = some (.slice none 0 0) := (blk_cell BK198.out 6).trans rfl
                      have hfz22_0 := blk_frozen BK198.out 0
                      have hfz22_1 := blk_frozen BK198.out 1
                      have hfz22_2 := blk_frozen BK198.out 2
                      have hfz22_3 := blk_frozen BK198.out 3
                      have hfz22_4 := blk_frozen BK198.out 4
                      have hfz22_5 := blk_frozen BK198.out 5
                      have hfz22_6 := blk_frozen BK198.out 6
                      go_wp2
                      go_meet
                      case rel => exact ⟨_, (decide ((((rd_T45 l0_3 x3_2).f4).length : Int) > 32)), (by first | rfl | (simp; done) | (simp [*]; done)), H', ⟨by have := HJ1.out; have := HK2.out; first | omega | exact Nat.le_refl _⟩, ⟨by (with_reducible repeat (first | refine blk_drewN ?_ _ | refine blk_drew ?_ | refine blk_alloc ?_ _)); refine blk_far ?_ NB196_198.out _; (with_reducible repeat (first | refine blk_drewN ?_ _ | refine blk_drew ?_ | refine blk_alloc ?_ _)); refine blk_far ?_ NB196_198.out _; (with_reducible repeat (first | refine blk_drewN ?_ _ | refine blk_drew ?_ | refine blk_alloc ?_ _)); refine blk_far ?_ NB196_198.out _; (with_reducible repeat (first | refine blk_drewN ?_ _ | refine blk_drew ?_ | refine blk_alloc ?_ _)); refine blk_far ?_ NB196_198.out _; (with_reducible repeat (first | refine blk_drewN ?_ _ | refine blk_drew ?_ | refine blk_alloc ?_ _)); refine blk_far ?_ NB196_198.out _; (with_reducible repeat (first | refine blk_drewN ?_ _ | refine blk_drew ?_ | refine blk_alloc ?_ _)); refine blk_far ?_ NB196_198.out _; (with_reducible repeat (first | refine blk_drewN ?_ _ | refine blk_drew ?_ | refine blk_alloc ?_ _)); refine blk_far ?_ NB196_198.out _; (with_reducible repeat (first | refine blk_drewN ?_ _ | refine blk_drew ?_ | refine blk_alloc ?_ _)); exact BK196.out⟩, ⟨by (with_reducible repeat (first | refine blk_drewN ?_ _ | refine blk_drew ?_ | refine blk_alloc ?_ _)); refine blk_put (cs := #[.string ((rd_T45 l0_3 x3_2).f0), .int .i64 ((rd_T45 l0_3 x3_2).f1), .slice A197_2 ((rd_T45 l0_3 x3_2).f2).length c197_2, .slice A197_3 ((rd_T45 l0_3 x3_2).f3).length c197_3, .slice A197_4 ((rd_T45 l0_3 x3_2).f4).length c197_4, .slice A197_5 ((rd_T45 l0_3 x3_2).f5).length c197_5, .slice none 0 0]) ?_ 6 _ rfl; (with_reducible repeat (first | refine blk_drewN ?_ _ | refine blk_drew ?_ | refine blk_alloc ?_ _)); refine blk_put (cs := #[.string ((rd_T45 l0_3 x3_2).f0), .int .i64 ((rd_T45 l0_3 x3_2).f1), .slice A197_2 ((rd_T45 l0_3 x3_2).f2).length c197_2, .slice A197_3 ((rd_T45 l0_3 x3_2).f3).length c197_3, .slice A197_4 ((rd_T45 l0_3 x3_2).f4).length c197_4, .slice none 0 0, .slice none 0 0]) ?_ 5 _ rfl; (with_reducible repeat (first | refine blk_drewN ?_ _ | refine blk_drew ?_ | refine blk_alloc ?_ _)); refine blk_put (cs := #[.string ((rd_T45 l0_3 x3_2).f0), .int .i64 ((rd_T45 l0_3 x3_2).f1), .slice A197_2 ((rd_T45 l0_3 x3_2).f2).length c197_2, .slice A197_3 ((rd_T45 l0_3 x3_2).f3).length c197_3, .slice none 0 0, .slice none 0 0, .slice none 0 0]) ?_ 4 _ rfl; (with_reducible repeat (first | refine blk_drewN ?_ _ | refine blk_drew ?_ | refine blk_alloc ?_ _)); refine blk_put (cs := #[.string ((rd_T45 l0_3 x3_2).f0), .int .i64 ((rd_T45 l0_3 x3_2).f1), .slice A197_2 ((rd_T45 l0_3 x3_2).f2).length c197_2, .slice none 0 0, .slice none 0 0, .slice none 0 0, .slice none 0 0]) ?_ 3 _ rfl; (with_reducible repeat (first | refine blk_drewN ?_ _ | refine blk_drew ?_ | refine blk_alloc ?_ _)); refine blk_put (cs := #[.string ((rd_T45 l0_3 x3_2).f0), .int .i64 ((rd_T45 l0_3 x3_2).f1), .slice none 0 0, .slice none 0 0, .slice none 0 0, .slice none 0 0, .slice none 0 0]) ?_ 2 _ rfl; (with_reducible repeat (first | refine blk_drewN ?_ _ | refine blk_drew ?_ | refine blk_alloc ?_ _)); refine blk_put (cs := #[.string ((rd_T45 l0_3 x3_2).f0), .int .i64 0, .slice none 0 0, .slice none 0 0, .slice none 0 0, .slice none 0 0, .slice none 0 0]) ?_ 1 _ rfl; (with_reducible repeat (first | refine blk_drewN ?_ _ | refine blk_drew ?_ | refine blk_alloc ?_ _)); refine blk_put (cs := #[.string (⟨#[]⟩ : ByteArray), .int .i64 0, .slice none 0 0, .slice none 0 0, .slice none 0 0, .slice none 0 0, .slice none 0 0]) ?_ 0 _ rfl; (with_reducible repeat (first | refine blk_drewN ?_ _ | refine blk_drew ?_ | refine blk_alloc ?_ _)); exact BK198.out⟩, ⟨by repeat (first | (with_reducible first | exact HB.out | apply below_alloc | apply pw_below_drewN | apply below_drew1 | refine below_set ?_ GE196.out | refine below_set ?_ GE198.out) | exact HB.out)⟩⟩
                case rest =>
                  clear HC10
                  try clear c1
                  try clear p1
                  try clear q1
                  try clear hx1
                  try clear c2
                  try clear p2
                  try clear c3
                  try clear c4
                  try clear c4b0
                  try clear c4b1
                  try clear c7
                  try clear c8
                  try clear c8b0
                  try clear c9
                  try clear c9b0
                  try clear c13
                  try clear c15
                  try clear c15b0
                  try clear c15b1
                  try clear c15b2
                  try clear c16
                  try clear c18
                  try clear c18b0
                  try clear c18b1
                  try clear c18b2
                  try clear c19
                  try clear p19
                  try clear q19
                  try clear hx19
                  try clear c21
                  try clear hcz11_0
                  try clear hcz11_1
                  try clear hcz11_2
                  try clear hcz11_3
                  try clear hcz14_0
                  try clear hcz14_1
                  try clear hcz14_2
                  try clear hcz14_3
                  try clear hcz14_4
                  try clear hcz14_5
                  try clear hcz14_6
                  try clear hcz17_0
                  try clear hcz17_1
                  try clear hcz17_2
                  try clear hcz17_3
                  try clear hcz17_4
                  try clear hcz17_5
                  try clear hcz17_6
                  try clear hcz20_0
                  try clear hcz20_1
                  try clear hcz20_2
                  try clear hcz20_3
                  try clear hcz20_4
                  try clear hcz20_5
                  try clear hcz20_6
                  try clear hcz22_0
                  try clear hcz22_1
                  try clear hcz22_2
                  try clear hcz22_3
                  try clear hcz22_4
                  try clear hcz22_5
                  try clear hcz22_6
                  try clear hcz5_0
                  try clear hcz5_1
                  try clear hcz5_2
                  try clear hcz5_3
                  try clear hcz6_0
                  try clear hcz6_1
                  try clear hcz6_2
                  try clear hcz6_3
                  try clear hfz11_0
                  try clear hfz11_1
                  try clear hfz11_2
                  try clear hfz11_3
                  try clear hfz14_0
                  try clear hfz14_1
                  try clear hfz14_2
                  try clear hfz14_3
                  try clear hfz14_4
                  try clear hfz14_5
                  try clear hfz14_6
                  try clear hfz17_0
                  try clear hfz17_1
                  try clear hfz17_2
                  try clear hfz17_3
                  try clear hfz17_4
                  try clear hfz17_5
                  try clear hfz17_6
                  try clear hfz20_0
                  try clear hfz20_1
                  try clear hfz20_2
                  try clear hfz20_3
                  try clear hfz20_4
                  try clear hfz20_5
                  try clear hfz20_6
                  try clear hfz22_0
                  try clear hfz22_1
                  try clear hfz22_2
                  try clear hfz22_3
                  try clear hfz22_4
                  try clear hfz22_5
                  try clear hfz22_6
                  try clear hfz5_0
                  try clear hfz5_1
                  try clear hfz5_2
                  try clear hfz5_3
                  try clear hfz6_0
                  try clear hfz6_1
                  try clear hfz6_2
                  try clear hfz6_3
                  try clear hx197_0
                  try clear hx197_1
                  try clear hx197_2
                  try clear hx197_3
                  try clear hx197_4
                  try clear hx197_5
                  try clear hx197_6
                  try clear p197
                  try clear p2
                  try clear q197
                  obtain ⟨kq, x46_9, rfl, HA, HJ9, BK196, BK198, HB⟩ := hcut
                  cases kq with
                  | zero => exact absurd HA.out (by simp [bastilleref33_Within.j2])
                  | succ kj9 =>
                    have H := HA.out
                    clear HA
                    simp only [bastilleref33_Within.j2] at H
                    by_cases c23 : x46_9 = true
                    · subst c23
                      have H1 : (some false) = some r := by rw [if_pos rfl] at H; exact H
                      clear H
                      have H := H1
                      clear H1
                      obtain rfl := Option.some.inj H
                      go_wp2
                      go_ret
                      exact ⟨by first | rfl | (simp [errW_none, errW_some] <;> rfl) | (simp [*, errW_none, errW_some] <;> rfl), by repeat (first | (with_reducible first | exact HB.out | apply below_alloc | apply pw_below_drewN | apply below_drew1 | refine below_set ?_ GE196.out | refine below_set ?_ GE198.out) | exact HB.out)⟩
                    · replace c23 := Bool.eq_false_iff.mpr c23
                      subst c23
                      have H1 : (bastilleref33_Within.l1 kj9 x3_2 0 a0_0 l0_1 l0_2 l0_3 ((rd_T45 l0_3 x3_2).f0) ((rd_T45 l0_3 x3_2).f1) ((rd_T45 l0_3 x3_2).f2) ((rd_T45 l0_3 x3_2).f3) ((rd_T45 l0_3 x3_2).f4) ((rd_T45 l0_3 x3_2).f5) ((rd_T45 l0_3 x3_2).f6)) = some r := by rw [if_neg (show ¬ (false = true) by decide)] at H; exact H
                      clear H
                      have H := H1
                      clear H1
                      have H' := Aside0.mk H
                      clear H
                      go_wp2
                      go_loopg [5] kj9 (fun kq v5 w' => ∃ (x5_4 : Int), v5 = .int .i64 x5_4 ∧ Aside0 (bastilleref33_Within.l1 kq x3_2 x5_4 a0_0 l0_1 l0_2 l0_3 ((rd_T45 l0_3 x3_2).f0) ((rd_T45 l0_3 x3_2).f1) ((rd_T45 l0_3 x3_2).f2) ((rd_T45 l0_3 x3_2).f3) ((rd_T45 l0_3 x3_2).f4) ((rd_T45 l0_3 x3_2).f5) ((rd_T45 l0_3 x3_2).f6) = some r) ∧ Aside0 (kq ≤ kj9) ∧ Aside0 (w'.heap[gb196]? = some (.cells #[.int .i64 a0_0, (.slice A0_1 l0_1.length c0_1), (.slice A0_2 l0_2.length c0_2), (.slice (some ad197) l0_3.length c0_3)] 35 (0, 0))) ∧ Aside0 (w'.heap[gb198]? = some (.cells #[.string ((rd_T45 l0_3 x3_2).f0), .int .i64 ((rd_T45 l0_3 x3_2).f1), (.slice A197_2 ((rd_T45 l0_3 x3_2).f2).length c197_2), (.slice A197_3 ((rd_T45 l0_3 x3_2).f3).length c197_3), (.slice A197_4 ((rd_T45 l0_3 x3_2).f4).length c197_4), (.slice A197_5 ((rd_T45 l0_3 x3_2).f5).length c197_5), (.slice A197_6 ((rd_T45 l0_3 x3_2).f6).length c197_6)] 45 (0, 0))) ∧ Aside0 (Below w.heap.size w w'))
                      case atStart => exact ⟨(0), (by first | rfl | (simp; done) | (simp [*]; done)), H', ⟨Nat.le_refl _⟩, ⟨by (with_reducible repeat (first | refine blk_drewN ?_ _ | refine blk_drew ?_ | refine blk_alloc ?_ _)); exact BK196.out⟩, ⟨by (with_reducible repeat (first | refine blk_drewN ?_ _ | refine blk_drew ?_ | refine blk_alloc ?_ _)); exact BK198.out⟩, ⟨by repeat (first | (with_reducible first | exact HB.out | apply below_alloc | apply pw_below_drewN | apply below_drew1 | refine below_set ?_ GE196.out | refine below_set ?_ GE198.out) | exact HB.out)⟩⟩
                      case round =>
                        clear H'
                        try clear c1
                        try clear p1
                        try clear q1
                        try clear hx1
                        try clear c2
                        try clear p2
                        try clear c3
                        try clear c4
                        try clear c4b0
                        try clear c4b1
                        try clear c7
                        try clear c8
                        try clear c8b0
                        try clear c9
                        try clear c9b0
                        try clear c13
                        try clear c15
                        try clear c15b0
                        try clear c15b1
                        try clear c15b2
                        try clear c16
                        try clear c18
                        try clear c18b0
                        try clear c18b1
                        try clear c18b2
                        try clear c19
                        try clear p19
                        try clear q19
                        try clear hx19
                        try clear c21
                        try clear c23
                        try clear hcz11_0
                        try clear hcz11_1
                        try clear hcz11_2
                        try clear hcz11_3
                        try clear hcz14_0
                        try clear hcz14_1
                        try clear hcz14_2
                        try clear hcz14_3
                        try clear hcz14_4
                        try clear hcz14_5
                        try clear hcz14_6
                        try clear hcz17_0
                        try clear hcz17_1
                        try clear hcz17_2
                        try clear hcz17_3
                        try clear hcz17_4
                        try clear hcz17_5
                        try clear hcz17_6
                        try clear hcz20_0
                        try clear hcz20_1
                        try clear hcz20_2
                        try clear hcz20_3
                        try clear hcz20_4
                        try clear hcz20_5
                        try clear hcz20_6
                        try clear hcz22_0
                        try clear hcz22_1
                        try clear hcz22_2
                        try clear hcz22_3
                        try clear hcz22_4
                        try clear hcz22_5
                        try clear hcz22_6
                        try clear hcz5_0
                        try clear hcz5_1
                        try clear hcz5_2
                        try clear hcz5_3
                        try clear hcz6_0
                        try clear hcz6_1
                        try clear hcz6_2
                        try clear hcz6_3
                        try clear hfz11_0
                        try clear hfz11_1
                        try clear hfz11_2
                        try clear hfz11_3
                        try clear hfz14_0
                        try clear hfz14_1
                        try clear hfz14_2
                        try clear hfz14_3
                        try clear hfz14_4
                        try clear hfz14_5
                        try clear hfz14_6
                        try clear hfz17_0
                        try clear hfz17_1
                        try clear hfz17_2
                        try clear hfz17_3
                        try clear hfz17_4
                        try clear hfz17_5
                        try clear hfz17_6
                        try clear hfz20_0
                        try clear hfz20_1
                        try clear hfz20_2
                        try clear hfz20_3
                        try clear hfz20_4
                        try clear hfz20_5
                        try clear hfz20_6
                        try clear hfz22_0
                        try clear hfz22_1
                        try clear hfz22_2
                        try clear hfz22_3
                        try clear hfz22_4
                        try clear hfz22_5
                        try clear hfz22_6
                        try clear hfz5_0
                        try clear hfz5_1
                        try clear hfz5_2
                        try clear hfz5_3
                        try clear hfz6_0
                        try clear hfz6_1
                        try clear hfz6_2
                        try clear hfz6_3
                        try clear hx197_0
                        try clear hx197_1
                        try clear hx197_2
                        try clear hx197_3
                        try clear hx197_4
                        try clear hx197_5
                        try clear hx197_6
                        try clear p1
                        try clear p19
                        try clear p197
                        try clear p2
                        try clear q1
                        try clear q19
                        try clear q197
                        obtain ⟨x5_4, rfl, HA, HK4, BK196, BK198, HB⟩ := hrel
                        cases gk with
                        | zero => exact absurd HA.out (by simp [bastilleref33_Within.l1])
                        | succ k4 =>
                          have H := HA.out
                          clear HA
                          simp only [bastilleref33_Within.l1] at H
                          by_cases c24 : x5_4 < (((rd_T45 l0_3 x3_2).f2).length : Int)
                          · rw [if_pos c24] at H
                            have c24b0 : decide (x5_4 < (((rd_T45 l0_3 x3_2).f2).length : Int)) = true := decide_eq_true c24
                            clear c24
                            by_cases c25 : 0 ≤ x5_4
                            · rw [if_pos c25] at H
                              have c25b0 : decide (0 ≤ x5_4) = true := decide_eq_true c25
                              clear c25
                              by_cases c26 : (((rd_T113 ((rd_T45 l0_3 x3_2).f2) x5_4).f4).length : Int) > 8
                              · rw [if_pos c26] at H
                                have c26b0 : decide (8 < (((rd_T113 ((rd_T45 l0_3 x3_2).f2) x5_4).f4).length : Int)) = true := decide_eq_true c26
                                have c26b1 : decide (8 < ((rd_T113 ((rd_T45 l0_3 x3_2).f2) x5_4).f4).length) = true := decide_eq_true (by omega)
                                clear c26
                                obtain rfl := Option.some.inj H
                                have hnb27 := NB198_196.out
                                have hnc27 := NB196_198.out
                                have hcz28_0 : wr.cell? ⟨gb198, 0, none⟩ = some (.string ((rd_T45 l0_3 x3_2).f0)) := (blk_cell BK198.out 0).trans rfl
                                have hcz28_1 : wr.cell? ⟨gb198, 1, none⟩ = some (.int .i64 ((rd_T45 l0_3 x3_2).f1)) := (blk_cell BK198.out 1).trans rfl
                                have hcz28_2 : wr.cell? ⟨gb198, 2, none⟩ = some (.slice A197_2 ((rd_T45 l0_3 x3_2).f2).length c197_2) := (blk_cell BK198.out 2).trans rfl
                                have hcz28_3 : wr.cell? ⟨gb198, 3, none⟩ = some (.slice A197_3 ((rd_T45 l0_3 x3_2).f3).length c197_3) := (blk_cell BK198.out 3).trans rfl
                                have hcz28_4 : wr.cell? ⟨gb198, 4, none⟩ = some (.slice A197_4 ((rd_T45 l0_3 x3_2).f4).length c197_4) := (blk_cell BK198.out 4).trans rfl
                                have hcz28_5 : wr.cell? ⟨gb198, 5, none⟩ = some (.slice A197_5 ((rd_T45 l0_3 x3_2).f5).length c197_5) := (blk_cell BK198.out 5).trans rfl
                                have hcz28_6 : wr.cell? ⟨gb198, 6, none⟩ = some (.slice A197_6 ((rd_T45 l0_3 x3_2).f6).length c197_6) := (blk_cell BK198.out 6).trans rfl
                                have hfz28_0 := blk_frozen BK198.out 0
                                have hfz28_1 := blk_frozen BK198.out 1
                                have hfz28_2 := blk_frozen BK198.out 2
                                have hfz28_3 := blk_frozen BK198.out 3
                                have hfz28_4 := blk_frozen BK198.out 4
                                have hfz28_5 := blk_frozen BK198.out 5
                                have hfz28_6 := blk_frozen BK198.out 6
                                have p199 : 0 ≤ (x5_4 : Int) := of_decide_eq_true (by first | (with_reducible assumption) | assumption)
                                have q199 : x5_4 < (((rd_T45 l0_3 x3_2).f2).length : Int) := of_decide_eq_true (by first | (with_reducible assumption) | assumption)
                                obtain ⟨ad199, A199_2, c199_2, A199_4, c199_4, e199, hx199_0, hx199_1, hx199_2, hx199_3, hx199_4, hx199_5, hx199_6, hx199_7, hl199_2, hi199_2, hl199_4, hi199_4⟩ := at_T113 HR197_2.out x5_4 p199 q199
                                cases e199
                                replace hx199_0 := (HB.out.cell (World.block_lt_of_cell? w _ hx199_0)).trans hx199_0
                                replace hx199_1 := (HB.out.cell (World.block_lt_of_cell? w _ hx199_1)).trans hx199_1
                                replace hx199_2 := (HB.out.cell (World.block_lt_of_cell? w _ hx199_2)).trans hx199_2
                                replace hx199_3 := (HB.out.cell (World.block_lt_of_cell? w _ hx199_3)).trans hx199_3
                                replace hx199_4 := (HB.out.cell (World.block_lt_of_cell? w _ hx199_4)).trans hx199_4
                                replace hx199_5 := (HB.out.cell (World.block_lt_of_cell? w _ hx199_5)).trans hx199_5
                                replace hx199_6 := (HB.out.cell (World.block_lt_of_cell? w _ hx199_6)).trans hx199_6
                                replace hx199_7 := (HB.out.cell (World.block_lt_of_cell? w _ hx199_7)).trans hx199_7
                                have HR199_2 := Aside0.mk hi199_2
                                have HC199_2 := Aside0.mk hl199_2
                                clear hi199_2 hl199_2
                                have HR199_4 := Aside0.mk hi199_4
                                have HC199_4 := Aside0.mk hl199_4
                                clear hi199_4 hl199_4
                                replace p199 := eq_true p199
                                replace q199 := eq_true q199
                                go_wp2
                                go_ret
                                exact ⟨by first | rfl | (simp [errW_none, errW_some] <;> rfl) | (simp [*, errW_none, errW_some] <;> rfl), by repeat (first | (with_reducible first | exact HB.out | apply below_alloc | apply pw_below_drewN | apply below_drew1 | refine below_set ?_ GE196.out | refine below_set ?_ GE198.out) | exact HB.out)⟩
                              · rw [if_neg c26] at H
                                have c26b0 : decide (8 < (((rd_T113 ((rd_T45 l0_3 x3_2).f2) x5_4).f4).length : Int)) = false := decide_eq_false c26
                                have c26b1 : decide (8 < ((rd_T113 ((rd_T45 l0_3 x3_2).f2) x5_4).f4).length) = false := decide_eq_false (by omega)
                                clear c26
                                have H' := Aside0.mk H
                                clear H
                                have hnb29 := NB198_196.out
                                have hnc29 := NB196_198.out
                                have hcz30_0 : wr.cell? ⟨gb198, 0, none⟩ = some (.string ((rd_T45 l0_3 x3_2).f0)) := (blk_cell BK198.out 0).trans rfl
                                have hcz30_1 : wr.cell? ⟨gb198, 1, none⟩ = some (.int .i64 ((rd_T45 l0_3 x3_2).f1)) := (blk_cell BK198.out 1).trans rfl
                                have hcz30_2 : wr.cell? ⟨gb198, 2, none⟩ = some (.slice A197_2 ((rd_T45 l0_3 x3_2).f2).length c197_2) := (blk_cell BK198.out 2).trans rfl
                                have hcz30_3 : wr.cell? ⟨gb198, 3, none⟩ = some (.slice A197_3 ((rd_T45 l0_3 x3_2).f3).length c197_3) := (blk_cell BK198.out 3).trans rfl
                                have hcz30_4 : wr.cell? ⟨gb198, 4, none⟩ = some (.slice A197_4 ((rd_T45 l0_3 x3_2).f4).length c197_4) := (blk_cell BK198.out 4).trans rfl
                                have hcz30_5 : wr.cell? ⟨gb198, 5, none⟩ = some (.slice A197_5 ((rd_T45 l0_3 x3_2).f5).length c197_5) := (blk_cell BK198.out 5).trans rfl
                                have hcz30_6 : wr.cell? ⟨gb198, 6, none⟩ = some (.slice A197_6 ((rd_T45 l0_3 x3_2).f6).length c197_6) := (blk_cell BK198.out 6).trans rfl
                                have hfz30_0 := blk_frozen BK198.out 0
                                have hfz30_1 := blk_frozen BK198.out 1
                                have hfz30_2 := blk_frozen BK198.out 2
                                have hfz30_3 := blk_frozen BK198.out 3
                                have hfz30_4 := blk_frozen BK198.out 4
                                have hfz30_5 := blk_frozen BK198.out 5
                                have hfz30_6 := blk_frozen BK198.out 6
                                have p199 : 0 ≤ (x5_4 : Int) := of_decide_eq_true (by first | (with_reducible assumption) | assumption)
                                have q199 : x5_4 < (((rd_T45 l0_3 x3_2).f2).length : Int) := of_decide_eq_true (by first | (with_reducible assumption) | assumption)
                                obtain ⟨ad199, A199_2, c199_2, A199_4, c199_4, e199, hx199_0, hx199_1, hx199_2, hx199_3, hx199_4, hx199_5, hx199_6, hx199_7, hl199_2, hi199_2, hl199_4, hi199_4⟩ := at_T113 HR197_2.out x5_4 p199 q199
                                cases e199
                                replace hx199_0 := (HB.out.cell (World.block_lt_of_cell? w _ hx199_0)).trans hx199_0
                                replace hx199_1 := (HB.out.cell (World.block_lt_of_cell? w _ hx199_1)).trans hx199_1
                                replace hx199_2 := (HB.out.cell (World.block_lt_of_cell? w _ hx199_2)).trans hx199_2
                                replace hx199_3 := (HB.out.cell (World.block_lt_of_cell? w _ hx199_3)).trans hx199_3
                                replace hx199_4 := (HB.out.cell (World.block_lt_of_cell? w _ hx199_4)).trans hx199_4
                                replace hx199_5 := (HB.out.cell (World.block_lt_of_cell? w _ hx199_5)).trans hx199_5
                                replace hx199_6 := (HB.out.cell (World.block_lt_of_cell? w _ hx199_6)).trans hx199_6
                                replace hx199_7 := (HB.out.cell (World.block_lt_of_cell? w _ hx199_7)).trans hx199_7
                                have HR199_2 := Aside0.mk hi199_2
                                have HC199_2 := Aside0.mk hl199_2
                                clear hi199_2 hl199_2
                                have HR199_4 := Aside0.mk hi199_4
                                have HC199_4 := Aside0.mk hl199_4
                                clear hi199_4 hl199_4
                                replace p199 := eq_true p199
                                replace q199 := eq_true q199
                                go_wp2
                                go_roundg k4
                                case measure => have := HJ1.out; have := HK2.out; have := HJ9.out; have := HK4.out; omega
                                case rel => exact ⟨(wrap64 (x5_4 + 1)), (by first | rfl | (simp; done) | (simp [*]; done)), H', ⟨by have := HJ1.out; have := HK2.out; have := HJ9.out; have := HK4.out; omega⟩, ⟨by (with_reducible repeat (first | refine blk_drewN ?_ _ | refine blk_drew ?_ | refine blk_alloc ?_ _)); exact BK196.out⟩, ⟨by (with_reducible repeat (first | refine blk_drewN ?_ _ | refine blk_drew ?_ | refine blk_alloc ?_ _)); exact BK198.out⟩, ⟨by repeat (first | (with_reducible first | exact HB.out | apply below_alloc | apply pw_below_drewN | apply below_drew1 | refine below_set ?_ GE196.out | refine below_set ?_ GE198.out) | exact HB.out)⟩⟩
                            · rw [if_neg c25] at H
                              exact absurd H (by simp)
                          · rw [if_neg c24] at H
                            have c24b0 : decide (x5_4 < (((rd_T45 l0_3 x3_2).f2).length : Int)) = false := decide_eq_false c24
                            clear c24
                            have H' := Aside0.mk H
                            clear H
                            have hnb31 := NB198_196.out
                            have hnc31 := NB196_198.out
                            have hcz32_0 : wr.cell? ⟨gb198, 0, none⟩ = some (.string ((rd_T45 l0_3 x3_2).f0)) := (blk_cell BK198.out 0).trans rfl
                            have hcz32_1 : wr.cell? ⟨gb198, 1, none⟩ = some (.int .i64 ((rd_T45 l0_3 x3_2).f1)) := (blk_cell BK198.out 1).trans rfl
                            have hcz32_2 : wr.cell? ⟨gb198, 2, none⟩ = some (.slice A197_2 ((rd_T45 l0_3 x3_2).f2).length c197_2) := (blk_cell BK198.out 2).trans rfl
                            have hcz32_3 : wr.cell? ⟨gb198, 3, none⟩ = some (.slice A197_3 ((rd_T45 l0_3 x3_2).f3).length c197_3) := (blk_cell BK198.out 3).trans rfl
                            have hcz32_4 : wr.cell? ⟨gb198, 4, none⟩ = some (.slice A197_4 ((rd_T45 l0_3 x3_2).f4).length c197_4) := (blk_cell BK198.out 4).trans rfl
                            have hcz32_5 : wr.cell? ⟨gb198, 5, none⟩ = some (.slice A197_5 ((rd_T45 l0_3 x3_2).f5).length c197_5) := (blk_cell BK198.out 5).trans rfl
                            have hcz32_6 : wr.cell? ⟨gb198, 6, none⟩ = some (.slice A197_6 ((rd_T45 l0_3 x3_2).f6).length c197_6) := (blk_cell BK198.out 6).trans rfl
                            have hfz32_0 := blk_frozen BK198.out 0
                            have hfz32_1 := blk_frozen BK198.out 1
                            have hfz32_2 := blk_frozen BK198.out 2
                            have hfz32_3 := blk_frozen BK198.out 3
                            have hfz32_4 := blk_frozen BK198.out 4
                            have hfz32_5 := blk_frozen BK198.out 5
                            have hfz32_6 := blk_frozen BK198.out 6
                            go_wp2
                            go_loopg [6] k4 (fun kq v6 w' => ∃ (x6_5 : Int), v6 = .int .i64 x6_5 ∧ Aside0 (bastilleref33_Within.l2 kq x3_2 x6_5 a0_0 l0_1 l0_2 l0_3 ((rd_T45 l0_3 x3_2).f0) ((rd_T45 l0_3 x3_2).f1) ((rd_T45 l0_3 x3_2).f2) ((rd_T45 l0_3 x3_2).f3) ((rd_T45 l0_3 x3_2).f4) ((rd_T45 l0_3 x3_2).f5) ((rd_T45 l0_3 x3_2).f6) = some r) ∧ Aside0 (kq ≤ k4) ∧ Aside0 (w'.heap[gb196]? = some (.cells #[.int .i64 a0_0, (.slice A0_1 l0_1.length c0_1), (.slice A0_2 l0_2.length c0_2), (.slice (some ad197) l0_3.length c0_3)] 35 (0, 0))) ∧ Aside0 (w'.heap[gb198]? = some (.cells #[.string ((rd_T45 l0_3 x3_2).f0), .int .i64 ((rd_T45 l0_3 x3_2).f1), (.slice A197_2 ((rd_T45 l0_3 x3_2).f2).length c197_2), (.slice A197_3 ((rd_T45 l0_3 x3_2).f3).length c197_3), (.slice A197_4 ((rd_T45 l0_3 x3_2).f4).length c197_4), (.slice A197_5 ((rd_T45 l0_3 x3_2).f5).length c197_5), (.slice A197_6 ((rd_T45 l0_3 x3_2).f6).length c197_6)] 45 (0, 0))) ∧ Aside0 (Below w.heap.size w w'))
                            case atStart => exact ⟨(0), (by first | rfl | (simp; done) | (simp [*]; done)), H', ⟨Nat.le_refl _⟩, ⟨by (with_reducible repeat (first | refine blk_drewN ?_ _ | refine blk_drew ?_ | refine blk_alloc ?_ _)); exact BK196.out⟩, ⟨by (with_reducible repeat (first | refine blk_drewN ?_ _ | refine blk_drew ?_ | refine blk_alloc ?_ _)); exact BK198.out⟩, ⟨by repeat (first | (with_reducible first | exact HB.out | apply below_alloc | apply pw_below_drewN | apply below_drew1 | refine below_set ?_ GE196.out | refine below_set ?_ GE198.out) | exact HB.out)⟩⟩
                            case round =>
                              clear H'
                              try clear c1
                              try clear p1
                              try clear q1
                              try clear hx1
                              try clear c2
                              try clear p2
                              try clear c3
                              try clear c4
                              try clear c4b0
                              try clear c4b1
                              try clear p6
                              try clear c7
                              try clear c8
                              try clear c8b0
                              try clear c9
                              try clear c9b0
                              try clear c13
                              try clear c15
                              try clear c15b0
                              try clear c15b1
                              try clear c15b2
                              try clear c16
                              try clear c18
                              try clear c18b0
                              try clear c18b1
                              try clear c18b2
                              try clear c19
                              try clear p19
                              try clear q19
                              try clear hx19
                              try clear c21
                              try clear c23
                              try clear c24
                              try clear c24b0
                              try clear c25
                              try clear c25b0
                              try clear c26
                              try clear c26b0
                              try clear c26b1
                              try clear c27
                              try clear c29
                              try clear c31
                              try clear hcz11_0
                              try clear hcz11_1
                              try clear hcz11_2
                              try clear hcz11_3
                              try clear hcz14_0
                              try clear hcz14_1
                              try clear hcz14_2
                              try clear hcz14_3
                              try clear hcz14_4
                              try clear hcz14_5
                              try clear hcz14_6
                              try clear hcz17_0
                              try clear hcz17_1
                              try clear hcz17_2
                              try clear hcz17_3
                              try clear hcz17_4
                              try clear hcz17_5
                              try clear hcz17_6
                              try clear hcz20_0
                              try clear hcz20_1
                              try clear hcz20_2
                              try clear hcz20_3
                              try clear hcz20_4
                              try clear hcz20_5
                              try clear hcz20_6
                              try clear hcz22_0
                              try clear hcz22_1
                              try clear hcz22_2
                              try clear hcz22_3
                              try clear hcz22_4
                              try clear hcz22_5
                              try clear hcz22_6
                              try clear hcz28_0
                              try clear hcz28_1
                              try clear hcz28_2
                              try clear hcz28_3
                              try clear hcz28_4
                              try clear hcz28_5
                              try clear hcz28_6
                              try clear hcz30_0
                              try clear hcz30_1
                              try clear hcz30_2
                              try clear hcz30_3
                              try clear hcz30_4
                              try clear hcz30_5
                              try clear hcz30_6
                              try clear hcz32_0
                              try clear hcz32_1
                              try clear hcz32_2
                              try clear hcz32_3
                              try clear hcz32_4
                              try clear hcz32_5
                              try clear hcz32_6
                              try clear hcz5_0
                              try clear hcz5_1
                              try clear hcz5_2
                              try clear hcz5_3
                              try clear hcz6_0
                              try clear hcz6_1
                              try clear hcz6_2
                              try clear hcz6_3
                              try clear hfz11_0
                              try clear hfz11_1
                              try clear hfz11_2
                              try clear hfz11_3
                              try clear hfz14_0
                              try clear hfz14_1
                              try clear hfz14_2
                              try clear hfz14_3
                              try clear hfz14_4
                              try clear hfz14_5
                              try clear hfz14_6
                              try clear hfz17_0
                              try clear hfz17_1
                              try clear hfz17_2
                              try clear hfz17_3
                              try clear hfz17_4
                              try clear hfz17_5
                              try clear hfz17_6
                              try clear hfz20_0
                              try clear hfz20_1
                              try clear hfz20_2
                              try clear hfz20_3
                              try clear hfz20_4
                              try clear hfz20_5
                              try clear hfz20_6
                              try clear hfz22_0
                              try clear hfz22_1
                              try clear hfz22_2
                              try clear hfz22_3
                              try clear hfz22_4
                              try clear hfz22_5
                              try clear hfz22_6
                              try clear hfz28_0
                              try clear hfz28_1
                              try clear hfz28_2
                              try clear hfz28_3
                              try clear hfz28_4
                              try clear hfz28_5
                              try clear hfz28_6
                              try clear hfz30_0
                              try clear hfz30_1
                              try clear hfz30_2
                              try clear hfz30_3
                              try clear hfz30_4
                              try clear hfz30_5
                              try clear hfz30_6
                              try clear hfz32_0
                              try clear hfz32_1
                              try clear hfz32_2
                              try clear hfz32_3
                              try clear hfz32_4
                              try clear hfz32_5
                              try clear hfz32_6
                              try clear hfz5_0
                              try clear hfz5_1
                              try clear hfz5_2
                              try clear hfz5_3
                              try clear hfz6_0
                              try clear hfz6_1
                              try clear hfz6_2
                              try clear hfz6_3
                              try clear hx197_0
                              try clear hx197_1
                              try clear hx197_2
                              try clear hx197_3
                              try clear hx197_4
                              try clear hx197_5
                              try clear hx197_6
                              try clear hx199_0
                              try clear hx199_1
                              try clear hx199_2
                              try clear hx199_3
                              try clear hx199_4
                              try clear hx199_5
                              try clear hx199_6
                              try clear hx199_7
                              try clear p1
                              try clear p19
                              try clear p197
                              try clear p199
                              try clear p2
                              try clear q1
                              try clear q19
                              try clear q197
                              try clear q199
                              obtain ⟨x6_5, rfl, HA, HK5, BK196, BK198, HB⟩ := hrel
                              cases gk with
                              | zero => exact absurd HA.out (by simp [bastilleref33_Within.l2])
                              | succ k5 =>
                                have H := HA.out
                                clear HA
                                simp only [bastilleref33_Within.l2] at H
                                by_cases c33 : x6_5 < (((rd_T45 l0_3 x3_2).f3).length : Int)
                                · rw [if_pos c33] at H
                                  have c33b0 : decide (x6_5 < (((rd_T45 l0_3 x3_2).f3).length : Int)) = true := decide_eq_true c33
                                  clear c33
                                  by_cases c34 : 0 ≤ x6_5
                                  · rw [if_pos c34] at H
                                    have c34b0 : decide (0 ≤ x6_5) = true := decide_eq_true c34
                                    clear c34
                                    by_cases c35 : ((rd_T116 ((rd_T45 l0_3 x3_2).f3) x6_5).f0) < 1
                                    · rw [if_pos c35] at H
                                      have c35b0 : decide (((rd_T116 ((rd_T45 l0_3 x3_2).f3) x6_5).f0) < 1) = true := decide_eq_true c35
                                      clear c35
                                      obtain rfl := Option.some.inj H
                                      have hnb36 := NB198_196.out
                                      have hnc36 := NB196_198.out
                                      have hcz37_0 : wr.cell? ⟨gb198, 0, none⟩ = some (.string ((rd_T45 l0_3 x3_2).f0)) := (blk_cell BK198.out 0).trans rfl
                                      have hcz37_1 : wr.cell? ⟨gb198, 1, none⟩ = some (.int .i64 ((rd_T45 l0_3 x3_2).f1)) := (blk_cell BK198.out 1).trans rfl
                                      have hcz37_2 : wr.cell? ⟨gb198, 2, none⟩ = some (.slice A197_2 ((rd_T45 l0_3 x3_2).f2).length c197_2) := (blk_cell BK198.out 2).trans rfl
                                      have hcz37_3 : wr.cell? ⟨gb198, 3, none⟩ = some (.slice A197_3 ((rd_T45 l0_3 x3_2).f3).length c197_3) := (blk_cell BK198.out 3).trans rfl
                                      have hcz37_4 : wr.cell? ⟨gb198, 4, none⟩ = some (.slice A197_4 ((rd_T45 l0_3 x3_2).f4).length c197_4) := (blk_cell BK198.out 4).trans rfl
                                      have hcz37_5 : wr.cell? ⟨gb198, 5, none⟩ = some (.slice A197_5 ((rd_T45 l0_3 x3_2).f5).length c197_5) := (blk_cell BK198.out 5).trans rfl
                                      have hcz37_6 : wr.cell? ⟨gb198, 6, none⟩ = some (.slice A197_6 ((rd_T45 l0_3 x3_2).f6).length c197_6) := (blk_cell BK198.out 6).trans rfl
                                      have hfz37_0 := blk_frozen BK198.out 0
                                      have hfz37_1 := blk_frozen BK198.out 1
                                      have hfz37_2 := blk_frozen BK198.out 2
                                      have hfz37_3 := blk_frozen BK198.out 3
                                      have hfz37_4 := blk_frozen BK198.out 4
                                      have hfz37_5 := blk_frozen BK198.out 5
                                      have hfz37_6 := blk_frozen BK198.out 6
                                      have p200 : 0 ≤ (x6_5 : Int) := of_decide_eq_true (by first | (with_reducible assumption) | assumption)
                                      have q200 : x6_5 < (((rd_T45 l0_3 x3_2).f3).length : Int) := of_decide_eq_true (by first | (with_reducible assumption) | assumption)
                                      obtain ⟨ad200, A200_3, c200_3, e200, hx200_0, hx200_1, hx200_2, hx200_3, hx200_4, hl200_3, hi200_3⟩ := at_T116 HR197_3.out x6_5 p200 q200
                                      cases e200
                                      replace hx200_0 := (HB.out.cell (World.block_lt_of_cell? w _ hx200_0)).trans hx200_0
                                      replace hx200_1 := (HB.out.cell (World.block_lt_of_cell? w _ hx200_1)).trans hx200_1
                                      replace hx200_2 := (HB.out.cell (World.block_lt_of_cell? w _ hx200_2)).trans hx200_2
                                      replace hx200_3 := (HB.out.cell (World.block_lt_of_cell? w _ hx200_3)).trans hx200_3
                                      replace hx200_4 := (HB.out.cell (World.block_lt_of_cell? w _ hx200_4)).trans hx200_4
                                      have HR200_3 := Aside0.mk hi200_3
                                      have HC200_3 := Aside0.mk hl200_3
                                      clear hi200_3 hl200_3
                                      replace p200 := eq_true p200
                                      replace q200 := eq_true q200
                                      go_wp2
                                      go_ret
                                      exact ⟨by first | rfl | (simp [errW_none, errW_some] <;> rfl) | (simp [*, errW_none, errW_some] <;> rfl), by repeat (first | (with_reducible first | exact HB.out | apply below_alloc | apply pw_below_drewN | apply below_drew1 | refine below_set ?_ GE196.out | refine below_set ?_ GE198.out) | exact HB.out)⟩
                                    · rw [if_neg c35] at H
                                      have c35b0 : decide (((rd_T116 ((rd_T45 l0_3 x3_2).f3) x6_5).f0) < 1) = false := decide_eq_false c35
                                      clear c35
                                      by_cases c38 : ((rd_T116 ((rd_T45 l0_3 x3_2).f3) x6_5).f0) > 4
                                      · rw [if_pos c38] at H
                                        have c38b0 : decide (4 < ((rd_T116 ((rd_T45 l0_3 x3_2).f3) x6_5).f0)) = true := decide_eq_true c38
                                        clear c38
                                        obtain rfl := Option.some.inj H
                                        have hnb39 := NB198_196.out
                                        have hnc39 := NB196_198.out
                                        have hcz40_0 : wr.cell? ⟨gb198, 0, none⟩ = some (.string ((rd_T45 l0_3 x3_2).f0)) := (blk_cell BK198.out 0).trans rfl
                                        have hcz40_1 : wr.cell? ⟨gb198, 1, none⟩ = some (.int .i64 ((rd_T45 l0_3 x3_2).f1)) := (blk_cell BK198.out 1).trans rfl
                                        have hcz40_2 : wr.cell? ⟨gb198, 2, none⟩ = some (.slice A197_2 ((rd_T45 l0_3 x3_2).f2).length c197_2) := (blk_cell BK198.out 2).trans rfl
                                        have hcz40_3 : wr.cell? ⟨gb198, 3, none⟩ = some (.slice A197_3 ((rd_T45 l0_3 x3_2).f3).length c197_3) := (blk_cell BK198.out 3).trans rfl
                                        have hcz40_4 : wr.cell? ⟨gb198, 4, none⟩ = some (.slice A197_4 ((rd_T45 l0_3 x3_2).f4).length c197_4) := (blk_cell BK198.out 4).trans rfl
                                        have hcz40_5 : wr.cell? ⟨gb198, 5, none⟩ = some (.slice A197_5 ((rd_T45 l0_3 x3_2).f5).length c197_5) := (blk_cell BK198.out 5).trans rfl
                                        have hcz40_6 : wr.cell? ⟨gb198, 6, none⟩ = some (.slice A197_6 ((rd_T45 l0_3 x3_2).f6).length c197_6) := (blk_cell BK198.out 6).trans rfl
                                        have hfz40_0 := blk_frozen BK198.out 0
                                        have hfz40_1 := blk_frozen BK198.out 1
                                        have hfz40_2 := blk_frozen BK198.out 2
                                        have hfz40_3 := blk_frozen BK198.out 3
                                        have hfz40_4 := blk_frozen BK198.out 4
                                        have hfz40_5 := blk_frozen BK198.out 5
                                        have hfz40_6 := blk_frozen BK198.out 6
                                        have p200 : 0 ≤ (x6_5 : Int) := of_decide_eq_true (by first | (with_reducible assumption) | assumption)
                                        have q200 : x6_5 < (((rd_T45 l0_3 x3_2).f3).length : Int) := of_decide_eq_true (by first | (with_reducible assumption) | assumption)
                                        obtain ⟨ad200, A200_3, c200_3, e200, hx200_0, hx200_1, hx200_2, hx200_3, hx200_4, hl200_3, hi200_3⟩ := at_T116 HR197_3.out x6_5 p200 q200
                                        cases e200
                                        replace hx200_0 := (HB.out.cell (World.block_lt_of_cell? w _ hx200_0)).trans hx200_0
                                        replace hx200_1 := (HB.out.cell (World.block_lt_of_cell? w _ hx200_1)).trans hx200_1
                                        replace hx200_2 := (HB.out.cell (World.block_lt_of_cell? w _ hx200_2)).trans hx200_2
                                        replace hx200_3 := (HB.out.cell (World.block_lt_of_cell? w _ hx200_3)).trans hx200_3
                                        replace hx200_4 := (HB.out.cell (World.block_lt_of_cell? w _ hx200_4)).trans hx200_4
                                        have HR200_3 := Aside0.mk hi200_3
                                        have HC200_3 := Aside0.mk hl200_3
                                        clear hi200_3 hl200_3
                                        replace p200 := eq_true p200
                                        replace q200 := eq_true q200
                                        have p201 : 0 ≤ (x6_5 : Int) := of_decide_eq_true (by first | (with_reducible assumption) | assumption)
                                        have q201 : x6_5 < (((rd_T45 l0_3 x3_2).f3).length : Int) := of_decide_eq_true (by first | (with_reducible assumption) | assumption)
                                        obtain ⟨ad201, A201_3, c201_3, e201, hx201_0, hx201_1, hx201_2, hx201_3, hx201_4, hl201_3, hi201_3⟩ := at_T116 HR197_3.out x6_5 p201 q201
                                        obtain rfl : ad200 = ad201 := (by injection e201)
                                        replace hx201_0 := (HB.out.cell (World.block_lt_of_cell? w _ hx201_0)).trans hx201_0
                                        replace hx201_1 := (HB.out.cell (World.block_lt_of_cell? w _ hx201_1)).trans hx201_1
                                        replace hx201_2 := (HB.out.cell (World.block_lt_of_cell? w _ hx201_2)).trans hx201_2
                                        replace hx201_3 := (HB.out.cell (World.block_lt_of_cell? w _ hx201_3)).trans hx201_3
                                        replace hx201_4 := (HB.out.cell (World.block_lt_of_cell? w _ hx201_4)).trans hx201_4
                                        have HR201_3 := Aside0.mk hi201_3
                                        have HC201_3 := Aside0.mk hl201_3
                                        clear hi201_3 hl201_3
                                        replace p201 := eq_true p201
                                        replace q201 := eq_true q201
                                        have ea_ := Option.some.inj (hx200_3.symm.trans hx201_3)
                                        injection ea_ with ea_ en_ ec_
                                        subst ea_
                                        subst ec_
                                        clear en_
                                        go_wp2
                                        go_ret
                                        exact ⟨by first | rfl | (simp [errW_none, errW_some] <;> rfl) | (simp [*, errW_none, errW_some] <;> rfl), by repeat (first | (with_reducible first | exact HB.out | apply below_alloc | apply pw_below_drewN | apply below_drew1 | refine below_set ?_ GE196.out | refine below_set ?_ GE198.out) | exact HB.out)⟩
                                      · rw [if_neg c38] at H
                                        have c38b0 : decide (4 < ((rd_T116 ((rd_T45 l0_3 x3_2).f3) x6_5).f0)) = false := decide_eq_false c38
                                        clear c38
                                        have H' := Aside0.mk H
                                        clear H
                                        have hnb41 := NB198_196.out
                                        have hnc41 := NB196_198.out
                                        have hcz42_0 : wr.cell? ⟨gb198, 0, none⟩ = some (.string ((rd_T45 l0_3 x3_2).f0)) := (blk_cell BK198.out 0).trans rfl
                                        have hcz42_1 : wr.cell? ⟨gb198, 1, none⟩ = some (.int .i64 ((rd_T45 l0_3 x3_2).f1)) := (blk_cell BK198.out 1).trans rfl
                                        have hcz42_2 : wr.cell? ⟨gb198, 2, none⟩ = some (.slice A197_2 ((rd_T45 l0_3 x3_2).f2).length c197_2) := (blk_cell BK198.out 2).trans rfl
                                        have hcz42_3 : wr.cell? ⟨gb198, 3, none⟩ = some (.slice A197_3 ((rd_T45 l0_3 x3_2).f3).length c197_3) := (blk_cell BK198.out 3).trans rfl
                                        have hcz42_4 : wr.cell? ⟨gb198, 4, none⟩ = some (.slice A197_4 ((rd_T45 l0_3 x3_2).f4).length c197_4) := (blk_cell BK198.out 4).trans rfl
                                        have hcz42_5 : wr.cell? ⟨gb198, 5, none⟩ = some (.slice A197_5 ((rd_T45 l0_3 x3_2).f5).length c197_5) := (blk_cell BK198.out 5).trans rfl
                                        have hcz42_6 : wr.cell? ⟨gb198, 6, none⟩ = some (.slice A197_6 ((rd_T45 l0_3 x3_2).f6).length c197_6) := (blk_cell BK198.out 6).trans rfl
                                        have hfz42_0 := blk_frozen BK198.out 0
                                        have hfz42_1 := blk_frozen BK198.out 1
                                        have hfz42_2 := blk_frozen BK198.out 2
                                        have hfz42_3 := blk_frozen BK198.out 3
                                        have hfz42_4 := blk_frozen BK198.out 4
                                        have hfz42_5 := blk_frozen BK198.out 5
                                        have hfz42_6 := blk_frozen BK198.out 6
                                        have p200 : 0 ≤ (x6_5 : Int) := of_decide_eq_true (by first | (with_reducible assumption) | assumption)
                                        have q200 : x6_5 < (((rd_T45 l0_3 x3_2).f3).length : Int) := of_decide_eq_true (by first | (with_reducible assumption) | assumption)
                                        obtain ⟨ad200, A200_3, c200_3, e200, hx200_0, hx200_1, hx200_2, hx200_3, hx200_4, hl200_3, hi200_3⟩ := at_T116 HR197_3.out x6_5 p200 q200
                                        cases e200
                                        replace hx200_0 := (HB.out.cell (World.block_lt_of_cell? w _ hx200_0)).trans hx200_0
                                        replace hx200_1 := (HB.out.cell (World.block_lt_of_cell? w _ hx200_1)).trans hx200_1
                                        replace hx200_2 := (HB.out.cell (World.block_lt_of_cell? w _ hx200_2)).trans hx200_2
                                        replace hx200_3 := (HB.out.cell (World.block_lt_of_cell? w _ hx200_3)).trans hx200_3
                                        replace hx200_4 := (HB.out.cell (World.block_lt_of_cell? w _ hx200_4)).trans hx200_4
                                        have HR200_3 := Aside0.mk hi200_3
                                        have HC200_3 := Aside0.mk hl200_3
                                        clear hi200_3 hl200_3
                                        replace p200 := eq_true p200
                                        replace q200 := eq_true q200
                                        have p201 : 0 ≤ (x6_5 : Int) := of_decide_eq_true (by first | (with_reducible assumption) | assumption)
                                        have q201 : x6_5 < (((rd_T45 l0_3 x3_2).f3).length : Int) := of_decide_eq_true (by first | (with_reducible assumption) | assumption)
                                        obtain ⟨ad201, A201_3, c201_3, e201, hx201_0, hx201_1, hx201_2, hx201_3, hx201_4, hl201_3, hi201_3⟩ := at_T116 HR197_3.out x6_5 p201 q201
                                        obtain rfl : ad200 = ad201 := (by injection e201)
                                        replace hx201_0 := (HB.out.cell (World.block_lt_of_cell? w _ hx201_0)).trans hx201_0
                                        replace hx201_1 := (HB.out.cell (World.block_lt_of_cell? w _ hx201_1)).trans hx201_1
                                        replace hx201_2 := (HB.out.cell (World.block_lt_of_cell? w _ hx201_2)).trans hx201_2
                                        replace hx201_3 := (HB.out.cell (World.block_lt_of_cell? w _ hx201_3)).trans hx201_3
                                        replace hx201_4 := (HB.out.cell (World.block_lt_of_cell? w _ hx201_4)).trans hx201_4
                                        have HR201_3 := Aside0.mk hi201_3
                                        have HC201_3 := Aside0.mk hl201_3
                                        clear hi201_3 hl201_3
                                        replace p201 := eq_true p201
                                        replace q201 := eq_true q201
                                        have ea_ := Option.some.inj (hx200_3.symm.trans hx201_3)
                                        injection ea_ with ea_ en_ ec_
                                        subst ea_
                                        subst ec_
                                        clear en_
                                        go_wp2
                                        go_roundg k5
                                        case measure => have := HJ1.out; have := HK2.out; have := HJ9.out; have := HK4.out; have := HK5.out; omega
                                        case rel => exact ⟨(wrap64 (x6_5 + 1)), (by first | rfl | (simp; done) | (simp [*]; done)), H', ⟨by have := HJ1.out; have := HK2.out; have := HJ9.out; have := HK4.out; have := HK5.out; omega⟩, ⟨by (with_reducible repeat (first | refine blk_drewN ?_ _ | refine blk_drew ?_ | refine blk_alloc ?_ _)); exact BK196.out⟩, ⟨by (with_reducible repeat (first | refine blk_drewN ?_ _ | refine blk_drew ?_ | refine blk_alloc ?_ _)); exact BK198.out⟩, ⟨by repeat (first | (with_reducible first | exact HB.out | apply below_alloc | apply pw_below_drewN | apply below_drew1 | refine below_set ?_ GE196.out | refine below_set ?_ GE198.out) | exact HB.out)⟩⟩
                                  · rw [if_neg c34] at H
                                    exact absurd H (by simp)
                                · rw [if_neg c33] at H
                                  have c33b0 : decide (x6_5 < (((rd_T45 l0_3 x3_2).f3).length : Int)) = false := decide_eq_false c33
                                  clear c33
                                  have H' := Aside0.mk H
                                  clear H
                                  have hnb43 := NB198_196.out
                                  have hnc43 := NB196_198.out
                                  have hcz44_0 : wr.cell? ⟨gb198, 0, none⟩ = some (.string ((rd_T45 l0_3 x3_2).f0)) := (blk_cell BK198.out 0).trans rfl
                                  have hcz44_1 : wr.cell? ⟨gb198, 1, none⟩ = some (.int .i64 ((rd_T45 l0_3 x3_2).f1)) := (blk_cell BK198.out 1).trans rfl
                                  have hcz44_2 : wr.cell? ⟨gb198, 2, none⟩ = some (.slice A197_2 ((rd_T45 l0_3 x3_2).f2).length c197_2) := (blk_cell BK198.out 2).trans rfl
                                  have hcz44_3 : wr.cell? ⟨gb198, 3, none⟩ = some (.slice A197_3 ((rd_T45 l0_3 x3_2).f3).length c197_3) := (blk_cell BK198.out 3).trans rfl
                                  have hcz44_4 : wr.cell? ⟨gb198, 4, none⟩ = some (.slice A197_4 ((rd_T45 l0_3 x3_2).f4).length c197_4) := (blk_cell BK198.out 4).trans rfl
                                  have hcz44_5 : wr.cell? ⟨gb198, 5, none⟩ = some (.slice A197_5 ((rd_T45 l0_3 x3_2).f5).length c197_5) := (blk_cell BK198.out 5).trans rfl
                                  have hcz44_6 : wr.cell? ⟨gb198, 6, none⟩ = some (.slice A197_6 ((rd_T45 l0_3 x3_2).f6).length c197_6) := (blk_cell BK198.out 6).trans rfl
                                  have hfz44_0 := blk_frozen BK198.out 0
                                  have hfz44_1 := blk_frozen BK198.out 1
                                  have hfz44_2 := blk_frozen BK198.out 2
                                  have hfz44_3 := blk_frozen BK198.out 3
                                  have hfz44_4 := blk_frozen BK198.out 4
                                  have hfz44_5 := blk_frozen BK198.out 5
                                  have hfz44_6 := blk_frozen BK198.out 6
                                  go_wp2
                                  go_loopg [7] k5 (fun kq v7 w' => ∃ (x7_6 : Int), v7 = .int .i64 x7_6 ∧ Aside0 (bastilleref33_Within.l3 kq x3_2 x7_6 a0_0 l0_1 l0_2 l0_3 ((rd_T45 l0_3 x3_2).f0) ((rd_T45 l0_3 x3_2).f1) ((rd_T45 l0_3 x3_2).f2) ((rd_T45 l0_3 x3_2).f3) ((rd_T45 l0_3 x3_2).f4) ((rd_T45 l0_3 x3_2).f5) ((rd_T45 l0_3 x3_2).f6) = some r) ∧ Aside0 (kq ≤ k5) ∧ Aside0 (w'.heap[gb196]? = some (.cells #[.int .i64 a0_0, (.slice A0_1 l0_1.length c0_1), (.slice A0_2 l0_2.length c0_2), (.slice (some ad197) l0_3.length c0_3)] 35 (0, 0))) ∧ Aside0 (w'.heap[gb198]? = some (.cells #[.string ((rd_T45 l0_3 x3_2).f0), .int .i64 ((rd_T45 l0_3 x3_2).f1), (.slice A197_2 ((rd_T45 l0_3 x3_2).f2).length c197_2), (.slice A197_3 ((rd_T45 l0_3 x3_2).f3).length c197_3), (.slice A197_4 ((rd_T45 l0_3 x3_2).f4).length c197_4), (.slice A197_5 ((rd_T45 l0_3 x3_2).f5).length c197_5), (.slice A197_6 ((rd_T45 l0_3 x3_2).f6).length c197_6)] 45 (0, 0))) ∧ Aside0 (Below w.heap.size w w'))
                                  case atStart => exact ⟨(0), (by first | rfl | (simp; done) | (simp [*]; done)), H', ⟨Nat.le_refl _⟩, ⟨by (with_reducible repeat (first | refine blk_drewN ?_ _ | refine blk_drew ?_ | refine blk_alloc ?_ _)); exact BK196.out⟩, ⟨by (with_reducible repeat (first | refine blk_drewN ?_ _ | refine blk_drew ?_ | refine blk_alloc ?_ _)); exact BK198.out⟩, ⟨by repeat (first | (with_reducible first | exact HB.out | apply below_alloc | apply pw_below_drewN | apply below_drew1 | refine below_set ?_ GE196.out | refine below_set ?_ GE198.out) | exact HB.out)⟩⟩
                                  case round =>
                                    clear H'
                                    try clear c1
                                    try clear p1
                                    try clear q1
                                    try clear hx1
                                    try clear c2
                                    try clear p2
                                    try clear q2
                                    try clear hx2
                                    try clear c3
                                    try clear c4
                                    try clear c4b0
                                    try clear c4b1
                                    try clear p6
                                    try clear c7
                                    try clear c8
                                    try clear c8b0
                                    try clear c9
                                    try clear c9b0
                                    try clear c13
                                    try clear c15
                                    try clear c15b0
                                    try clear c15b1
                                    try clear c15b2
                                    try clear c16
                                    try clear c18
                                    try clear c18b0
                                    try clear c18b1
                                    try clear c18b2
                                    try clear c19
                                    try clear p19
                                    try clear q19
                                    try clear hx19
                                    try clear c20
                                    try clear p20
                                    try clear q20
                                    try clear hx20
                                    try clear c21
                                    try clear c23
                                    try clear c24
                                    try clear c24b0
                                    try clear c25
                                    try clear c25b0
                                    try clear c26
                                    try clear c26b0
                                    try clear c26b1
                                    try clear c27
                                    try clear c29
                                    try clear c31
                                    try clear c33
                                    try clear c33b0
                                    try clear c34
                                    try clear c34b0
                                    try clear c35
                                    try clear c35b0
                                    try clear c36
                                    try clear c38
                                    try clear c38b0
                                    try clear c39
                                    try clear c41
                                    try clear c43
                                    try clear hcz11_0
                                    try clear hcz11_1
                                    try clear hcz11_2
                                    try clear hcz11_3
                                    try clear hcz14_0
                                    try clear hcz14_1
                                    try clear hcz14_2
                                    try clear hcz14_3
                                    try clear hcz14_4
                                    try clear hcz14_5
                                    try clear hcz14_6
                                    try clear hcz17_0
                                    try clear hcz17_1
                                    try clear hcz17_2
                                    try clear hcz17_3
                                    try clear hcz17_4
                                    try clear hcz17_5
                                    try clear hcz17_6
                                    try clear hcz20_0
                                    try clear hcz20_1
                                    try clear hcz20_2
                                    try clear hcz20_3
                                    try clear hcz20_4
                                    try clear hcz20_5
                                    try clear hcz20_6
                                    try clear hcz22_0
                                    try clear hcz22_1
                                    try clear hcz22_2
                                    try clear hcz22_3
                                    try clear hcz22_4
                                    try clear hcz22_5
                                    try clear hcz22_6
                                    try clear hcz28_0
                                    try clear hcz28_1
                                    try clear hcz28_2
                                    try clear hcz28_3
                                    try clear hcz28_4
                                    try clear hcz28_5
                                    try clear hcz28_6
                                    try clear hcz30_0
                                    try clear hcz30_1
                                    try clear hcz30_2
                                    try clear hcz30_3
                                    try clear hcz30_4
                                    try clear hcz30_5
                                    try clear hcz30_6
                                    try clear hcz32_0
                                    try clear hcz32_1
                                    try clear hcz32_2
                                    try clear hcz32_3
                                    try clear hcz32_4
                                    try clear hcz32_5
                                    try clear hcz32_6
                                    try clear hcz37_0
                                    try clear hcz37_1
                                    try clear hcz37_2
                                    try clear hcz37_3
                                    try clear hcz37_4
                                    try clear hcz37_5
                                    try clear hcz37_6
                                    try clear hcz40_0
                                    try clear hcz40_1
                                    try clear hcz40_2
                                    try clear hcz40_3
                                    try clear hcz40_4
                                    try clear hcz40_5
                                    try clear hcz40_6
                                    try clear hcz42_0
                                    try clear hcz42_1
                                    try clear hcz42_2
                                    try clear hcz42_3
                                    try clear hcz42_4
                                    try clear hcz42_5
                                    try clear hcz42_6
                                    try clear hcz44_0
                                    try clear hcz44_1
                                    try clear hcz44_2
                                    try clear hcz44_3
                                    try clear hcz44_4
                                    try clear hcz44_5
                                    try clear hcz44_6
                                    try clear hcz5_0
                                    try clear hcz5_1
                                    try clear hcz5_2
                                    try clear hcz5_3
                                    try clear hcz6_0
                                    try clear hcz6_1
                                    try clear hcz6_2
                                    try clear hcz6_3
                                    try clear hfz11_0
                                    try clear hfz11_1
                                    try clear hfz11_2
                                    try clear hfz11_3
                                    try clear hfz14_0
                                    try clear hfz14_1
                                    try clear hfz14_2
                                    try clear hfz14_3
                                    try clear hfz14_4
                                    try clear hfz14_5
                                    try clear hfz14_6
                                    try clear hfz17_0
                                    try clear hfz17_1
                                    try clear hfz17_2
                                    try clear hfz17_3
                                    try clear hfz17_4
                                    try clear hfz17_5
                                    try clear hfz17_6
                                    try clear hfz20_0
                                    try clear hfz20_1
                                    try clear hfz20_2
                                    try clear hfz20_3
                                    try clear hfz20_4
                                    try clear hfz20_5
                                    try clear hfz20_6
                                    try clear hfz22_0
                                    try clear hfz22_1
                                    try clear hfz22_2
                                    try clear hfz22_3
                                    try clear hfz22_4
                                    try clear hfz22_5
                                    try clear hfz22_6
                                    try clear hfz28_0
                                    try clear hfz28_1
                                    try clear hfz28_2
                                    try clear hfz28_3
                                    try clear hfz28_4
                                    try clear hfz28_5
                                    try clear hfz28_6
                                    try clear hfz30_0
                                    try clear hfz30_1
                                    try clear hfz30_2
                                    try clear hfz30_3
                                    try clear hfz30_4
                                    try clear hfz30_5
                                    try clear hfz30_6
                                    try clear hfz32_0
                                    try clear hfz32_1
                                    try clear hfz32_2
                                    try clear hfz32_3
                                    try clear hfz32_4
                                    try clear hfz32_5
                                    try clear hfz32_6
                                    try clear hfz37_0
                                    try clear hfz37_1
                                    try clear hfz37_2
                                    try clear hfz37_3
                                    try clear hfz37_4
                                    try clear hfz37_5
                                    try clear hfz37_6
                                    try clear hfz40_0
                                    try clear hfz40_1
                                    try clear hfz40_2
                                    try clear hfz40_3
                                    try clear hfz40_4
                                    try clear hfz40_5
                                    try clear hfz40_6
                                    try clear hfz42_0
                                    try clear hfz42_1
                                    try clear hfz42_2
                                    try clear hfz42_3
                                    try clear hfz42_4
                                    try clear hfz42_5
                                    try clear hfz42_6
                                    try clear hfz44_0
                                    try clear hfz44_1
                                    try clear hfz44_2
                                    try clear hfz44_3
                                    try clear hfz44_4
                                    try clear hfz44_5
                                    try clear hfz44_6
                                    try clear hfz5_0
                                    try clear hfz5_1
                                    try clear hfz5_2
                                    try clear hfz5_3
                                    try clear hfz6_0
                                    try clear hfz6_1
                                    try clear hfz6_2
                                    try clear hfz6_3
                                    try clear hx197_0
                                    try clear hx197_1
                                    try clear hx197_2
                                    try clear hx197_3
                                    try clear hx197_4
                                    try clear hx197_5
                                    try clear hx197_6
                                    try clear hx199_0
                                    try clear hx199_1
                                    try clear hx199_2
                                    try clear hx199_3
                                    try clear hx199_4
                                    try clear hx199_5
                                    try clear hx199_6
                                    try clear hx199_7
                                    try clear hx200_0
                                    try clear hx200_1
                                    try clear hx200_2
                                    try clear hx200_3
                                    try clear hx200_4
                                    try clear hx201_0
                                    try clear hx201_1
                                    try clear hx201_2
                                    try clear hx201_3
                                    try clear hx201_4
                                    try clear p1
                                    try clear p19
                                    try clear p197
                                    try clear p199
                                    try clear p2
                                    try clear p200
                                    try clear p201
                                    try clear p6
                                    try clear q1
                                    try clear q19
                                    try clear q197
                                    try clear q199
                                    try clear q200
                                    try clear q201
                                    obtain ⟨x7_6, rfl, HA, HK6, BK196, BK198, HB⟩ := hrel
                                    cases gk with
                                    | zero => exact absurd HA.out (by simp [bastilleref33_Within.l3])
                                    | succ k6 =>
                                      have H := HA.out
                                      clear HA
                                      simp only [bastilleref33_Within.l3] at H
                                      by_cases c45 : x7_6 < (((rd_T45 l0_3 x3_2).f4).length : Int)
                                      · rw [if_pos c45] at H
                                        have c45b0 : decide (x7_6 < (((rd_T45 l0_3 x3_2).f4).length : Int)) = true := decide_eq_true c45
                                        clear c45
                                        by_cases c46 : 0 ≤ x7_6
                                        · rw [if_pos c46] at H
                                          have c46b0 : decide (0 ≤ x7_6) = true := decide_eq_true c46
                                          clear c46
                                          by_cases c47 : (((rd_T108 ((rd_T45 l0_3 x3_2).f4) x7_6).f1).length : Int) = 0
                                          · rw [if_pos c47] at H
                                            have c47b0 : ((((rd_T108 ((rd_T45 l0_3 x3_2).f4) x7_6).f1).length : Int) == 0) = true := beq_iff_eq.mpr c47
                                            have c47b1 : ((((rd_T108 ((rd_T45 l0_3 x3_2).f4) x7_6).f1).length : Int) != 0) = false := bne_eq_false_iff_eq.mpr c47
                                            clear c47
                                            obtain rfl := Option.some.inj H
                                            have hnb48 := NB198_196.out
                                            have hnc48 := NB196_198.out
                                            have hcz49_0 : wr.cell? ⟨gb198, 0, none⟩ = some (.string ((rd_T45 l0_3 x3_2).f0)) := (blk_cell BK198.out 0).trans rfl
                                            have hcz49_1 : wr.cell? ⟨gb198, 1, none⟩ = some (.int .i64 ((rd_T45 l0_3 x3_2).f1)) := (blk_cell BK198.out 1).trans rfl
                                            have hcz49_2 : wr.cell? ⟨gb198, 2, none⟩ = some (.slice A197_2 ((rd_T45 l0_3 x3_2).f2).length c197_2) := (blk_cell BK198.out 2).trans rfl
                                            have hcz49_3 : wr.cell? ⟨gb198, 3, none⟩ = some (.slice A197_3 ((rd_T45 l0_3 x3_2).f3).length c197_3) := (blk_cell BK198.out 3).trans rfl
                                            have hcz49_4 : wr.cell? ⟨gb198, 4, none⟩ = some (.slice A197_4 ((rd_T45 l0_3 x3_2).f4).length c197_4) := (blk_cell BK198.out 4).trans rfl
                                            have hcz49_5 : wr.cell? ⟨gb198, 5, none⟩ = some (.slice A197_5 ((rd_T45 l0_3 x3_2).f5).length c197_5) := (blk_cell BK198.out 5).trans rfl
                                            have hcz49_6 : wr.cell? ⟨gb198, 6, none⟩ = some (.slice A197_6 ((rd_T45 l0_3 x3_2).f6).length c197_6) := (blk_cell BK198.out 6).trans rfl
                                            have hfz49_0 := blk_frozen BK198.out 0
                                            have hfz49_1 := blk_frozen BK198.out 1
                                            have hfz49_2 := blk_frozen BK198.out 2
                                            have hfz49_3 := blk_frozen BK198.out 3
                                            have hfz49_4 := blk_frozen BK198.out 4
                                            have hfz49_5 := blk_frozen BK198.out 5
                                            have hfz49_6 := blk_frozen BK198.out 6
                                            have p202 : 0 ≤ (x7_6 : Int) := of_decide_eq_true (by first | (with_reducible assumption) | assumption)
                                            have q202 : x7_6 < (((rd_T45 l0_3 x3_2).f4).length : Int) := of_decide_eq_true (by first | (with_reducible assumption) | assumption)
                                            obtain ⟨ad202, A202_1, c202_1, e202, hx202_0, hx202_1, hl202_1, hi202_1⟩ := at_T108 HR197_4.out x7_6 p202 q202
                                            cases e202
                                            replace hx202_0 := (HB.out.cell (World.block_lt_of_cell? w _ hx202_0)).trans hx202_0
                                            replace hx202_1 := (HB.out.cell (World.block_lt_of_cell? w _ hx202_1)).trans hx202_1
                                            have HR202_1 := Aside0.mk hi202_1
                                            have HC202_1 := Aside0.mk hl202_1
                                            clear hi202_1 hl202_1
                                            replace p202 := eq_true p202
                                            replace q202 := eq_true q202
                                            go_wp2
                                            go_ret
                                            exact ⟨by first | rfl | (simp [errW_none, errW_some] <;> rfl) | (simp [*, errW_none, errW_some] <;> rfl), by repeat (first | (with_reducible first | exact HB.out | apply below_alloc | apply pw_below_drewN | apply below_drew1 | refine below_set ?_ GE196.out | refine below_set ?_ GE198.out) | exact HB.out)⟩
                                          · rw [if_neg c47] at H
                                            have c47b0 : ((((rd_T108 ((rd_T45 l0_3 x3_2).f4) x7_6).f1).length : Int) == 0) = false := beq_eq_false_iff_ne.mpr c47
                                            have c47b1 : ((((rd_T108 ((rd_T45 l0_3 x3_2).f4) x7_6).f1).length : Int) != 0) = true := bne_iff_ne.mpr c47
                                            have c47b2 : ¬ (((rd_T108 ((rd_T45 l0_3 x3_2).f4) x7_6).f1) = []) := fun h_ => c47 (by rw [h_]; rfl)
                                            by_cases c50 : (((rd_T108 ((rd_T45 l0_3 x3_2).f4) x7_6).f1).length : Int) > 256
                                            · rw [if_pos c50] at H
                                              have c50b0 : decide (256 < (((rd_T108 ((rd_T45 l0_3 x3_2).f4) x7_6).f1).length : Int)) = true := decide_eq_true c50
                                              have c50b1 : decide (256 < ((rd_T108 ((rd_T45 l0_3 x3_2).f4) x7_6).f1).length) = true := decide_eq_true (by omega)
                                              clear c50
                                              obtain rfl := Option.some.inj H
                                              have hnb51 := NB198_196.out
                                              have hnc51 := NB196_198.out
                                              have hcz52_0 : wr.cell? ⟨gb198, 0, none⟩ = some (.string ((rd_T45 l0_3 x3_2).f0)) := (blk_cell BK198.out 0).trans rfl
                                              have hcz52_1 : wr.cell? ⟨gb198, 1, none⟩ = some (.int .i64 ((rd_T45 l0_3 x3_2).f1)) := (blk_cell BK198.out 1).trans rfl
                                              have hcz52_2 : wr.cell? ⟨gb198, 2, none⟩ = some (.slice A197_2 ((rd_T45 l0_3 x3_2).f2).length c197_2) := (blk_cell BK198.out 2).trans rfl
                                              have hcz52_3 : wr.cell? ⟨gb198, 3, none⟩ = some (.slice A197_3 ((rd_T45 l0_3 x3_2).f3).length c197_3) := (blk_cell BK198.out 3).trans rfl
                                              have hcz52_4 : wr.cell? ⟨gb198, 4, none⟩ = some (.slice A197_4 ((rd_T45 l0_3 x3_2).f4).length c197_4) := (blk_cell BK198.out 4).trans rfl
                                              have hcz52_5 : wr.cell? ⟨gb198, 5, none⟩ = some (.slice A197_5 ((rd_T45 l0_3 x3_2).f5).length c197_5) := (blk_cell BK198.out 5).trans rfl
                                              have hcz52_6 : wr.cell? ⟨gb198, 6, none⟩ = some (.slice A197_6 ((rd_T45 l0_3 x3_2).f6).length c197_6) := (blk_cell BK198.out 6).trans rfl
                                              have hfz52_0 := blk_frozen BK198.out 0
                                              have hfz52_1 := blk_frozen BK198.out 1
                                              have hfz52_2 := blk_frozen BK198.out 2
                                              have hfz52_3 := blk_frozen BK198.out 3
                                              have hfz52_4 := blk_frozen BK198.out 4
                                              have hfz52_5 := blk_frozen BK198.out 5
                                              have hfz52_6 := blk_frozen BK198.out 6
                                              have p202 : 0 ≤ (x7_6 : Int) := of_decide_eq_true (by first | (with_reducible assumption) | assumption)
                                              have q202 : x7_6 < (((rd_T45 l0_3 x3_2).f4).length : Int) := of_decide_eq_true (by first | (with_reducible assumption) | assumption)
                                              obtain ⟨ad202, A202_1, c202_1, e202, hx202_0, hx202_1, hl202_1, hi202_1⟩ := at_T108 HR197_4.out x7_6 p202 q202
                                              cases e202
                                              replace hx202_0 := (HB.out.cell (World.block_lt_of_cell? w _ hx202_0)).trans hx202_0
                                              replace hx202_1 := (HB.out.cell (World.block_lt_of_cell? w _ hx202_1)).trans hx202_1
                                              have HR202_1 := Aside0.mk hi202_1
                                              have HC202_1 := Aside0.mk hl202_1
                                              clear hi202_1 hl202_1
                                              replace p202 := eq_true p202
                                              replace q202 := eq_true q202
                                              go_wp2
                                              go_ret
                                              exact ⟨by first | rfl | (simp [errW_none, errW_some] <;> rfl) | (simp [*, errW_none, errW_some] <;> rfl), by repeat (first | (with_reducible first | exact HB.out | apply below_alloc | apply pw_below_drewN | apply below_drew1 | refine below_set ?_ GE196.out | refine below_set ?_ GE198.out) | exact HB.out)⟩
                                            · rw [if_neg c50] at H
                                              have c50b0 : decide (256 < (((rd_T108 ((rd_T45 l0_3 x3_2).f4) x7_6).f1).length : Int)) = false := decide_eq_false c50
                                              have c50b1 : decide (256 < ((rd_T108 ((rd_T45 l0_3 x3_2).f4) x7_6).f1).length) = false := decide_eq_false (by omega)
                                              clear c50
                                              have H' := Aside0.mk H
                                              clear H
                                              have hnb53 := NB198_196.out
                                              have hnc53 := NB196_198.out
                                              have hcz54_0 : wr.cell? ⟨gb198, 0, none⟩ = some (.string ((rd_T45 l0_3 x3_2).f0)) := (blk_cell BK198.out 0).trans rfl
                                              have hcz54_1 : wr.cell? ⟨gb198, 1, none⟩ = some (.int .i64 ((rd_T45 l0_3 x3_2).f1)) := (blk_cell BK198.out 1).trans rfl
                                              have hcz54_2 : wr.cell? ⟨gb198, 2, none⟩ = some (.slice A197_2 ((rd_T45 l0_3 x3_2).f2).length c197_2) := (blk_cell BK198.out 2).trans rfl
                                              have hcz54_3 : wr.cell? ⟨gb198, 3, none⟩ = some (.slice A197_3 ((rd_T45 l0_3 x3_2).f3).length c197_3) := (blk_cell BK198.out 3).trans rfl
                                              have hcz54_4 : wr.cell? ⟨gb198, 4, none⟩ = some (.slice A197_4 ((rd_T45 l0_3 x3_2).f4).length c197_4) := (blk_cell BK198.out 4).trans rfl
                                              have hcz54_5 : wr.cell? ⟨gb198, 5, none⟩ = some (.slice A197_5 ((rd_T45 l0_3 x3_2).f5).length c197_5) := (blk_cell BK198.out 5).trans rfl
                                              have hcz54_6 : wr.cell? ⟨gb198, 6, none⟩ = some (.slice A197_6 ((rd_T45 l0_3 x3_2).f6).length c197_6) := (blk_cell BK198.out 6).trans rfl
                                              have hfz54_0 := blk_frozen BK198.out 0
                                              have hfz54_1 := blk_frozen BK198.out 1
                                              have hfz54_2 := blk_frozen BK198.out 2
                                              have hfz54_3 := blk_frozen BK198.out 3
                                              have hfz54_4 := blk_frozen BK198.out 4
                                              have hfz54_5 := blk_frozen BK198.out 5
                                              have hfz54_6 := blk_frozen BK198.out 6
                                              have p202 : 0 ≤ (x7_6 : Int) := of_decide_eq_true (by first | (with_reducible assumption) | assumption)
                                              have q202 : x7_6 < (((rd_T45 l0_3 x3_2).f4).length : Int) := of_decide_eq_true (by first | (with_reducible assumption) | assumption)
                                              obtain ⟨ad202, A202_1, c202_1, e202, hx202_0, hx202_1, hl202_1, hi202_1⟩ := at_T108 HR197_4.out x7_6 p202 q202
                                              cases e202
                                              replace hx202_0 := (HB.out.cell (World.block_lt_of_cell? w _ hx202_0)).trans hx202_0
                                              replace hx202_1 := (HB.out.cell (World.block_lt_of_cell? w _ hx202_1)).trans hx202_1
                                              have HR202_1 := Aside0.mk hi202_1
                                              have HC202_1 := Aside0.mk hl202_1
                                              clear hi202_1 hl202_1
                                              replace p202 := eq_true p202
                                              replace q202 := eq_true q202
                                              go_wp2
                                              go_roundg k6
                                              case measure => have := HJ1.out; have := HK2.out; have := HJ9.out; have := HK4.out; have := HK5.out; have := HK6.out; omega
                                              case rel => exact ⟨(wrap64 (x7_6 + 1)), (by first | rfl | (simp; done) | (simp [*]; done)), H', ⟨by have := HJ1.out; have := HK2.out; have := HJ9.out; have := HK4.out; have := HK5.out; have := HK6.out; omega⟩, ⟨by (with_reducible repeat (first | refine blk_drewN ?_ _ | refine blk_drew ?_ | refine blk_alloc ?_ _)); exact BK196.out⟩, ⟨by (with_reducible repeat (first | refine blk_drewN ?_ _ | refine blk_drew ?_ | refine blk_alloc ?_ _)); exact BK198.out⟩, ⟨by repeat (first | (with_reducible first | exact HB.out | apply below_alloc | apply pw_below_drewN | apply below_drew1 | refine below_set ?_ GE196.out | refine below_set ?_ GE198.out) | exact HB.out)⟩⟩
                                        · rw [if_neg c46] at H
                                          exact absurd H (by simp)
                                      · rw [if_neg c45] at H
                                        have c45b0 : decide (x7_6 < (((rd_T45 l0_3 x3_2).f4).length : Int)) = false := decide_eq_false c45
                                        clear c45
                                        have H' := Aside0.mk H
                                        clear H
                                        have hnb55 := NB198_196.out
                                        have hnc55 := NB196_198.out
                                        have hcz56_0 : wr.cell? ⟨gb198, 0, none⟩ = some (.string ((rd_T45 l0_3 x3_2).f0)) := (blk_cell BK198.out 0).trans rfl
                                        have hcz56_1 : wr.cell? ⟨gb198, 1, none⟩ = some (.int .i64 ((rd_T45 l0_3 x3_2).f1)) := (blk_cell BK198.out 1).trans rfl
                                        have hcz56_2 : wr.cell? ⟨gb198, 2, none⟩ = some (.slice A197_2 ((rd_T45 l0_3 x3_2).f2).length c197_2) := (blk_cell BK198.out 2).trans rfl
                                        have hcz56_3 : wr.cell? ⟨gb198, 3, none⟩ = some (.slice A197_3 ((rd_T45 l0_3 x3_2).f3).length c197_3) := (blk_cell BK198.out 3).trans rfl
                                        have hcz56_4 : wr.cell? ⟨gb198, 4, none⟩ = some (.slice A197_4 ((rd_T45 l0_3 x3_2).f4).length c197_4) := (blk_cell BK198.out 4).trans rfl
                                        have hcz56_5 : wr.cell? ⟨gb198, 5, none⟩ = some (.slice A197_5 ((rd_T45 l0_3 x3_2).f5).length c197_5) := (blk_cell BK198.out 5).trans rfl
                                        have hcz56_6 : wr.cell? ⟨gb198, 6, none⟩ = some (.slice A197_6 ((rd_T45 l0_3 x3_2).f6).length c197_6) := (blk_cell BK198.out 6).trans rfl
                                        have hfz56_0 := blk_frozen BK198.out 0
                                        have hfz56_1 := blk_frozen BK198.out 1
                                        have hfz56_2 := blk_frozen BK198.out 2
                                        have hfz56_3 := blk_frozen BK198.out 3
                                        have hfz56_4 := blk_frozen BK198.out 4
                                        have hfz56_5 := blk_frozen BK198.out 5
                                        have hfz56_6 := blk_frozen BK198.out 6
                                        go_wp2
                                        go_roundg k6
                                        case measure => have := HJ1.out; have := HK2.out; have := HJ9.out; have := HK4.out; have := HK5.out; have := HK6.out; omega
                                        case rel => exact ⟨(wrap64 (x3_2 + 1)), (by first | rfl | (simp; done) | (simp [*]; done)), H', ⟨by have := HJ1.out; have := HK2.out; have := HJ9.out; have := HK4.out; have := HK5.out; have := HK6.out; omega⟩, ⟨by (with_reducible repeat (first | refine blk_drewN ?_ _ | refine blk_drew ?_ | refine blk_alloc ?_ _)); exact BK196.out⟩, ⟨by repeat (first | (with_reducible first | exact HB.out | apply below_alloc | apply pw_below_drewN | apply below_drew1 | refine below_set ?_ GE196.out | refine below_set ?_ GE198.out) | exact HB.out)⟩⟩
              · rw [if_neg c9] at H
                exact absurd H (by simp)
            · rw [if_neg c8] at H
              have c8b0 : decide (x3_2 < (l0_3.length : Int)) = false := decide_eq_false c8
              clear c8
              obtain rfl := Option.some.inj H
              have hcz57_0 : wr.cell? ⟨gb196, 0, none⟩ = some (.int .i64 a0_0) := (blk_cell BK196.out 0).trans rfl
              have hcz57_1 : wr.cell? ⟨gb196, 1, none⟩ = some (.slice A0_1 l0_1.length c0_1) := (blk_cell BK196.out 1).trans rfl
              have hcz57_2 : wr.cell? ⟨gb196, 2, none⟩ = some (.slice A0_2 l0_2.length c0_2) := (blk_cell BK196.out 2).trans rfl
              have hcz57_3 : wr.cell? ⟨gb196, 3, none⟩ = some (.slice A0_3 l0_3.length c0_3) := (blk_cell BK196.out 3).trans rfl
              have hfz57_0 := blk_frozen BK196.out 0
              have hfz57_1 := blk_frozen BK196.out 1
              have hfz57_2 := blk_frozen BK196.out 2
              have hfz57_3 := blk_frozen BK196.out 3
              go_wp2
              go_ret
              exact ⟨by first | rfl | (simp [errW_none, errW_some] <;> rfl) | (simp [*, errW_none, errW_some] <;> rfl), by repeat (first | (with_reducible first | exact HB.out | apply below_alloc | apply pw_below_drewN | apply below_drew1 | refine below_set ?_ GE196.out) | exact HB.out)⟩

end Go.Proofs.Ytealjhngfhlpaaa.PBoundCounts
