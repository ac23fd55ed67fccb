-- Written by drive.py of this work: the kit's print.py with contracts of this work laid in.
import Derived.Test.YtiibnfnjfmcggaaDoorPCallReadsx0
import Derived.Test.YtiibnfnjfmcggaaDoorPCallReadsx23
namespace Go.Proofs.YtiibnfnjfmcggaaDoor.PCallReads
open Go.RowKit Go.Proofs.YtiibnfnjfmcggaaDoorW.PrintWords Go.Proofs.YtiibnfnjfmcggaaDoorW.PrintLast Go.Proofs.YtiibnfnjfmcggaaDoorW.PrintMore
attribute [local go_sem] max2_int min2_int max_two min_two max_three min_three max_four min_four   -- for this text's walks alone
set_option linter.unusedVariables false
set_option linter.unusedSimpArgs false

/-! ### bastilleref02_Read: function 40 -/
mutual
def bastilleref02_Read.j0 : Nat → List Int → Int → Int → Int → Bool → Option (Int × Int × List Int × (List (S43)) × Int × Int)
 | 0, _, _, _, _, _ => none
 | k + 1, x0, x1, x2, x15, x148 => if x148 = true then (some (0, 0, ([] : List Int), ([] : List (S43)), 0, 11)) else (bastilleref02_Read.l0 k x0 x1 x2 x15 0 3 0 ([] : List (S43)))
def bastilleref02_Read.l0 : Nat → List Int → Int → Int → Int → Int → Int → Int → List (S43) → Option (Int × Int × List Int × (List (S43)) × Int × Int)
 | 0, _, _, _, _, _, _, _, _ => none
 | k + 1, x0, x1, x2, x15, x18, x281000, x281001, x281003 => if x18 < x15 then ((bastilleref02_Read.f k x0 x1 (wrap64 (x2 - 1))).bind fun bt281 => (if bt281.2.2.2.2.2 = 0 then (if x281003.length < 2199023255552 then (bastilleref02_Read.l0 k x0 bt281.2.2.2.2.1 x2 x15 (wrap64 (x18 + 1)) x281000 x281001 (x281003 ++ [(⟨bt281.1, bt281.2.1, bt281.2.2.1, bt281.2.2.2.1⟩ : S43)])) else (none)) else (some (0, 0, ([] : List Int), ([] : List (S43)), 0, bt281.2.2.2.2.2)))) else (some (x281000, x281001, ([] : List Int), x281003, x1, 0))
def bastilleref02_Read.f : Nat → List Int → Int → Int → Option (Int × Int × List Int × (List (S43)) × Int × Int)
 | 0, _, _, _ => none
 | k + 1, l0, a1, a2 => if a1 ≥ (l0.length : Int) then (some (0, 0, ([] : List Int), ([] : List (S43)), 0, 10)) else (if 0 ≤ a1 then (if a1 < (l0.length : Int) then (if (wrap64 (rd l0 a1)) = 1 then (if (wrap64 (a1 + 1)) ≥ (l0.length : Int) then (some (0, 0, ([] : List Int), ([] : List (S43)), 0, 10)) else (if 0 ≤ (wrap64 (a1 + 1)) then (if (wrap64 (a1 + 1)) < (l0.length : Int) then (if (wrap64 (rd l0 (wrap64 (a1 + 1)))) > 8 then (some (0, 0, ([] : List Int), ([] : List (S43)), 0, 11)) else (if (wrap64 (rd l0 (wrap64 (a1 + 1)))) > (wrap64 ((l0.length : Int) - (wrap64 ((wrap64 (a1 + 1)) + 1)))) then (some (0, 0, ([] : List Int), ([] : List (S43)), 0, 10)) else (if (wrap64 (rd l0 (wrap64 (a1 + 1)))) = 0 then (some (1, 0, ([] : List Int), ([] : List (S43)), wrap64 ((wrap64 (a1 + 1)) + 1), 0)) else (if 0 ≤ (wrap64 ((wrap64 (a1 + 1)) + 1)) then (if (wrap64 ((wrap64 (a1 + 1)) + 1)) ≤ (wrap64 ((wrap64 ((wrap64 (a1 + 1)) + 1)) + (wrap64 (rd l0 (wrap64 (a1 + 1)))))) then (if (wrap64 ((wrap64 ((wrap64 (a1 + 1)) + 1)) + (wrap64 (rd l0 (wrap64 (a1 + 1)))))) ≤ (l0.length : Int) then ((bastilleref01_Get.f k ((l0.take ((wrap64 ((wrap64 ((wrap64 (a1 + 1)) + 1)) + (wrap64 (rd l0 (wrap64 (a1 + 1)))))) : Int).toNat).drop ((wrap64 ((wrap64 (a1 + 1)) + 1)) : Int).toNat)).bind fun bt258 => (if bt258.2 = 0 then (if (wrap64 ((wrap64 (a1 + 1)) + 1)) < (l0.length : Int) then (if (rd l0 (wrap64 ((wrap64 (a1 + 1)) + 1))) = 0 then (some (0, 0, ([] : List Int), ([] : List (S43)), 0, 11)) else (some (1, bt258.1, ([] : List Int), ([] : List (S43)), wrap64 ((wrap64 ((wrap64 (a1 + 1)) + 1)) + (wrap64 (rd l0 (wrap64 (a1 + 1))))), 0))) else (none)) else (some (0, 0, ([] : List Int), ([] : List (S43)), 0, 11)))) else (none)) else (none)) else (none))))) else (none)) else (none))) else (if (wrap64 (rd l0 a1)) = 2 then (if (wrap64 ((l0.length : Int) - (wrap64 (a1 + 1)))) < 3 then (some (0, 0, ([] : List Int), ([] : List (S43)), 0, 10)) else (if 0 ≤ (wrap64 (a1 + 1)) then (if (wrap64 (a1 + 1)) ≤ (wrap64 ((wrap64 (a1 + 1)) + 3)) then (if (wrap64 ((wrap64 (a1 + 1)) + 3)) ≤ (l0.length : Int) then ((bastilleref01_Get.f k ((l0.take ((wrap64 ((wrap64 (a1 + 1)) + 3)) : Int).toNat).drop ((wrap64 (a1 + 1)) : Int).toNat)).bind fun bt266 => (if bt266.1 > (wrap64 ((l0.length : Int) - (wrap64 ((wrap64 (a1 + 1)) + 3)))) then (some (0, 0, ([] : List Int), ([] : List (S43)), 0, 10)) else (if 0 ≤ (wrap64 ((wrap64 (a1 + 1)) + 3)) then (if (wrap64 ((wrap64 (a1 + 1)) + 3)) ≤ (wrap64 ((wrap64 ((wrap64 (a1 + 1)) + 3)) + bt266.1)) then (if (wrap64 ((wrap64 ((wrap64 (a1 + 1)) + 3)) + bt266.1)) ≤ (l0.length : Int) then (some (2, 0, ((l0.take ((wrap64 ((wrap64 ((wrap64 (a1 + 1)) + 3)) + bt266.1)) : Int).toNat).drop ((wrap64 ((wrap64 (a1 + 1)) + 3)) : Int).toNat), ([] : List (S43)), wrap64 ((wrap64 ((wrap64 (a1 + 1)) + 3)) + bt266.1), 0)) else (none)) else (none)) else (none)))) else (none)) else (none)) else (none))) else (if (wrap64 (rd l0 a1)) = 3 then (if (wrap64 ((l0.length : Int) - (wrap64 (a1 + 1)))) < 2 then (some (0, 0, ([] : List Int), ([] : List (S43)), 0, 10)) else (if 0 ≤ (wrap64 (a1 + 1)) then (if (wrap64 (a1 + 1)) ≤ (wrap64 ((wrap64 (a1 + 1)) + 2)) then (if (wrap64 ((wrap64 (a1 + 1)) + 2)) ≤ (l0.length : Int) then ((bastilleref01_Get.f k ((l0.take ((wrap64 ((wrap64 (a1 + 1)) + 2)) : Int).toNat).drop ((wrap64 (a1 + 1)) : Int).toNat)).bind fun bt278 => (if bt278.1 > 4096 then (bastilleref02_Read.j0 k l0 (wrap64 ((wrap64 (a1 + 1)) + 2)) a2 bt278.1 true) else (bastilleref02_Read.j0 k l0 (wrap64 ((wrap64 (a1 + 1)) + 2)) a2 bt278.1 (a2 == 0)))) else (none)) else (none)) else (none))) else (some (0, 0, ([] : List Int), ([] : List (S43)), 0, 11))))) else (none)) else (none))
end
theorem bastilleref02_Read.mono_l : ∀ k, (∀ y0 y1 y2, LeO (bastilleref02_Read.f k y0 y1 y2) (bastilleref02_Read.f (k + 1) y0 y1 y2)) ∧ (∀ y0 y1 y2 y3 y4, LeO (bastilleref02_Read.j0 k y0 y1 y2 y3 y4) (bastilleref02_Read.j0 (k + 1) y0 y1 y2 y3 y4)) ∧ (∀ y0 y1 y2 y3 y4 y5 y6 y7, LeO (bastilleref02_Read.l0 k y0 y1 y2 y3 y4 y5 y6 y7) (bastilleref02_Read.l0 (k + 1) y0 y1 y2 y3 y4 y5 y6 y7))
 | 0 => ⟨fun _ _ _ r h => by simp [bastilleref02_Read.f] at h, fun _ _ _ _ _ r h => by simp [bastilleref02_Read.j0] at h, fun _ _ _ _ _ _ _ _ r h => by simp [bastilleref02_Read.l0] at h⟩
 | k + 1 => by
  obtain ⟨ih0, ih1, ih2⟩ := bastilleref02_Read.mono_l k
  refine ⟨?_, ?_, ?_⟩
  ·intro y0 y1 y2
   unfold bastilleref02_Read.f
   repeat' first
   | (with_reducible exact ih0 _ _ _)
   | (with_reducible exact ih1 _ _ _ _ _)
   | (with_reducible exact ih2 _ _ _ _ _ _ _ _)
   | (with_reducible exact bastilleref01_Get.mono _ _)
   | (with_reducible exact LeO.refl _)
   | (with_reducible exact LeO.none _)
   | (with_reducible refine LeO.ite ?_ ?_)
   | (with_reducible refine LeO.bind ?_ (fun _ => ?_))
   | exact ih0 _ _ _
   | exact ih1 _ _ _ _ _
   | exact ih2 _ _ _ _ _ _ _ _
   | exact bastilleref01_Get.mono _ _
   | exact LeO.none _
   | refine LeO.ite ?_ ?_
   | refine LeO.bind ?_ (fun _ => ?_)
  ·intro y0 y1 y2 y3 y4
   unfold bastilleref02_Read.j0
   repeat' first
   | (with_reducible exact ih0 _ _ _)
   | (with_reducible exact ih1 _ _ _ _ _)
   | (with_reducible exact ih2 _ _ _ _ _ _ _ _)
   | (with_reducible exact bastilleref01_Get.mono _ _)
   | (with_reducible exact LeO.refl _)
   | (with_reducible exact LeO.none _)
   | (with_reducible refine LeO.ite ?_ ?_)
   | (with_reducible refine LeO.bind ?_ (fun _ => ?_))
   | exact ih0 _ _ _
   | exact ih1 _ _ _ _ _
   | exact ih2 _ _ _ _ _ _ _ _
   | exact bastilleref01_Get.mono _ _
   | exact LeO.none _
   | refine LeO.ite ?_ ?_
   | refine LeO.bind ?_ (fun _ => ?_)
  ·intro y0 y1 y2 y3 y4 y5 y6 y7
   unfold bastilleref02_Read.l0
   repeat' first
   | (with_reducible exact ih0 _ _ _)
   | (with_reducible exact ih1 _ _ _ _ _)
   | (with_reducible exact ih2 _ _ _ _ _ _ _ _)
   | (with_reducible exact bastilleref01_Get.mono _ _)
   | (with_reducible exact LeO.refl _)
   | (with_reducible exact LeO.none _)
   | (with_reducible refine LeO.ite ?_ ?_)
   | (with_reducible refine LeO.bind ?_ (fun _ => ?_))
   | exact ih0 _ _ _
   | exact ih1 _ _ _ _ _
   | exact ih2 _ _ _ _ _ _ _ _
   | exact bastilleref01_Get.mono _ _
   | exact LeO.none _
   | refine LeO.ite ?_ ?_
   | refine LeO.bind ?_ (fun _ => ?_)
theorem bastilleref02_Read.mono : ∀ a0 a1 a2 k, LeO (bastilleref02_Read.f k a0 a1 a2) (bastilleref02_Read.f (k + 1) a0 a1 a2) := by
 intro a0 a1 a2 k
 obtain ⟨ih0, ih1, ih2⟩ := bastilleref02_Read.mono_l k
 exact ih0 a0 a1 a2
set_option maxHeartbeats 8000000 in
set_option maxRecDepth 100000 in
theorem bastilleref02_Read.calls (k : Nat) : ∀ (P0_ : Nat → Prop) (A0 : Option Addr) (c0 : Nat) (l0 : List Int) (a1 : Int) (a2 : Int) (r1 : Int) (r2 : Int) (r3 : List Int) (r4 : List (S43)) (r5 : Int) (r6 : Int) (w : World) (hs0 : Kd.V (Kd.int .u8) 5 w w.heap.size (fun k_ => P0_ k_) (.slice A0 l0.length c0) l0) (h : bastilleref02_Read.f k l0 a1 a2 = some (r1, r2, r3, r4, r5, r6)),
  Calls Tryd.prog 40 #[.slice A0 l0.length c0, .int .i64 a1, .int .i64 a2] w fun e w' => ∃ v2_ v3_ : Value, e = .returned (.tuple #[.agg #[.int .i64 r1, .int .i64 r2, v2_, v3_], .int .i64 r5, .int .i64 r6]) ∧ Kd.V (Kd.int .u8) 5 w' w.heap.size (fun k_ => (P0_ k_ ∨ w.heap.size ≤ k_) ∧ some k_ ≠ (v3_ : Value).ownBlock) v2_ r3 ∧ Kd.N k43 43 w' w.heap.size (fun k_ => (P0_ k_ ∨ w.heap.size ≤ k_)) v3_ r4 ∧ Below w.heap.size w w' := by
 induction k using Nat.strongRecOn with
 | _ k ih =>
 intro P0_ A0 c0 l0 a1 a2 r1 r2 r3 r4 r5 r6 w hs0 h
 cases k with
 | zero => exact absurd h (by simp [bastilleref02_Read.f])
 | succ k =>
 simp only [bastilleref02_Read.f] at h
 have hu43 := Tryd.underlying43
 have HO0 := Aside0.mk (show Kd.V (Kd.int .u8) 5 w w.heap.size (fun k_ => (P0_ k_ ∨ w.heap.size ≤ k_)) (.slice A0 l0.length c0) l0 from Kd.V_mono hs0 (fun k_ hk => .inl hk))
 have HB := Aside0.mk (Below.refl w.heap.size w)
 have H : (if a1 ≥ (l0.length : Int) then (some (0, 0, ([] : List Int), ([] : List (S43)), 0, 10)) else (if 0 ≤ a1 then (if a1 < (l0.length : Int) then (if (wrap64 (rd l0 a1)) = 1 then (if (wrap64 (a1 + 1)) ≥ (l0.length : Int) then (some (0, 0, ([] : List Int), ([] : List (S43)), 0, 10)) else (if 0 ≤ (wrap64 (a1 + 1)) then (if (wrap64 (a1 + 1)) < (l0.length : Int) then (if (wrap64 (rd l0 (wrap64 (a1 + 1)))) > 8 then (some (0, 0, ([] : List Int), ([] : List (S43)), 0, 11)) else (if (wrap64 (rd l0 (wrap64 (a1 + 1)))) > (wrap64 ((l0.length : Int) - (wrap64 ((wrap64 (a1 + 1)) + 1)))) then (some (0, 0, ([] : List Int), ([] : List (S43)), 0, 10)) else (if (wrap64 (rd l0 (wrap64 (a1 + 1)))) = 0 then (some (1, 0, ([] : List Int), ([] : List (S43)), wrap64 ((wrap64 (a1 + 1)) + 1), 0)) else (if 0 ≤ (wrap64 ((wrap64 (a1 + 1)) + 1)) then (if (wrap64 ((wrap64 (a1 + 1)) + 1)) ≤ (wrap64 ((wrap64 ((wrap64 (a1 + 1)) + 1)) + (wrap64 (rd l0 (wrap64 (a1 + 1)))))) then (if (wrap64 ((wrap64 ((wrap64 (a1 + 1)) + 1)) + (wrap64 (rd l0 (wrap64 (a1 + 1)))))) ≤ (l0.length : Int) then ((bastilleref01_Get.f k ((l0.take ((wrap64 ((wrap64 ((wrap64 (a1 + 1)) + 1)) + (wrap64 (rd l0 (wrap64 (a1 + 1)))))) : Int).toNat).drop ((wrap64 ((wrap64 (a1 + 1)) + 1)) : Int).toNat)).bind fun bt258 => (if bt258.2 = 0 then (if (wrap64 ((wrap64 (a1 + 1)) + 1)) < (l0.length : Int) then (if (rd l0 (wrap64 ((wrap64 (a1 + 1)) + 1))) = 0 then (some (0, 0, ([] : List Int), ([] : List (S43)), 0, 11)) else (some (1, bt258.1, ([] : List Int), ([] : List (S43)), wrap64 ((wrap64 ((wrap64 (a1 + 1)) + 1)) + (wrap64 (rd l0 (wrap64 (a1 + 1))))), 0))) else (none)) else (some (0, 0, ([] : List Int), ([] : List (S43)), 0, 11)))) else (none)) else (none)) else (none))))) else (none)) else (none))) else (if (wrap64 (rd l0 a1)) = 2 then (if (wrap64 ((l0.length : Int) - (wrap64 (a1 + 1)))) < 3 then (some (0, 0, ([] : List Int), ([] : List (S43)), 0, 10)) else (if 0 ≤ (wrap64 (a1 + 1)) then (if (wrap64 (a1 + 1)) ≤ (wrap64 ((wrap64 (a1 + 1)) + 3)) then (if (wrap64 ((wrap64 (a1 + 1)) + 3)) ≤ (l0.length : Int) then ((bastilleref01_Get.f k ((l0.take ((wrap64 ((wrap64 (a1 + 1)) + 3)) : Int).toNat).drop ((wrap64 (a1 + 1)) : Int).toNat)).bind fun bt266 => (if bt266.1 > (wrap64 ((l0.length : Int) - (wrap64 ((wrap64 (a1 + 1)) + 3)))) then (some (0, 0, ([] : List Int), ([] : List (S43)), 0, 10)) else (if 0 ≤ (wrap64 ((wrap64 (a1 + 1)) + 3)) then (if (wrap64 ((wrap64 (a1 + 1)) + 3)) ≤ (wrap64 ((wrap64 ((wrap64 (a1 + 1)) + 3)) + bt266.1)) then (if (wrap64 ((wrap64 ((wrap64 (a1 + 1)) + 3)) + bt266.1)) ≤ (l0.length : Int) then (some (2, 0, ((l0.take ((wrap64 ((wrap64 ((wrap64 (a1 + 1)) + 3)) + bt266.1)) : Int).toNat).drop ((wrap64 ((wrap64 (a1 + 1)) + 3)) : Int).toNat), ([] : List (S43)), wrap64 ((wrap64 ((wrap64 (a1 + 1)) + 3)) + bt266.1), 0)) else (none)) else (none)) else (none)))) else (none)) else (none)) else (none))) else (if (wrap64 (rd l0 a1)) = 3 then (if (wrap64 ((l0.length : Int) - (wrap64 (a1 + 1)))) < 2 then (some (0, 0, ([] : List Int), ([] : List (S43)), 0, 10)) else (if 0 ≤ (wrap64 (a1 + 1)) then (if (wrap64 (a1 + 1)) ≤ (wrap64 ((wrap64 (a1 + 1)) + 2)) then (if (wrap64 ((wrap64 (a1 + 1)) + 2)) ≤ (l0.length : Int) then ((bastilleref01_Get.f k ((l0.take ((wrap64 ((wrap64 (a1 + 1)) + 2)) : Int).toNat).drop ((wrap64 (a1 + 1)) : Int).toNat)).bind fun bt278 => (if bt278.1 > 4096 then (bastilleref02_Read.j0 k l0 (wrap64 ((wrap64 (a1 + 1)) + 2)) a2 bt278.1 true) else (bastilleref02_Read.j0 k l0 (wrap64 ((wrap64 (a1 + 1)) + 2)) a2 bt278.1 (a2 == 0)))) else (none)) else (none)) else (none))) else (some (0, 0, ([] : List Int), ([] : List (S43)), 0, 11))))) else (none)) else (none))) = some (r1, r2, r3, r4, r5, r6) := h
 clear h
 by_cases c4 : a1 ≥ (l0.length : Int)
 ·rw [if_pos c4] at H
  have c4b0 : decide ((l0.length : Int) ≤ a1) = true := decide_eq_true c4
  clear c4
  simp only [Option.some.injEq, Prod.mk.injEq] at H
  obtain ⟨rfl, rfl, rfl, rfl, rfl, rfl⟩ := H
  go_enter Tryd.func40, Tryd.ntmps40
  go_wp2_with (first | ((with_reducible refine gate_dst (N := 6) rfl ?_); refine box_event ?hg (N := 6) ?hd (cs := #[.int .i64 0, .int .i64 0, .slice none 0 0, .slice none 0 0]) (t := 43) ?hr ?_; (case hd => rfl); (case hg => rfl); (case hr => first | (go_simp; done) | (go_simp; rfl)); intro gb250 hg w5 hbox hb; have n0_ := Aside0.mk (Kd.V_below (Kd.V_elderB (by (with_reducible repeat (first | apply Kd.V_alloc | apply Kd.V_drewN | apply Kd.V_drew)); exact HO0.out) gb250 (Nat.le_of_eq hg.symm)) hb); have n1_ := Aside0.mk (below_step (by repeat (first | (with_reducible first | exact HB.out | apply below_alloc | apply pw_below_drewN | apply below_drew1) | exact HB.out)) hb); have n2_ := Aside0.mk (hbox); have n3_ := Aside0.mk ((by rw [hg]; exact (below_size (by repeat (first | (with_reducible first | exact HB.out | apply below_alloc | apply pw_below_drewN | apply below_drew1) | exact HB.out))) : w.heap.size ≤ gb250)); have n4_ := Aside0.mk ((by rw [hg]; exact (below_size (by repeat (first | (with_reducible first | exact HB.out | apply below_alloc | apply pw_below_drewN | apply below_drew1) | exact HB.out))) : w.heap.size ≤ gb250)); clear HO0; clear HB; have HO0 := n0_; have HB := n1_; have BK250 := n2_; have GW250 := n3_; have GE250 := n4_; clear n0_ n1_ n2_ n3_ n4_; clear hb hbox hg; have hcz6_0 : w5.cell? ⟨gb250, 0, none⟩ = some (.int .i64 0) := (blk_cell BK250.out 0).trans rfl; have hcz6_1 : w5.cell? ⟨gb250, 1, none⟩ = some (.int .i64 0) := (blk_cell BK250.out 1).trans rfl; have hcz6_2 : w5.cell? ⟨gb250, 2, none⟩ = some (.slice none 0 0) := (blk_cell BK250.out 2).trans rfl; have hcz6_3 : w5.cell? ⟨gb250, 3, none⟩ = some (.slice none 0 0) := (blk_cell BK250.out 3).trans rfl; have hfz6_0 := blk_frozen BK250.out 0; have hfz6_1 := blk_frozen BK250.out 1; have hfz6_2 := blk_frozen BK250.out 2; have hfz6_3 := blk_frozen BK250.out 3))
  refine bodyPost_ret (results_ctt rfl _ _ gb250 43 #[.int .i64 0, .int .i64 0, .slice none 0 0, .slice none 0 0] (0, 0) _ rfl (by (with_reducible repeat (first | refine blk_drewN ?_ _ | refine blk_drew ?_ | refine blk_alloc ?_ _)); refine blk_put (cs := #[.int .i64 0, .int .i64 0, .slice none 0 0, .slice none 0 0]) ?_ 3 _ rfl; (with_reducible repeat (first | refine blk_drewN ?_ _ | refine blk_drew ?_ | refine blk_alloc ?_ _)); refine blk_put (cs := #[.int .i64 0, .int .i64 0, .slice none 0 0, .slice none 0 0]) ?_ 2 _ rfl; (with_reducible repeat (first | refine blk_drewN ?_ _ | refine blk_drew ?_ | refine blk_alloc ?_ _)); refine blk_put (cs := #[.int .i64 0, .int .i64 0, .slice none 0 0, .slice none 0 0]) ?_ 1 _ rfl; (with_reducible repeat (first | refine blk_drewN ?_ _ | refine blk_drew ?_ | refine blk_alloc ?_ _)); refine blk_put (cs := #[.int .i64 0, .int .i64 0, .slice none 0 0, .slice none 0 0]) ?_ 0 _ rfl; (with_reducible repeat (first | refine blk_drewN ?_ _ | refine blk_drew ?_ | refine blk_alloc ?_ _)); exact BK250.out) Tryd.underlying43 rfl (by kernel_rfl)) rfl ?_
  exact ⟨_, _, by first | rfl | (simp [errW_none, errW_some] <;> rfl) | (simp [*, errW_none, errW_some] <;> rfl), Kd.V_nil _ _ _ _ _, by first | exact Kd.N_nil _ _ _ _ _ | exact Kd.R_nil _ _ _ _ _, by repeat (first | (with_reducible first | exact HB.out | apply below_alloc | apply pw_below_drewN | apply below_drew1 | refine below_set ?_ GE250.out) | exact HB.out)⟩
 ·rw [if_neg c4] at H
  have c4b0 : decide ((l0.length : Int) ≤ a1) = false := decide_eq_false c4
  clear c4
  by_cases c7 : 0 ≤ a1
  ·rw [if_pos c7] at H
   have c7b0 : decide (0 ≤ a1) = true := decide_eq_true c7
   clear c7
   by_cases c8 : a1 < (l0.length : Int)
   ·rw [if_pos c8] at H
    have c8b0 : decide (a1 < (l0.length : Int)) = true := decide_eq_true c8
    clear c8
    by_cases c9 : (wrap64 (rd l0 a1)) = 1
    ·rw [if_pos c9] at H
     have c9b0 : ((wrap64 (rd l0 a1)) == 1) = true := beq_iff_eq.mpr c9
     have c9b1 : ((wrap64 (rd l0 a1)) != 1) = false := bne_eq_false_iff_eq.mpr c9
     clear c9
     by_cases c10 : (wrap64 (a1 + 1)) ≥ (l0.length : Int)
     ·rw [if_pos c10] at H
      have c10b0 : decide ((l0.length : Int) ≤ (wrap64 (a1 + 1))) = true := decide_eq_true c10
      clear c10
      simp only [Option.some.injEq, Prod.mk.injEq] at H
      obtain ⟨rfl, rfl, rfl, rfl, rfl, rfl⟩ := H
      go_enter Tryd.func40, Tryd.ntmps40
      go_wp2_with (first | ((with_reducible refine gate_dst (N := 6) rfl ?_); refine box_event ?hg (N := 6) ?hd (cs := #[.int .i64 0, .int .i64 0, .slice none 0 0, .slice none 0 0]) (t := 43) ?hr ?_; (case hd => rfl); (case hg => rfl); (case hr => first | (go_simp; done) | (go_simp; rfl)); intro gb250 hg w11 hbox hb; have n0_ := Aside0.mk (Kd.V_below (Kd.V_elderB (by (with_reducible repeat (first | apply Kd.V_alloc | apply Kd.V_drewN | apply Kd.V_drew)); exact HO0.out) gb250 (Nat.le_of_eq hg.symm)) hb); have n1_ := Aside0.mk (below_step (by repeat (first | (with_reducible first | exact HB.out | apply below_alloc | apply pw_below_drewN | apply below_drew1) | exact HB.out)) hb); have n2_ := Aside0.mk (hbox); have n3_ := Aside0.mk ((by rw [hg]; exact (below_size (by repeat (first | (with_reducible first | exact HB.out | apply below_alloc | apply pw_below_drewN | apply below_drew1) | exact HB.out))) : w.heap.size ≤ gb250)); have n4_ := Aside0.mk ((by rw [hg]; exact (below_size (by repeat (first | (with_reducible first | exact HB.out | apply below_alloc | apply pw_below_drewN | apply below_drew1) | exact HB.out))) : w.heap.size ≤ gb250)); clear HO0; clear HB; have HO0 := n0_; have HB := n1_; have BK250 := n2_; have GW250 := n3_; have GE250 := n4_; clear n0_ n1_ n2_ n3_ n4_; clear hb hbox hg; have p251 : 0 ≤ (a1 : Int) := of_decide_eq_true (by first | (with_reducible assumption) | assumption); have q251 : a1 < (l0.length : Int) := of_decide_eq_true (by first | (with_reducible assumption) | assumption); obtain ⟨ad251, e251, hx251_0⟩ := Kd.at_int (Kd.V_reads' HO0.out).2.2 a1 p251 q251; cases e251; replace p251 := eq_true p251; replace q251 := eq_true q251; have hcz12_0 : w11.cell? ⟨gb250, 0, none⟩ = some (.int .i64 0) := (blk_cell BK250.out 0).trans rfl; have hcz12_1 : w11.cell? ⟨gb250, 1, none⟩ = some (.int .i64 0) := (blk_cell BK250.out 1).trans rfl; have hcz12_2 : w11.cell? ⟨gb250, 2, none⟩ = some (.slice none 0 0) := (blk_cell BK250.out 2).trans rfl; have hcz12_3 : w11.cell? ⟨gb250, 3, none⟩ = some (.slice none 0 0) := (blk_cell BK250.out 3).trans rfl; have hfz12_0 := blk_frozen BK250.out 0; have hfz12_1 := blk_frozen BK250.out 1; have hfz12_2 := blk_frozen BK250.out 2; have hfz12_3 := blk_frozen BK250.out 3))
      refine bodyPost_ret (results_ctt rfl _ _ gb250 43 #[.int .i64 0, .int .i64 0, .slice none 0 0, .slice none 0 0] (0, 0) _ rfl (by (with_reducible repeat (first | refine blk_drewN ?_ _ | refine blk_drew ?_ | refine blk_alloc ?_ _)); refine blk_put (cs := #[.int .i64 0, .int .i64 0, .slice none 0 0, .slice none 0 0]) ?_ 3 _ rfl; (with_reducible repeat (first | refine blk_drewN ?_ _ | refine blk_drew ?_ | refine blk_alloc ?_ _)); refine blk_put (cs := #[.int .i64 0, .int .i64 0, .slice none 0 0, .slice none 0 0]) ?_ 2 _ rfl; (with_reducible repeat (first | refine blk_drewN ?_ _ | refine blk_drew ?_ | refine blk_alloc ?_ _)); refine blk_put (cs := #[.int .i64 0, .int .i64 0, .slice none 0 0, .slice none 0 0]) ?_ 1 _ rfl; (with_reducible repeat (first | refine blk_drewN ?_ _ | refine blk_drew ?_ | refine blk_alloc ?_ _)); refine blk_put (cs := #[.int .i64 0, .int .i64 0, .slice none 0 0, .slice none 0 0]) ?_ 0 _ rfl; (with_reducible repeat (first | refine blk_drewN ?_ _ | refine blk_drew ?_ | refine blk_alloc ?_ _)); exact BK250.out) Tryd.underlying43 rfl (by kernel_rfl)) rfl ?_
      exact ⟨_, _, by first | rfl | (simp [errW_none, errW_some] <;> rfl) | (simp [*, errW_none, errW_some] <;> rfl), Kd.V_nil _ _ _ _ _, by first | exact Kd.N_nil _ _ _ _ _ | exact Kd.R_nil _ _ _ _ _, by repeat (first | (with_reducible first | exact HB.out | apply below_alloc | apply pw_below_drewN | apply below_drew1 | refine below_set ?_ GE250.out) | exact HB.out)⟩
     ·rw [if_neg c10] at H
      have c10b0 : decide ((l0.length : Int) ≤ (wrap64 (a1 + 1))) = false := decide_eq_false c10
      clear c10
      obtain ⟨ji13, hji13⟩ : ∃ j_ : Int, (wrap64 (a1 + 1)) = j_ := ⟨_, rfl⟩
      replace H : (if 0 ≤ (ji13) then (if (ji13) < (l0.length : Int) then (if (wrap64 (rd l0 (ji13))) > 8 then (some (0, 0, ([] : List Int), ([] : List (S43)), 0, 11)) else (if (wrap64 (rd l0 (ji13))) > (wrap64 ((l0.length : Int) - (wrap64 ((ji13) + 1)))) then (some (0, 0, ([] : List Int), ([] : List (S43)), 0, 10)) else (if (wrap64 (rd l0 (ji13))) = 0 then (some (1, 0, ([] : List Int), ([] : List (S43)), wrap64 ((ji13) + 1), 0)) else (if 0 ≤ (wrap64 ((ji13) + 1)) then (if (wrap64 ((ji13) + 1)) ≤ (wrap64 ((wrap64 ((ji13) + 1)) + (wrap64 (rd l0 (ji13))))) then (if (wrap64 ((wrap64 ((ji13) + 1)) + (wrap64 (rd l0 (ji13))))) ≤ (l0.length : Int) then ((bastilleref01_Get.f k ((l0.take ((wrap64 ((wrap64 ((ji13) + 1)) + (wrap64 (rd l0 (ji13))))) : Int).toNat).drop ((wrap64 ((ji13) + 1)) : Int).toNat)).bind fun bt258 => (if bt258.2 = 0 then (if (wrap64 ((ji13) + 1)) < (l0.length : Int) then (if (rd l0 (wrap64 ((ji13) + 1))) = 0 then (some (0, 0, ([] : List Int), ([] : List (S43)), 0, 11)) else (some (1, bt258.1, ([] : List Int), ([] : List (S43)), wrap64 ((wrap64 ((ji13) + 1)) + (wrap64 (rd l0 (ji13)))), 0))) else (none)) else (some (0, 0, ([] : List Int), ([] : List (S43)), 0, 11)))) else (none)) else (none)) else (none))))) else (none)) else (none)) = some (r1, r2, r3, r4, r5, r6) := by first | (rw [hji13] at H; exact H) | (simp only [hji13] at H ⊢; exact H)
      (try rw [hji13] at c10b0)
      have hji13w : (IntKind.i64.wrap (a1 + 1)) = ji13 := (i64_w _).trans hji13
      by_cases c14 : 0 ≤ (ji13)
      ·rw [if_pos c14] at H
       have c14b0 : decide (0 ≤ (ji13)) = true := decide_eq_true c14
       clear c14
       by_cases c15 : (ji13) < (l0.length : Int)
       ·rw [if_pos c15] at H
        have c15b0 : decide ((ji13) < (l0.length : Int)) = true := decide_eq_true c15
        clear c15
        by_cases c16 : (wrap64 (rd l0 (ji13))) > 8
        ·rw [if_pos c16] at H
         have c16b0 : decide (8 < (wrap64 (rd l0 (ji13)))) = true := decide_eq_true c16
         clear c16
         simp only [Option.some.injEq, Prod.mk.injEq] at H
         obtain ⟨rfl, rfl, rfl, rfl, rfl, rfl⟩ := H
         go_enter Tryd.func40, Tryd.ntmps40
         go_wp2_with (first | ((with_reducible refine gate_dst (N := 6) rfl ?_); refine box_event ?hg (N := 6) ?hd (cs := #[.int .i64 0, .int .i64 0, .slice none 0 0, .slice none 0 0]) (t := 43) ?hr ?_; (case hd => rfl); (case hg => rfl); (case hr => first | (go_simp; done) | (go_simp; rfl)); intro gb250 hg w17 hbox hb; have n0_ := Aside0.mk (Kd.V_below (Kd.V_elderB (by (with_reducible repeat (first | apply Kd.V_alloc | apply Kd.V_drewN | apply Kd.V_drew)); exact HO0.out) gb250 (Nat.le_of_eq hg.symm)) hb); have n1_ := Aside0.mk (below_step (by repeat (first | (with_reducible first | exact HB.out | apply below_alloc | apply pw_below_drewN | apply below_drew1) | exact HB.out)) hb); have n2_ := Aside0.mk (hbox); have n3_ := Aside0.mk ((by rw [hg]; exact (below_size (by repeat (first | (with_reducible first | exact HB.out | apply below_alloc | apply pw_below_drewN | apply below_drew1) | exact HB.out))) : w.heap.size ≤ gb250)); have n4_ := Aside0.mk ((by rw [hg]; exact (below_size (by repeat (first | (with_reducible first | exact HB.out | apply below_alloc | apply pw_below_drewN | apply below_drew1) | exact HB.out))) : w.heap.size ≤ gb250)); clear HO0; clear HB; have HO0 := n0_; have HB := n1_; have BK250 := n2_; have GW250 := n3_; have GE250 := n4_; clear n0_ n1_ n2_ n3_ n4_; clear hb hbox hg; have p251 : 0 ≤ (a1 : Int) := of_decide_eq_true (by first | (with_reducible assumption) | assumption); have q251 : a1 < (l0.length : Int) := of_decide_eq_true (by first | (with_reducible assumption) | assumption); obtain ⟨ad251, e251, hx251_0⟩ := Kd.at_int (Kd.V_reads' HO0.out).2.2 a1 p251 q251; cases e251; replace p251 := eq_true p251; replace q251 := eq_true q251; have p252 : 0 ≤ ((ji13) : Int) := of_decide_eq_true (by first | (with_reducible assumption) | assumption); have q252 : (ji13) < (l0.length : Int) := of_decide_eq_true (by first | (with_reducible assumption) | assumption); obtain ⟨ad252, e252, hx252_0⟩ := Kd.at_int (Kd.V_reads' HO0.out).2.2 (ji13) p252 q252; obtain rfl : ad251 = ad252 := (by injection e252); replace p252 := eq_true p252; replace q252 := eq_true q252; have hcz18_0 : w17.cell? ⟨gb250, 0, none⟩ = some (.int .i64 0) := (blk_cell BK250.out 0).trans rfl; have hcz18_1 : w17.cell? ⟨gb250, 1, none⟩ = some (.int .i64 0) := (blk_cell BK250.out 1).trans rfl; have hcz18_2 : w17.cell? ⟨gb250, 2, none⟩ = some (.slice none 0 0) := (blk_cell BK250.out 2).trans rfl; have hcz18_3 : w17.cell? ⟨gb250, 3, none⟩ = some (.slice none 0 0) := (blk_cell BK250.out 3).trans rfl; have hfz18_0 := blk_frozen BK250.out 0; have hfz18_1 := blk_frozen BK250.out 1; have hfz18_2 := blk_frozen BK250.out 2; have hfz18_3 := blk_frozen BK250.out 3))
         refine bodyPost_ret (results_ctt rfl _ _ gb250 43 #[.int .i64 0, .int .i64 0, .slice none 0 0, .slice none 0 0] (0, 0) _ rfl (by (with_reducible repeat (first | refine blk_drewN ?_ _ | refine blk_drew ?_ | refine blk_alloc ?_ _)); refine blk_put (cs := #[.int .i64 0, .int .i64 0, .slice none 0 0, .slice none 0 0]) ?_ 3 _ rfl; (with_reducible repeat (first | refine blk_drewN ?_ _ | refine blk_drew ?_ | refine blk_alloc ?_ _)); refine blk_put (cs := #[.int .i64 0, .int .i64 0, .slice none 0 0, .slice none 0 0]) ?_ 2 _ rfl; (with_reducible repeat (first | refine blk_drewN ?_ _ | refine blk_drew ?_ | refine blk_alloc ?_ _)); refine blk_put (cs := #[.int .i64 0, .int .i64 0, .slice none 0 0, .slice none 0 0]) ?_ 1 _ rfl; (with_reducible repeat (first | refine blk_drewN ?_ _ | refine blk_drew ?_ | refine blk_alloc ?_ _)); refine blk_put (cs := #[.int .i64 0, .int .i64 0, .slice none 0 0, .slice none 0 0]) ?_ 0 _ rfl; (with_reducible repeat (first | refine blk_drewN ?_ _ | refine blk_drew ?_ | refine blk_alloc ?_ _)); exact BK250.out) Tryd.underlying43 rfl (by kernel_rfl)) rfl ?_
         exact ⟨_, _, by first | rfl | (simp [errW_none, errW_some] <;> rfl) | (simp only [← hji13]; first | rfl | (simp [errW_none, errW_some] <;> rfl)) | (simp [*, errW_none, errW_some] <;> rfl), Kd.V_nil _ _ _ _ _, by first | exact Kd.N_nil _ _ _ _ _ | exact Kd.R_nil _ _ _ _ _, by repeat (first | (with_reducible first | exact HB.out | apply below_alloc | apply pw_below_drewN | apply below_drew1 | refine below_set ?_ GE250.out) | exact HB.out)⟩
        ·rw [if_neg c16] at H
         have c16b0 : decide (8 < (wrap64 (rd l0 (ji13)))) = false := decide_eq_false c16
         clear c16
         by_cases c19 : (wrap64 (rd l0 (ji13))) > (wrap64 ((l0.length : Int) - (wrap64 ((ji13) + 1))))
         ·rw [if_pos c19] at H
          have c19b0 : decide ((wrap64 ((l0.length : Int) - (wrap64 ((ji13) + 1)))) < (wrap64 (rd l0 (ji13)))) = true := decide_eq_true c19
          clear c19
          simp only [Option.some.injEq, Prod.mk.injEq] at H
          obtain ⟨rfl, rfl, rfl, rfl, rfl, rfl⟩ := H
          go_enter Tryd.func40, Tryd.ntmps40
          go_wp2_with (first | ((with_reducible refine gate_dst (N := 6) rfl ?_); refine box_event ?hg (N := 6) ?hd (cs := #[.int .i64 0, .int .i64 0, .slice none 0 0, .slice none 0 0]) (t := 43) ?hr ?_; (case hd => rfl); (case hg => rfl); (case hr => first | (go_simp; done) | (go_simp; rfl)); intro gb250 hg w20 hbox hb; have n0_ := Aside0.mk (Kd.V_below (Kd.V_elderB (by (with_reducible repeat (first | apply Kd.V_alloc | apply Kd.V_drewN | apply Kd.V_drew)); exact HO0.out) gb250 (Nat.le_of_eq hg.symm)) hb); have n1_ := Aside0.mk (below_step (by repeat (first | (with_reducible first | exact HB.out | apply below_alloc | apply pw_below_drewN | apply below_drew1) | exact HB.out)) hb); have n2_ := Aside0.mk (hbox); have n3_ := Aside0.mk ((by rw [hg]; exact (below_size (by repeat (first | (with_reducible first | exact HB.out | apply below_alloc | apply pw_below_drewN | apply below_drew1) | exact HB.out))) : w.heap.size ≤ gb250)); have n4_ := Aside0.mk ((by rw [hg]; exact (below_size (by repeat (first | (with_reducible first | exact HB.out | apply below_alloc | apply pw_below_drewN | apply below_drew1) | exact HB.out))) : w.heap.size ≤ gb250)); clear HO0; clear HB; have HO0 := n0_; have HB := n1_; have BK250 := n2_; have GW250 := n3_; have GE250 := n4_; clear n0_ n1_ n2_ n3_ n4_; clear hb hbox hg; have p251 : 0 ≤ (a1 : Int) := of_decide_eq_true (by first | (with_reducible assumption) | assumption); have q251 : a1 < (l0.length : Int) := of_decide_eq_true (by first | (with_reducible assumption) | assumption); obtain ⟨ad251, e251, hx251_0⟩ := Kd.at_int (Kd.V_reads' HO0.out).2.2 a1 p251 q251; cases e251; replace p251 := eq_true p251; replace q251 := eq_true q251; have p252 : 0 ≤ ((ji13) : Int) := of_decide_eq_true (by first | (with_reducible assumption) | assumption); have q252 : (ji13) < (l0.length : Int) := of_decide_eq_true (by first | (with_reducible assumption) | assumption); obtain ⟨ad252, e252, hx252_0⟩ := Kd.at_int (Kd.V_reads' HO0.out).2.2 (ji13) p252 q252; obtain rfl : ad251 = ad252 := (by injection e252); replace p252 := eq_true p252; replace q252 := eq_true q252; have hcz21_0 : w20.cell? ⟨gb250, 0, none⟩ = some (.int .i64 0) := (blk_cell BK250.out 0).trans rfl; have hcz21_1 : w20.cell? ⟨gb250, 1, none⟩ = some (.int .i64 0) := (blk_cell BK250.out 1).trans rfl; have hcz21_2 : w20.cell? ⟨gb250, 2, none⟩ = some (.slice none 0 0) := (blk_cell BK250.out 2).trans rfl; have hcz21_3 : w20.cell? ⟨gb250, 3, none⟩ = some (.slice none 0 0) := (blk_cell BK250.out 3).trans rfl; have hfz21_0 := blk_frozen BK250.out 0; have hfz21_1 := blk_frozen BK250.out 1; have hfz21_2 := blk_frozen BK250.out 2; have hfz21_3 := blk_frozen BK250.out 3))
          refine bodyPost_ret (results_ctt rfl _ _ gb250 43 #[.int .i64 0, .int .i64 0, .slice none 0 0, .slice none 0 0] (0, 0) _ rfl (by (with_reducible repeat (first | refine blk_drewN ?_ _ | refine blk_drew ?_ | refine blk_alloc ?_ _)); refine blk_put (cs := #[.int .i64 0, .int .i64 0, .slice none 0 0, .slice none 0 0]) ?_ 3 _ rfl; (with_reducible repeat (first | refine blk_drewN ?_ _ | refine blk_drew ?_ | refine blk_alloc ?_ _)); refine blk_put (cs := #[.int .i64 0, .int .i64 0, .slice none 0 0, .slice none 0 0]) ?_ 2 _ rfl; (with_reducible repeat (first | refine blk_drewN ?_ _ | refine blk_drew ?_ | refine blk_alloc ?_ _)); refine blk_put (cs := #[.int .i64 0, .int .i64 0, .slice none 0 0, .slice none 0 0]) ?_ 1 _ rfl; (with_reducible repeat (first | refine blk_drewN ?_ _ | refine blk_drew ?_ | refine blk_alloc ?_ _)); refine blk_put (cs := #[.int .i64 0, .int .i64 0, .slice none 0 0, .slice none 0 0]) ?_ 0 _ rfl; (with_reducible repeat (first | refine blk_drewN ?_ _ | refine blk_drew ?_ | refine blk_alloc ?_ _)); exact BK250.out) Tryd.underlying43 rfl (by kernel_rfl)) rfl ?_
          exact ⟨_, _, by first | rfl | (simp [errW_none, errW_some] <;> rfl) | (simp only [← hji13]; first | rfl | (simp [errW_none, errW_some] <;> rfl)) | (simp [*, errW_none, errW_some] <;> rfl), Kd.V_nil _ _ _ _ _, by first | exact Kd.N_nil _ _ _ _ _ | exact Kd.R_nil _ _ _ _ _, by repeat (first | (with_reducible first | exact HB.out | apply below_alloc | apply pw_below_drewN | apply below_drew1 | refine below_set ?_ GE250.out) | exact HB.out)⟩
         ·rw [if_neg c19] at H
          have c19b0 : decide ((wrap64 ((l0.length : Int) - (wrap64 ((ji13) + 1)))) < (wrap64 (rd l0 (ji13)))) = false := decide_eq_false c19
          clear c19
          by_cases c22 : (wrap64 (rd l0 (ji13))) = 0
          ·rw [if_pos c22] at H
           have c22b0 : ((wrap64 (rd l0 (ji13))) == 0) = true := beq_iff_eq.mpr c22
           have c22b1 : ((wrap64 (rd l0 (ji13))) != 0) = false := bne_eq_false_iff_eq.mpr c22
           clear c22
           simp only [Option.some.injEq, Prod.mk.injEq] at H
           obtain ⟨rfl, rfl, rfl, rfl, rfl, rfl⟩ := H
           go_enter Tryd.func40, Tryd.ntmps40
           go_wp2_with (first | ((with_reducible refine gate_dst (N := 6) rfl ?_); refine box_event ?hg (N := 6) ?hd (cs := #[.int .i64 0, .int .i64 0, .slice none 0 0, .slice none 0 0]) (t := 43) ?hr ?_; (case hd => rfl); (case hg => rfl); (case hr => first | (go_simp; done) | (go_simp; rfl)); intro gb250 hg w23 hbox hb; have n0_ := Aside0.mk (Kd.V_below (Kd.V_elderB (by (with_reducible repeat (first | apply Kd.V_alloc | apply Kd.V_drewN | apply Kd.V_drew)); exact HO0.out) gb250 (Nat.le_of_eq hg.symm)) hb); have n1_ := Aside0.mk (below_step (by repeat (first | (with_reducible first | exact HB.out | apply below_alloc | apply pw_below_drewN | apply below_drew1) | exact HB.out)) hb); have n2_ := Aside0.mk (hbox); have n3_ := Aside0.mk ((by rw [hg]; exact (below_size (by repeat (first | (with_reducible first | exact HB.out | apply below_alloc | apply pw_below_drewN | apply below_drew1) | exact HB.out))) : w.heap.size ≤ gb250)); have n4_ := Aside0.mk ((by rw [hg]; exact (below_size (by repeat (first | (with_reducible first | exact HB.out | apply below_alloc | apply pw_below_drewN | apply below_drew1) | exact HB.out))) : w.heap.size ≤ gb250)); clear HO0; clear HB; have HO0 := n0_; have HB := n1_; have BK250 := n2_; have GW250 := n3_; have GE250 := n4_; clear n0_ n1_ n2_ n3_ n4_; clear hb hbox hg; have p251 : 0 ≤ (a1 : Int) := of_decide_eq_true (by first | (with_reducible assumption) | assumption); have q251 : a1 < (l0.length : Int) := of_decide_eq_true (by first | (with_reducible assumption) | assumption); obtain ⟨ad251, e251, hx251_0⟩ := Kd.at_int (Kd.V_reads' HO0.out).2.2 a1 p251 q251; cases e251; replace p251 := eq_true p251; replace q251 := eq_true q251; have p252 : 0 ≤ ((ji13) : Int) := of_decide_eq_true (by first | (with_reducible assumption) | assumption); have q252 : (ji13) < (l0.length : Int) := of_decide_eq_true (by first | (with_reducible assumption) | assumption); obtain ⟨ad252, e252, hx252_0⟩ := Kd.at_int (Kd.V_reads' HO0.out).2.2 (ji13) p252 q252; obtain rfl : ad251 = ad252 := (by injection e252); replace p252 := eq_true p252; replace q252 := eq_true q252; have hcz24_0 : w23.cell? ⟨gb250, 0, none⟩ = some (.int .i64 0) := (blk_cell BK250.out 0).trans rfl; have hcz24_1 : w23.cell? ⟨gb250, 1, none⟩ = some (.int .i64 0) := (blk_cell BK250.out 1).trans rfl; have hcz24_2 : w23.cell? ⟨gb250, 2, none⟩ = some (.slice none 0 0) := (blk_cell BK250.out 2).trans rfl; have hcz24_3 : w23.cell? ⟨gb250, 3, none⟩ = some (.slice none 0 0) := (blk_cell BK250.out 3).trans rfl; have hfz24_0 := blk_frozen BK250.out 0; have hfz24_1 := blk_frozen BK250.out 1; have hfz24_2 := blk_frozen BK250.out 2; have hfz24_3 := blk_frozen BK250.out 3))
           refine bodyPost_ret (results_ctt rfl _ _ gb250 43 #[.int .i64 1, .int .i64 0, .slice none 0 0, .slice none 0 0] (0, 0) _ rfl (by (with_reducible repeat (first | refine blk_drewN ?_ _ | refine blk_drew ?_ | refine blk_alloc ?_ _)); refine blk_put (cs := #[.int .i64 1, .int .i64 0, .slice none 0 0, .slice none 0 0]) ?_ 3 _ rfl; (with_reducible repeat (first | refine blk_drewN ?_ _ | refine blk_drew ?_ | refine blk_alloc ?_ _)); refine blk_put (cs := #[.int .i64 1, .int .i64 0, .slice none 0 0, .slice none 0 0]) ?_ 2 _ rfl; (with_reducible repeat (first | refine blk_drewN ?_ _ | refine blk_drew ?_ | refine blk_alloc ?_ _)); refine blk_put (cs := #[.int .i64 1, .int .i64 0, .slice none 0 0, .slice none 0 0]) ?_ 1 _ rfl; (with_reducible repeat (first | refine blk_drewN ?_ _ | refine blk_drew ?_ | refine blk_alloc ?_ _)); refine blk_put (cs := #[.int .i64 0, .int .i64 0, .slice none 0 0, .slice none 0 0]) ?_ 0 _ rfl; (with_reducible repeat (first | refine blk_drewN ?_ _ | refine blk_drew ?_ | refine blk_alloc ?_ _)); exact BK250.out) Tryd.underlying43 rfl (by kernel_rfl)) rfl ?_
           exact ⟨_, _, by first | rfl | (simp [errW_none, errW_some] <;> rfl) | (simp only [← hji13]; first | rfl | (simp [errW_none, errW_some] <;> rfl)) | (simp [*, errW_none, errW_some] <;> rfl), Kd.V_nil _ _ _ _ _, by first | exact Kd.N_nil _ _ _ _ _ | exact Kd.R_nil _ _ _ _ _, by repeat (first | (with_reducible first | exact HB.out | apply below_alloc | apply pw_below_drewN | apply below_drew1 | refine below_set ?_ GE250.out) | exact HB.out)⟩
          ·rw [if_neg c22] at H
           have c22b0 : ((wrap64 (rd l0 (ji13))) == 0) = false := beq_eq_false_iff_ne.mpr c22
           have c22b1 : ((wrap64 (rd l0 (ji13))) != 0) = true := bne_iff_ne.mpr c22
           obtain ⟨ji25, hji25⟩ : ∃ j_ : Int, (wrap64 ((ji13) + 1)) = j_ := ⟨_, rfl⟩
           replace H : (if 0 ≤ (ji25) then (if (ji25) ≤ (wrap64 ((ji25) + (wrap64 (rd l0 (ji13))))) then (if (wrap64 ((ji25) + (wrap64 (rd l0 (ji13))))) ≤ (l0.length : Int) then ((bastilleref01_Get.f k ((l0.take ((wrap64 ((ji25) + (wrap64 (rd l0 (ji13))))) : Int).toNat).drop ((ji25) : Int).toNat)).bind fun bt258 => (if bt258.2 = 0 then (if (ji25) < (l0.length : Int) then (if (rd l0 (ji25)) = 0 then (some (0, 0, ([] : List Int), ([] : List (S43)), 0, 11)) else (some (1, bt258.1, ([] : List Int), ([] : List (S43)), wrap64 ((ji25) + (wrap64 (rd l0 (ji13)))), 0))) else (none)) else (some (0, 0, ([] : List Int), ([] : List (S43)), 0, 11)))) else (none)) else (none)) else (none)) = some (r1, r2, r3, r4, r5, r6) := by first | (rw [hji25] at H; exact H) | (simp only [hji25] at H ⊢; exact H)
           (try rw [hji25] at c19b0)
           have hji25w : (IntKind.i64.wrap ((ji13) + 1)) = ji25 := (i64_w _).trans hji25
           by_cases c26 : 0 ≤ (ji25)
           ·rw [if_pos c26] at H
            have c26b0 := eq_true c26
            have c26b1 : decide (0 ≤ (ji25)) = true := decide_eq_true c26
            clear c26
            by_cases c27 : (ji25) ≤ (wrap64 ((ji25) + (wrap64 (rd l0 (ji13)))))
            ·rw [if_pos c27] at H
             have c27b0 := eq_true c27
             have c27b1 : decide ((ji25) ≤ (wrap64 ((ji25) + (wrap64 (rd l0 (ji13)))))) = true := decide_eq_true c27
             by_cases c28 : (wrap64 ((ji25) + (wrap64 (rd l0 (ji13))))) ≤ (l0.length : Int)
             ·rw [if_pos c28] at H
              have c28b0 := eq_true c28
              have c28b1 : decide ((wrap64 ((ji25) + (wrap64 (rd l0 (ji13))))) ≤ (l0.length : Int)) = true := decide_eq_true c28
              obtain ⟨y253, hy253⟩ : ∃ y_ : List Int, y_ = ((l0.take ((wrap64 ((ji25) + (wrap64 (rd l0 (ji13))))) : Int).toNat).drop ((ji25) : Int).toNat) := ⟨_, rfl⟩
              replace H : ((bastilleref01_Get.f k y253).bind fun bt258 => (if bt258.2 = 0 then (if (ji25) < (l0.length : Int) then (if (rd l0 (ji25)) = 0 then (some (0, 0, ([] : List Int), ([] : List (S43)), 0, 11)) else (some (1, bt258.1, ([] : List Int), ([] : List (S43)), wrap64 ((ji25) + (wrap64 (rd l0 (ji13)))), 0))) else (none)) else (some (0, 0, ([] : List Int), ([] : List (S43)), 0, 11)))) = some (r1, r2, r3, r4, r5, r6) := by first | (rw [hy253]; with_reducible exact H) | (have H2_ := (Option.bind_some _ _).symm.trans H; rw [hy253]; with_reducible exact H2_) | (have H2_ := (Option.bind_some _ _).symm.trans H; with_reducible exact H2_) | with_reducible exact H | (rw [hy253]; exact H) | exact H
              have Ny253 := Aside0.mk hy253
              clear hy253
              replace H := Option.bind_eq_some_iff.mp H
              obtain ⟨⟨t258, t259⟩, A290, H⟩ := H
              replace H : (if t259 = 0 then (if (ji25) < (l0.length : Int) then (if (rd l0 (ji25)) = 0 then (some (0, 0, ([] : List Int), ([] : List (S43)), 0, 11)) else (some (1, t258, ([] : List Int), ([] : List (S43)), wrap64 ((ji25) + (wrap64 (rd l0 (ji13)))), 0))) else (none)) else (some (0, 0, ([] : List Int), ([] : List (S43)), 0, 11))) = some (r1, r2, r3, r4, r5, r6) := H
              have A29 := Aside0.mk A290
              clear A290
              by_cases c30 : t259 = 0
              ·rw [if_pos c30] at H
               have c30b0 : (t259 == 0) = true := beq_iff_eq.mpr c30
               have c30b1 : (t259 != 0) = false := bne_eq_false_iff_eq.mpr c30
               clear c30
               by_cases c31 : (ji25) < (l0.length : Int)
               ·rw [if_pos c31] at H
                have c31b0 : decide ((ji25) < (l0.length : Int)) = true := decide_eq_true c31
                clear c31
                by_cases c32 : (rd l0 (ji25)) = 0
                ·rw [if_pos c32] at H
                 have c32b0 : ((rd l0 (ji25)) == 0) = true := beq_iff_eq.mpr c32
                 have c32b1 : ((rd l0 (ji25)) != 0) = false := bne_eq_false_iff_eq.mpr c32
                 clear c32
                 simp only [Option.some.injEq, Prod.mk.injEq] at H
                 obtain ⟨rfl, rfl, rfl, rfl, rfl, rfl⟩ := H
                 go_enter Tryd.func40, Tryd.ntmps40
                 go_wp2_with (first | ((with_reducible refine gate_dst (N := 6) rfl ?_); refine box_event ?hg (N := 6) ?hd (cs := #[.int .i64 0, .int .i64 0, .slice none 0 0, .slice none 0 0]) (t := 43) ?hr ?_; (case hd => rfl); (case hg => rfl); (case hr => first | (go_simp; done) | (go_simp; rfl)); intro gb250 hg w33 hbox hb; have n0_ := Aside0.mk (Kd.V_below (Kd.V_elderB (by (with_reducible repeat (first | apply Kd.V_alloc | apply Kd.V_drewN | apply Kd.V_drew)); exact HO0.out) gb250 (Nat.le_of_eq hg.symm)) hb); have n1_ := Aside0.mk (below_step (by repeat (first | (with_reducible first | exact HB.out | apply below_alloc | apply pw_below_drewN | apply below_drew1) | exact HB.out)) hb); have n2_ := Aside0.mk (hbox); have n3_ := Aside0.mk ((by rw [hg]; exact (below_size (by repeat (first | (with_reducible first | exact HB.out | apply below_alloc | apply pw_below_drewN | apply below_drew1) | exact HB.out))) : w.heap.size ≤ gb250)); have n4_ := Aside0.mk ((by rw [hg]; exact (below_size (by repeat (first | (with_reducible first | exact HB.out | apply below_alloc | apply pw_below_drewN | apply below_drew1) | exact HB.out))) : w.heap.size ≤ gb250)); clear HO0; clear HB; have HO0 := n0_; have HB := n1_; have BK250 := n2_; have GW250 := n3_; have GE250 := n4_; clear n0_ n1_ n2_ n3_ n4_; clear hb hbox hg; have p251 : 0 ≤ (a1 : Int) := of_decide_eq_true (by first | (with_reducible assumption) | assumption); have q251 : a1 < (l0.length : Int) := of_decide_eq_true (by first | (with_reducible assumption) | assumption); obtain ⟨ad251, e251, hx251_0⟩ := Kd.at_int (Kd.V_reads' HO0.out).2.2 a1 p251 q251; cases e251; replace p251 := eq_true p251; replace q251 := eq_true q251; have p252 : 0 ≤ ((ji13) : Int) := of_decide_eq_true (by first | (with_reducible assumption) | assumption); have q252 : (ji13) < (l0.length : Int) := of_decide_eq_true (by first | (with_reducible assumption) | assumption); obtain ⟨ad252, e252, hx252_0⟩ := Kd.at_int (Kd.V_reads' HO0.out).2.2 (ji13) p252 q252; obtain rfl : ad251 = ad252 := (by injection e252); replace p252 := eq_true p252; replace q252 := eq_true q252; have q34 : ((wrap64 ((ji25) + (wrap64 (rd l0 (ji13))))) : Int) ≤ ((l0.length : Int) : Int) := of_decide_eq_true (by first | (with_reducible assumption) | assumption); obtain ⟨i034, hi034, _, hsz34, _⟩ := info_parts info5; have hroom34 : l0.length ≤ c0 := (Kd.V_reads' HO0.out).2.1; have hC34 : Kd.F (Kd.int .u8) _ _ (some ad251) l0.length l0 := (Kd.V_at (base := w.heap.size) HO0.out).2.2; have ql34 : ((ji25) : Int) ≤ ((wrap64 ((ji25) + (wrap64 (rd l0 (ji13))))) : Int) := of_decide_eq_true (by first | (with_reducible assumption) | assumption); have q034 : (0 : Int) ≤ ((ji25) : Int) := of_decide_eq_true (by first | (with_reducible assumption) | assumption); have hcut34 := cut_mid (P := Tryd.prog) 22 5 .i64 .i64 Tryd.underlying22 hi034 1 hsz34 (some ad251) l0.length c0 (ji25) (wrap64 ((ji25) + (wrap64 (rd l0 (ji13))))) q034 ql34 q34 hroom34; have hr34 := Kd.F_mid (lo := ((ji25) : Int).toNat) (hi := ((wrap64 ((ji25) + (wrap64 (rd l0 (ji13))))) : Int).toNat) (c := c0) hC34 (by omega) (by omega) hroom34; obtain ⟨A34, hA34⟩ : ∃ A1, A1 = (if c0 = ((ji25) : Int).toNat then (some ad251) else ((some ad251) : Option Addr).map (·.add (((ji25) : Int).toNat * 1))) := ⟨_, rfl⟩; obtain ⟨c34, hc34⟩ : ∃ c1, c1 = c0 - ((ji25) : Int).toNat := ⟨_, rfl⟩; have hy34 : y253.length = ((wrap64 ((ji25) + (wrap64 (rd l0 (ji13))))) : Int).toNat - ((ji25) : Int).toNat := (by rw [Ny253.out, List.length_drop, List.length_take] <;> omega); rw [show ((l0).take ((wrap64 ((ji25) + (wrap64 (rd l0 (ji13))))) : Int).toNat).drop ((ji25) : Int).toNat = y253 from Ny253.out.symm] at hr34; replace hr34 : Kd.F (Kd.int .u8) _ _ A34 y253.length y253 := (by rw [hA34]; exact hr34); rw [← hy34, ← hA34, ← hc34] at hcut34; have HO257 := Aside0.mk (show Kd.V (Kd.int .u8) 5 _ w.heap.size _ (.slice A34 y253.length c34) y253 from Kd.V_mk (by rw [hy34, hc34]; exact Nat.sub_le_sub_right (Nat.le_trans (by omega) hroom34) _) hr34); have HC257 := Aside0.mk (show y253.length ≤ c34 from by rw [hy34, hc34]; exact Nat.sub_le_sub_right (Nat.le_trans (by omega) hroom34) _); clear hr34 hC34 hroom34 hi034 hsz34 hc34; have KY34 := Aside0.mk hy34; have KA34 := Aside0.mk hA34; clear hy34 hA34; replace q34 := eq_true q34) | ((with_reducible refine gate_callee (f := 51) rfl ?_); refine goesL_ (some 69) rfl rfl Tryd.func51 (by kernel_rfl) rfl #[.slice A34 y253.length c34] rfl (by (try simp only [List.map_toArray, List.map_cons, List.map_nil]); first | done | rfl | (simp only [List.length_drop, List.length_take]; rfl)) ?_; (with_reducible refine (bastilleref01_Get.calls k _ _ y253 t258 t259 _ ?side1 ?side2 A29.out).mono ?_); (case side1 => repeat (first | exact (Kd.V_reads' HO257.out).2.2 | (with_reducible refine Kd.C_alloc ?_ _) | (with_reducible refine Kd.C_drewN ?_ _) | (with_reducible refine Kd.C_drew ?_))); (case side2 => exact (Kd.V_reads' HO257.out).2.1); rintro e w' ⟨rfl, ⟨nd, rfl⟩⟩; refine ⟨_, rfl, ?_⟩; (try (rw [drewN_self w33]; generalize hq_ : World.drewN w33 _ = w33; have n0_ : Aside0 (Kd.V (Kd.int .u8) 5 w33 w.heap.size (fun k_ => (P0_ k_ ∨ w.heap.size ≤ k_) ∧ k_ ≠ gb250) (.slice (some ad251) l0.length c0) l0) := ⟨by rw [← hq_]; exact (by (with_reducible repeat (first | apply Kd.V_alloc | apply Kd.V_drewN | apply Kd.V_drew)); exact HO0.out)⟩; have n1_ : Aside0 (Kd.V (Kd.int .u8) 5 w33 w.heap.size (fun k_ => (P0_ k_ ∨ w.heap.size ≤ k_) ∧ k_ ≠ gb250) (.slice A34 y253.length c34) y253) := ⟨by rw [← hq_]; exact (by (with_reducible repeat (first | apply Kd.V_alloc | apply Kd.V_drewN | apply Kd.V_drew)); exact HO257.out)⟩; have n2_ : Aside0 (w33.heap[gb250]? = some (.cells #[.int .i64 0, .int .i64 0, .slice none 0 0, .slice none 0 0] 43 (0, 0))) := ⟨by rw [← hq_]; exact (by (with_reducible repeat (first | refine blk_drewN ?_ _ | refine blk_drew ?_ | refine blk_alloc ?_ _)); exact BK250.out)⟩; have n3_ : Aside0 (Below w.heap.size w w33) := ⟨by rw [← hq_]; exact (by repeat (first | (with_reducible first | exact HB.out | apply below_alloc | apply pw_below_drewN | apply below_drew1 | refine below_set ?_ GE250.out) | exact HB.out))⟩; clear HO0 HO257 BK250 HB hq_; have HO0 := n0_; have HO257 := n1_; have BK250 := n2_; have HB := n3_; clear n0_ n1_ n2_ n3_)); have p260 : 0 ≤ ((ji25) : Int) := of_decide_eq_true (by first | (with_reducible assumption) | assumption); have q260 : (ji25) < (l0.length : Int) := of_decide_eq_true (by first | (with_reducible assumption) | assumption); obtain ⟨ad260, e260, hx260_0⟩ := Kd.at_int (Kd.V_reads' HO0.out).2.2 (ji25) p260 q260; obtain rfl : ad251 = ad260 := (by injection e260); replace p260 := eq_true p260; replace q260 := eq_true q260; have hcz35_0 : w33.cell? ⟨gb250, 0, none⟩ = some (.int .i64 0) := (blk_cell BK250.out 0).trans rfl; have hcz35_1 : w33.cell? ⟨gb250, 1, none⟩ = some (.int .i64 0) := (blk_cell BK250.out 1).trans rfl; have hcz35_2 : w33.cell? ⟨gb250, 2, none⟩ = some (.slice none 0 0) := (blk_cell BK250.out 2).trans rfl; have hcz35_3 : w33.cell? ⟨gb250, 3, none⟩ = some (.slice none 0 0) := (blk_cell BK250.out 3).trans rfl; have hfz35_0 := blk_frozen BK250.out 0; have hfz35_1 := blk_frozen BK250.out 1; have hfz35_2 := blk_frozen BK250.out 2; have hfz35_3 := blk_frozen BK250.out 3))
                 refine bodyPost_ret (results_ctt rfl _ _ gb250 43 #[.int .i64 0, .int .i64 0, .slice none 0 0, .slice none 0 0] (0, 0) _ rfl (by (with_reducible repeat (first | refine blk_drewN ?_ _ | refine blk_drew ?_ | refine blk_alloc ?_ _)); refine blk_put (cs := #[.int .i64 0, .int .i64 0, .slice none 0 0, .slice none 0 0]) ?_ 3 _ rfl; (with_reducible repeat (first | refine blk_drewN ?_ _ | refine blk_drew ?_ | refine blk_alloc ?_ _)); refine blk_put (cs := #[.int .i64 0, .int .i64 0, .slice none 0 0, .slice none 0 0]) ?_ 2 _ rfl; (with_reducible repeat (first | refine blk_drewN ?_ _ | refine blk_drew ?_ | refine blk_alloc ?_ _)); refine blk_put (cs := #[.int .i64 0, .int .i64 0, .slice none 0 0, .slice none 0 0]) ?_ 1 _ rfl; (with_reducible repeat (first | refine blk_drewN ?_ _ | refine blk_drew ?_ | refine blk_alloc ?_ _)); refine blk_put (cs := #[.int .i64 0, .int .i64 0, .slice none 0 0, .slice none 0 0]) ?_ 0 _ rfl; (with_reducible repeat (first | refine blk_drewN ?_ _ | refine blk_drew ?_ | refine blk_alloc ?_ _)); exact BK250.out) Tryd.underlying43 rfl (by kernel_rfl)) rfl ?_
                 exact ⟨_, _, by first | rfl | (simp [errW_none, errW_some] <;> rfl) | (simp only [← hji13, ← hji25]; first | rfl | (simp [errW_none, errW_some] <;> rfl)) | (simp [*, errW_none, errW_some] <;> rfl), Kd.V_nil _ _ _ _ _, by first | exact Kd.N_nil _ _ _ _ _ | exact Kd.R_nil _ _ _ _ _, by repeat (first | (with_reducible first | exact HB.out | apply below_alloc | apply pw_below_drewN | apply below_drew1 | refine below_set ?_ GE250.out) | exact HB.out)⟩
                ·rw [if_neg c32] at H
                 have c32b0 : ((rd l0 (ji25)) == 0) = false := beq_eq_false_iff_ne.mpr c32
                 have c32b1 : ((rd l0 (ji25)) != 0) = true := bne_iff_ne.mpr c32
                 simp only [Option.some.injEq, Prod.mk.injEq] at H
                 obtain ⟨rfl, rfl, rfl, rfl, rfl, rfl⟩ := H
                 go_enter Tryd.func40, Tryd.ntmps40
                 go_wp2_with (first | ((with_reducible refine gate_dst (N := 6) rfl ?_); refine box_event ?hg (N := 6) ?hd (cs := #[.int .i64 0, .int .i64 0, .slice none 0 0, .slice none 0 0]) (t := 43) ?hr ?_; (case hd => rfl); (case hg => rfl); (case hr => first | (go_simp; done) | (go_simp; rfl)); intro gb250 hg w36 hbox hb; have n0_ := Aside0.mk (Kd.V_below (Kd.V_elderB (by (with_reducible repeat (first | apply Kd.V_alloc | apply Kd.V_drewN | apply Kd.V_drew)); exact HO0.out) gb250 (Nat.le_of_eq hg.symm)) hb); have n1_ := Aside0.mk (below_step (by repeat (first | (with_reducible first | exact HB.out | apply below_alloc | apply pw_below_drewN | apply below_drew1) | exact HB.out)) hb); have n2_ := Aside0.mk (hbox); have n3_ := Aside0.mk ((by rw [hg]; exact (below_size (by repeat (first | (with_reducible first | exact HB.out | apply below_alloc | apply pw_below_drewN | apply below_drew1) | exact HB.out))) : w.heap.size ≤ gb250)); have n4_ := Aside0.mk ((by rw [hg]; exact (below_size (by repeat (first | (with_reducible first | exact HB.out | apply below_alloc | apply pw_below_drewN | apply below_drew1) | exact HB.out))) : w.heap.size ≤ gb250)); clear HO0; clear HB; have HO0 := n0_; have HB := n1_; have BK250 := n2_; have GW250 := n3_; have GE250 := n4_; clear n0_ n1_ n2_ n3_ n4_; clear hb hbox hg; have p251 : 0 ≤ (a1 : Int) := of_decide_eq_true (by first | (with_reducible assumption) | assumption); have q251 : a1 < (l0.length : Int) := of_decide_eq_true (by first | (with_reducible assumption) | assumption); obtain ⟨ad251, e251, hx251_0⟩ := Kd.at_int (Kd.V_reads' HO0.out).2.2 a1 p251 q251; cases e251; replace p251 := eq_true p251; replace q251 := eq_true q251; have p252 : 0 ≤ ((ji13) : Int) := of_decide_eq_true (by first | (with_reducible assumption) | assumption); have q252 : (ji13) < (l0.length : Int) := of_decide_eq_true (by first | (with_reducible assumption) | assumption); obtain ⟨ad252, e252, hx252_0⟩ := Kd.at_int (Kd.V_reads' HO0.out).2.2 (ji13) p252 q252; obtain rfl : ad251 = ad252 := (by injection e252); replace p252 := eq_true p252; replace q252 := eq_true q252; have q37 : ((wrap64 ((ji25) + (wrap64 (rd l0 (ji13))))) : Int) ≤ ((l0.length : Int) : Int) := of_decide_eq_true (by first | (with_reducible assumption) | assumption); obtain ⟨i037, hi037, _, hsz37, _⟩ := info_parts info5; have hroom37 : l0.length ≤ c0 := (Kd.V_reads' HO0.out).2.1; have hC37 : Kd.F (Kd.int .u8) _ _ (some ad251) l0.length l0 := (Kd.V_at (base := w.heap.size) HO0.out).2.2; have ql37 : ((ji25) : Int) ≤ ((wrap64 ((ji25) + (wrap64 (rd l0 (ji13))))) : Int) := of_decide_eq_true (by first | (with_reducible assumption) | assumption); have q037 : (0 : Int) ≤ ((ji25) : Int) := of_decide_eq_true (by first | (with_reducible assumption) | assumption); have hcut37 := cut_mid (P := Tryd.prog) 22 5 .i64 .i64 Tryd.underlying22 hi037 1 hsz37 (some ad251) l0.length c0 (ji25) (wrap64 ((ji25) + (wrap64 (rd l0 (ji13))))) q037 ql37 q37 hroom37; have hr37 := Kd.F_mid (lo := ((ji25) : Int).toNat) (hi := ((wrap64 ((ji25) + (wrap64 (rd l0 (ji13))))) : Int).toNat) (c := c0) hC37 (by omega) (by omega) hroom37; obtain ⟨A37, hA37⟩ : ∃ A1, A1 = (if c0 = ((ji25) : Int).toNat then (some ad251) else ((some ad251) : Option Addr).map (·.add (((ji25) : Int).toNat * 1))) := ⟨_, rfl⟩; obtain ⟨c37, hc37⟩ : ∃ c1, c1 = c0 - ((ji25) : Int).toNat := ⟨_, rfl⟩; have hy37 : y253.length = ((wrap64 ((ji25) + (wrap64 (rd l0 (ji13))))) : Int).toNat - ((ji25) : Int).toNat := (by rw [Ny253.out, List.length_drop, List.length_take] <;> omega); rw [show ((l0).take ((wrap64 ((ji25) + (wrap64 (rd l0 (ji13))))) : Int).toNat).drop ((ji25) : Int).toNat = y253 from Ny253.out.symm] at hr37; replace hr37 : Kd.F (Kd.int .u8) _ _ A37 y253.length y253 := (by rw [hA37]; exact hr37); rw [← hy37, ← hA37, ← hc37] at hcut37; have HO257 := Aside0.mk (show Kd.V (Kd.int .u8) 5 _ w.heap.size _ (.slice A37 y253.length c37) y253 from Kd.V_mk (by rw [hy37, hc37]; exact Nat.sub_le_sub_right (Nat.le_trans (by omega) hroom37) _) hr37); have HC257 := Aside0.mk (show y253.length ≤ c37 from by rw [hy37, hc37]; exact Nat.sub_le_sub_right (Nat.le_trans (by omega) hroom37) _); clear hr37 hC37 hroom37 hi037 hsz37 hc37; have KY37 := Aside0.mk hy37; have KA37 := Aside0.mk hA37; clear hy37 hA37; replace q37 := eq_true q37) | ((with_reducible refine gate_callee (f := 51) rfl ?_); refine goesL_ (some 69) rfl rfl Tryd.func51 (by kernel_rfl) rfl #[.slice A37 y253.length c37] rfl (by (try simp only [List.map_toArray, List.map_cons, List.map_nil]); first | done | rfl | (simp only [List.length_drop, List.length_take]; rfl)) ?_; (with_reducible refine (bastilleref01_Get.calls k _ _ y253 t258 t259 _ ?side1 ?side2 A29.out).mono ?_); (case side1 => repeat (first | exact (Kd.V_reads' HO257.out).2.2 | (with_reducible refine Kd.C_alloc ?_ _) | (with_reducible refine Kd.C_drewN ?_ _) | (with_reducible refine Kd.C_drew ?_))); (case side2 => exact (Kd.V_reads' HO257.out).2.1); rintro e w' ⟨rfl, ⟨nd, rfl⟩⟩; refine ⟨_, rfl, ?_⟩; (try (rw [drewN_self w36]; generalize hq_ : World.drewN w36 _ = w36; have n0_ : Aside0 (Kd.V (Kd.int .u8) 5 w36 w.heap.size (fun k_ => (P0_ k_ ∨ w.heap.size ≤ k_) ∧ k_ ≠ gb250) (.slice (some ad251) l0.length c0) l0) := ⟨by rw [← hq_]; exact (by (with_reducible repeat (first | apply Kd.V_alloc | apply Kd.V_drewN | apply Kd.V_drew)); exact HO0.out)⟩; have n1_ : Aside0 (Kd.V (Kd.int .u8) 5 w36 w.heap.size (fun k_ => (P0_ k_ ∨ w.heap.size ≤ k_) ∧ k_ ≠ gb250) (.slice A37 y253.length c37) y253) := ⟨by rw [← hq_]; exact (by (with_reducible repeat (first | apply Kd.V_alloc | apply Kd.V_drewN | apply Kd.V_drew)); exact HO257.out)⟩; have n2_ : Aside0 (w36.heap[gb250]? = some (.cells #[.int .i64 0, .int .i64 0, .slice none 0 0, .slice none 0 0] 43 (0, 0))) := ⟨by rw [← hq_]; exact (by (with_reducible repeat (first | refine blk_drewN ?_ _ | refine blk_drew ?_ | refine blk_alloc ?_ _)); exact BK250.out)⟩; have n3_ : Aside0 (Below w.heap.size w w36) := ⟨by rw [← hq_]; exact (by repeat (first | (with_reducible first | exact HB.out | apply below_alloc | apply pw_below_drewN | apply below_drew1 | refine below_set ?_ GE250.out) | exact HB.out))⟩; clear HO0 HO257 BK250 HB hq_; have HO0 := n0_; have HO257 := n1_; have BK250 := n2_; have HB := n3_; clear n0_ n1_ n2_ n3_)); have p260 : 0 ≤ ((ji25) : Int) := of_decide_eq_true (by first | (with_reducible assumption) | assumption); have q260 : (ji25) < (l0.length : Int) := of_decide_eq_true (by first | (with_reducible assumption) | assumption); obtain ⟨ad260, e260, hx260_0⟩ := Kd.at_int (Kd.V_reads' HO0.out).2.2 (ji25) p260 q260; obtain rfl : ad251 = ad260 := (by injection e260); replace p260 := eq_true p260; replace q260 := eq_true q260; have hcz38_0 : w36.cell? ⟨gb250, 0, none⟩ = some (.int .i64 0) := (blk_cell BK250.out 0).trans rfl; have hcz38_1 : w36.cell? ⟨gb250, 1, none⟩ = some (.int .i64 0) := (blk_cell BK250.out 1).trans rfl; have hcz38_2 : w36.cell? ⟨gb250, 2, none⟩ = some (.slice none 0 0) := (blk_cell BK250.out 2).trans rfl; have hcz38_3 : w36.cell? ⟨gb250, 3, none⟩ = some (.slice none 0 0) := (blk_cell BK250.out 3).trans rfl; have hfz38_0 := blk_frozen BK250.out 0; have hfz38_1 := blk_frozen BK250.out 1; have hfz38_2 := blk_frozen BK250.out 2; have hfz38_3 := blk_frozen BK250.out 3))
                 refine bodyPost_ret (results_ctt rfl _ _ gb250 43 #[.int .i64 1, .int .i64 t258, .slice none 0 0, .slice none 0 0] (0, 0) _ rfl (by (with_reducible repeat (first | refine blk_drewN ?_ _ | refine blk_drew ?_ | refine blk_alloc ?_ _)); refine blk_put (cs := #[.int .i64 1, .int .i64 t258, .slice none 0 0, .slice none 0 0]) ?_ 3 _ rfl; (with_reducible repeat (first | refine blk_drewN ?_ _ | refine blk_drew ?_ | refine blk_alloc ?_ _)); refine blk_put (cs := #[.int .i64 1, .int .i64 t258, .slice none 0 0, .slice none 0 0]) ?_ 2 _ rfl; (with_reducible repeat (first | refine blk_drewN ?_ _ | refine blk_drew ?_ | refine blk_alloc ?_ _)); refine blk_put (cs := #[.int .i64 1, .int .i64 0, .slice none 0 0, .slice none 0 0]) ?_ 1 _ rfl; (with_reducible repeat (first | refine blk_drewN ?_ _ | refine blk_drew ?_ | refine blk_alloc ?_ _)); refine blk_put (cs := #[.int .i64 0, .int .i64 0, .slice none 0 0, .slice none 0 0]) ?_ 0 _ rfl; (with_reducible repeat (first | refine blk_drewN ?_ _ | refine blk_drew ?_ | refine blk_alloc ?_ _)); exact BK250.out) Tryd.underlying43 rfl (by kernel_rfl)) rfl ?_
                 exact ⟨_, _, by first | rfl | (simp [errW_none, errW_some] <;> rfl) | (simp only [← hji13, ← hji25]; first | rfl | (simp [errW_none, errW_some] <;> rfl)) | (simp [*, errW_none, errW_some] <;> rfl), Kd.V_nil _ _ _ _ _, by first | exact Kd.N_nil _ _ _ _ _ | exact Kd.R_nil _ _ _ _ _, by repeat (first | (with_reducible first | exact HB.out | apply below_alloc | apply pw_below_drewN | apply below_drew1 | refine below_set ?_ GE250.out) | exact HB.out)⟩
               ·rw [if_neg c31] at H
                exact absurd H (by simp)
              ·rw [if_neg c30] at H
               have c30b0 : (t259 == 0) = false := beq_eq_false_iff_ne.mpr c30
               have c30b1 : (t259 != 0) = true := bne_iff_ne.mpr c30
               simp only [Option.some.injEq, Prod.mk.injEq] at H
               obtain ⟨rfl, rfl, rfl, rfl, rfl, rfl⟩ := H
               go_enter Tryd.func40, Tryd.ntmps40
               go_wp2_with (first | ((with_reducible refine gate_dst (N := 6) rfl ?_); refine box_event ?hg (N := 6) ?hd (cs := #[.int .i64 0, .int .i64 0, .slice none 0 0, .slice none 0 0]) (t := 43) ?hr ?_; (case hd => rfl); (case hg => rfl); (case hr => first | (go_simp; done) | (go_simp; rfl)); intro gb250 hg w39 hbox hb; have n0_ := Aside0.mk (Kd.V_below (Kd.V_elderB (by (with_reducible repeat (first | apply Kd.V_alloc | apply Kd.V_drewN | apply Kd.V_drew)); exact HO0.out) gb250 (Nat.le_of_eq hg.symm)) hb); have n1_ := Aside0.mk (below_step (by repeat (first | (with_reducible first | exact HB.out | apply below_alloc | apply pw_below_drewN | apply below_drew1) | exact HB.out)) hb); have n2_ := Aside0.mk (hbox); have n3_ := Aside0.mk ((by rw [hg]; exact (below_size (by repeat (first | (with_reducible first | exact HB.out | apply below_alloc | apply pw_below_drewN | apply below_drew1) | exact HB.out))) : w.heap.size ≤ gb250)); have n4_ := Aside0.mk ((by rw [hg]; exact (below_size (by repeat (first | (with_reducible first | exact HB.out | apply below_alloc | apply pw_below_drewN | apply below_drew1) | exact HB.out))) : w.heap.size ≤ gb250)); clear HO0; clear HB; have HO0 := n0_; have HB := n1_; have BK250 := n2_; have GW250 := n3_; have GE250 := n4_; clear n0_ n1_ n2_ n3_ n4_; clear hb hbox hg; have p251 : 0 ≤ (a1 : Int) := of_decide_eq_true (by first | (with_reducible assumption) | assumption); have q251 : a1 < (l0.length : Int) := of_decide_eq_true (by first | (with_reducible assumption) | assumption); obtain ⟨ad251, e251, hx251_0⟩ := Kd.at_int (Kd.V_reads' HO0.out).2.2 a1 p251 q251; cases e251; replace p251 := eq_true p251; replace q251 := eq_true q251; have p252 : 0 ≤ ((ji13) : Int) := of_decide_eq_true (by first | (with_reducible assumption) | assumption); have q252 : (ji13) < (l0.length : Int) := of_decide_eq_true (by first | (with_reducible assumption) | assumption); obtain ⟨ad252, e252, hx252_0⟩ := Kd.at_int (Kd.V_reads' HO0.out).2.2 (ji13) p252 q252; obtain rfl : ad251 = ad252 := (by injection e252); replace p252 := eq_true p252; replace q252 := eq_true q252; have q40 : ((wrap64 ((ji25) + (wrap64 (rd l0 (ji13))))) : Int) ≤ ((l0.length : Int) : Int) := of_decide_eq_true (by first | (with_reducible assumption) | assumption); obtain ⟨i040, hi040, _, hsz40, _⟩ := info_parts info5; have hroom40 : l0.length ≤ c0 := (Kd.V_reads' HO0.out).2.1; have hC40 : Kd.F (Kd.int .u8) _ _ (some ad251) l0.length l0 := (Kd.V_at (base := w.heap.size) HO0.out).2.2; have ql40 : ((ji25) : Int) ≤ ((wrap64 ((ji25) + (wrap64 (rd l0 (ji13))))) : Int) := of_decide_eq_true (by first | (with_reducible assumption) | assumption); have q040 : (0 : Int) ≤ ((ji25) : Int) := of_decide_eq_true (by first | (with_reducible assumption) | assumption); have hcut40 := cut_mid (P := Tryd.prog) 22 5 .i64 .i64 Tryd.underlying22 hi040 1 hsz40 (some ad251) l0.length c0 (ji25) (wrap64 ((ji25) + (wrap64 (rd l0 (ji13))))) q040 ql40 q40 hroom40; have hr40 := Kd.F_mid (lo := ((ji25) : Int).toNat) (hi := ((wrap64 ((ji25) + (wrap64 (rd l0 (ji13))))) : Int).toNat) (c := c0) hC40 (by omega) (by omega) hroom40; obtain ⟨A40, hA40⟩ : ∃ A1, A1 = (if c0 = ((ji25) : Int).toNat then (some ad251) else ((some ad251) : Option Addr).map (·.add (((ji25) : Int).toNat * 1))) := ⟨_, rfl⟩; obtain ⟨c40, hc40⟩ : ∃ c1, c1 = c0 - ((ji25) : Int).toNat := ⟨_, rfl⟩; have hy40 : y253.length = ((wrap64 ((ji25) + (wrap64 (rd l0 (ji13))))) : Int).toNat - ((ji25) : Int).toNat := (by rw [Ny253.out, List.length_drop, List.length_take] <;> omega); rw [show ((l0).take ((wrap64 ((ji25) + (wrap64 (rd l0 (ji13))))) : Int).toNat).drop ((ji25) : Int).toNat = y253 from Ny253.out.symm] at hr40; replace hr40 : Kd.F (Kd.int .u8) _ _ A40 y253.length y253 := (by rw [hA40]; exact hr40); rw [← hy40, ← hA40, ← hc40] at hcut40; have HO257 := Aside0.mk (show Kd.V (Kd.int .u8) 5 _ w.heap.size _ (.slice A40 y253.length c40) y253 from Kd.V_mk (by rw [hy40, hc40]; exact Nat.sub_le_sub_right (Nat.le_trans (by omega) hroom40) _) hr40); have HC257 := Aside0.mk (show y253.length ≤ c40 from by rw [hy40, hc40]; exact Nat.sub_le_sub_right (Nat.le_trans (by omega) hroom40) _); clear hr40 hC40 hroom40 hi040 hsz40 hc40; have KY40 := Aside0.mk hy40; have KA40 := Aside0.mk hA40; clear hy40 hA40; replace q40 := eq_true q40) | ((with_reducible refine gate_callee (f := 51) rfl ?_); refine goesL_ (some 69) rfl rfl Tryd.func51 (by kernel_rfl) rfl #[.slice A40 y253.length c40] rfl (by (try simp only [List.map_toArray, List.map_cons, List.map_nil]); first | done | rfl | (simp only [List.length_drop, List.length_take]; rfl)) ?_; (with_reducible refine (bastilleref01_Get.calls k _ _ y253 t258 t259 _ ?side1 ?side2 A29.out).mono ?_); (case side1 => repeat (first | exact (Kd.V_reads' HO257.out).2.2 | (with_reducible refine Kd.C_alloc ?_ _) | (with_reducible refine Kd.C_drewN ?_ _) | (with_reducible refine Kd.C_drew ?_))); (case side2 => exact (Kd.V_reads' HO257.out).2.1); rintro e w' ⟨rfl, ⟨nd, rfl⟩⟩; refine ⟨_, rfl, ?_⟩; (try (rw [drewN_self w39]; generalize hq_ : World.drewN w39 _ = w39; have n0_ : Aside0 (Kd.V (Kd.int .u8) 5 w39 w.heap.size (fun k_ => (P0_ k_ ∨ w.heap.size ≤ k_) ∧ k_ ≠ gb250) (.slice (some ad251) l0.length c0) l0) := ⟨by rw [← hq_]; exact (by (with_reducible repeat (first | apply Kd.V_alloc | apply Kd.V_drewN | apply Kd.V_drew)); exact HO0.out)⟩; have n1_ : Aside0 (Kd.V (Kd.int .u8) 5 w39 w.heap.size (fun k_ => (P0_ k_ ∨ w.heap.size ≤ k_) ∧ k_ ≠ gb250) (.slice A40 y253.length c40) y253) := ⟨by rw [← hq_]; exact (by (with_reducible repeat (first | apply Kd.V_alloc | apply Kd.V_drewN | apply Kd.V_drew)); exact HO257.out)⟩; have n2_ : Aside0 (w39.heap[gb250]? = some (.cells #[.int .i64 0, .int .i64 0, .slice none 0 0, .slice none 0 0] 43 (0, 0))) := ⟨by rw [← hq_]; exact (by (with_reducible repeat (first | refine blk_drewN ?_ _ | refine blk_drew ?_ | refine blk_alloc ?_ _)); exact BK250.out)⟩; have n3_ : Aside0 (Below w.heap.size w w39) := ⟨by rw [← hq_]; exact (by repeat (first | (with_reducible first | exact HB.out | apply below_alloc | apply pw_below_drewN | apply below_drew1 | refine below_set ?_ GE250.out) | exact HB.out))⟩; clear HO0 HO257 BK250 HB hq_; have HO0 := n0_; have HO257 := n1_; have BK250 := n2_; have HB := n3_; clear n0_ n1_ n2_ n3_)); have hcz41_0 : w39.cell? ⟨gb250, 0, none⟩ = some (.int .i64 0) := (blk_cell BK250.out 0).trans rfl; have hcz41_1 : w39.cell? ⟨gb250, 1, none⟩ = some (.int .i64 0) := (blk_cell BK250.out 1).trans rfl; have hcz41_2 : w39.cell? ⟨gb250, 2, none⟩ = some (.slice none 0 0) := (blk_cell BK250.out 2).trans rfl; have hcz41_3 : w39.cell? ⟨gb250, 3, none⟩ = some (.slice none 0 0) := (blk_cell BK250.out 3).trans rfl; have hfz41_0 := blk_frozen BK250.out 0; have hfz41_1 := blk_frozen BK250.out 1; have hfz41_2 := blk_frozen BK250.out 2; have hfz41_3 := blk_frozen BK250.out 3))
               refine bodyPost_ret (results_ctt rfl _ _ gb250 43 #[.int .i64 0, .int .i64 0, .slice none 0 0, .slice none 0 0] (0, 0) _ rfl (by (with_reducible repeat (first | refine blk_drewN ?_ _ | refine blk_drew ?_ | refine blk_alloc ?_ _)); refine blk_put (cs := #[.int .i64 0, .int .i64 0, .slice none 0 0, .slice none 0 0]) ?_ 3 _ rfl; (with_reducible repeat (first | refine blk_drewN ?_ _ | refine blk_drew ?_ | refine blk_alloc ?_ _)); refine blk_put (cs := #[.int .i64 0, .int .i64 0, .slice none 0 0, .slice none 0 0]) ?_ 2 _ rfl; (with_reducible repeat (first | refine blk_drewN ?_ _ | refine blk_drew ?_ | refine blk_alloc ?_ _)); refine blk_put (cs := #[.int .i64 0, .int .i64 0, .slice none 0 0, .slice none 0 0]) ?_ 1 _ rfl; (with_reducible repeat (first | refine blk_drewN ?_ _ | refine blk_drew ?_ | refine blk_alloc ?_ _)); refine blk_put (cs := #[.int .i64 0, .int .i64 0, .slice none 0 0, .slice none 0 0]) ?_ 0 _ rfl; (with_reducible repeat (first | refine blk_drewN ?_ _ | refine blk_drew ?_ | refine blk_alloc ?_ _)); exact BK250.out) Tryd.underlying43 rfl (by kernel_rfl)) rfl ?_
               exact ⟨_, _, by first | rfl | (simp [errW_none, errW_some] <;> rfl) | (simp only [← hji13, ← hji25]; first | rfl | (simp [errW_none, errW_some] <;> rfl)) | (simp [*, errW_none, errW_some] <;> rfl), Kd.V_nil _ _ _ _ _, by first | exact Kd.N_nil _ _ _ _ _ | exact Kd.R_nil _ _ _ _ _, by repeat (first | (with_reducible first | exact HB.out | apply below_alloc | apply pw_below_drewN | apply below_drew1 | refine below_set ?_ GE250.out) | exact HB.out)⟩
             ·rw [if_neg c28] at H
              exact absurd H (by simp)
            ·rw [if_neg c27] at H
             exact absurd H (by simp)
           ·rw [if_neg c26] at H
            exact absurd H (by simp)
       ·rw [if_neg c15] at H
        exact absurd H (by simp)
      ·rw [if_neg c14] at H
       exact absurd H (by simp)
    ·rw [if_neg c9] at H
     have c9b0 : ((wrap64 (rd l0 a1)) == 1) = false := beq_eq_false_iff_ne.mpr c9
     have c9b1 : ((wrap64 (rd l0 a1)) != 1) = true := bne_iff_ne.mpr c9
     by_cases c42 : (wrap64 (rd l0 a1)) = 2
     ·rw [if_pos c42] at H
      have c42b0 : ((wrap64 (rd l0 a1)) == 2) = true := beq_iff_eq.mpr c42
      have c42b1 : ((wrap64 (rd l0 a1)) != 2) = false := bne_eq_false_iff_eq.mpr c42
      clear c42
      by_cases c43 : (wrap64 ((l0.length : Int) - (wrap64 (a1 + 1)))) < 3
      ·rw [if_pos c43] at H
       have c43b0 : decide ((wrap64 ((l0.length : Int) - (wrap64 (a1 + 1)))) < 3) = true := decide_eq_true c43
       clear c43
       simp only [Option.some.injEq, Prod.mk.injEq] at H
       obtain ⟨rfl, rfl, rfl, rfl, rfl, rfl⟩ := H
       go_enter Tryd.func40, Tryd.ntmps40
       go_wp2_with (first | ((with_reducible refine gate_dst (N := 6) rfl ?_); refine box_event ?hg (N := 6) ?hd (cs := #[.int .i64 0, .int .i64 0, .slice none 0 0, .slice none 0 0]) (t := 43) ?hr ?_; (case hd => rfl); (case hg => rfl); (case hr => first | (go_simp; done) | (go_simp; rfl)); intro gb250 hg w44 hbox hb; have n0_ := Aside0.mk (Kd.V_below (Kd.V_elderB (by (with_reducible repeat (first | apply Kd.V_alloc | apply Kd.V_drewN | apply Kd.V_drew)); exact HO0.out) gb250 (Nat.le_of_eq hg.symm)) hb); have n1_ := Aside0.mk (below_step (by repeat (first | (with_reducible first | exact HB.out | apply below_alloc | apply pw_below_drewN | apply below_drew1) | exact HB.out)) hb); have n2_ := Aside0.mk (hbox); have n3_ := Aside0.mk ((by rw [hg]; exact (below_size (by repeat (first | (with_reducible first | exact HB.out | apply below_alloc | apply pw_below_drewN | apply below_drew1) | exact HB.out))) : w.heap.size ≤ gb250)); have n4_ := Aside0.mk ((by rw [hg]; exact (below_size (by repeat (first | (with_reducible first | exact HB.out | apply below_alloc | apply pw_below_drewN | apply below_drew1) | exact HB.out))) : w.heap.size ≤ gb250)); clear HO0; clear HB; have HO0 := n0_; have HB := n1_; have BK250 := n2_; have GW250 := n3_; have GE250 := n4_; clear n0_ n1_ n2_ n3_ n4_; clear hb hbox hg; have p251 : 0 ≤ (a1 : Int) := of_decide_eq_true (by first | (with_reducible assumption) | assumption); have q251 : a1 < (l0.length : Int) := of_decide_eq_true (by first | (with_reducible assumption) | assumption); obtain ⟨ad251, e251, hx251_0⟩ := Kd.at_int (Kd.V_reads' HO0.out).2.2 a1 p251 q251; cases e251; replace p251 := eq_true p251; replace q251 := eq_true q251; have hcz45_0 : w44.cell? ⟨gb250, 0, none⟩ = some (.int .i64 0) := (blk_cell BK250.out 0).trans rfl; have hcz45_1 : w44.cell? ⟨gb250, 1, none⟩ = some (.int .i64 0) := (blk_cell BK250.out 1).trans rfl; have hcz45_2 : w44.cell? ⟨gb250, 2, none⟩ = some (.slice none 0 0) := (blk_cell BK250.out 2).trans rfl; have hcz45_3 : w44.cell? ⟨gb250, 3, none⟩ = some (.slice none 0 0) := (blk_cell BK250.out 3).trans rfl; have hfz45_0 := blk_frozen BK250.out 0; have hfz45_1 := blk_frozen BK250.out 1; have hfz45_2 := blk_frozen BK250.out 2; have hfz45_3 := blk_frozen BK250.out 3))
       refine bodyPost_ret (results_ctt rfl _ _ gb250 43 #[.int .i64 0, .int .i64 0, .slice none 0 0, .slice none 0 0] (0, 0) _ rfl (by (with_reducible repeat (first | refine blk_drewN ?_ _ | refine blk_drew ?_ | refine blk_alloc ?_ _)); refine blk_put (cs := #[.int .i64 0, .int .i64 0, .slice none 0 0, .slice none 0 0]) ?_ 3 _ rfl; (with_reducible repeat (first | refine blk_drewN ?_ _ | refine blk_drew ?_ | refine blk_alloc ?_ _)); refine blk_put (cs := #[.int .i64 0, .int .i64 0, .slice none 0 0, .slice none 0 0]) ?_ 2 _ rfl; (with_reducible repeat (first | refine blk_drewN ?_ _ | refine blk_drew ?_ | refine blk_alloc ?_ _)); refine blk_put (cs := #[.int .i64 0, .int .i64 0, .slice none 0 0, .slice none 0 0]) ?_ 1 _ rfl; (with_reducible repeat (first | refine blk_drewN ?_ _ | refine blk_drew ?_ | refine blk_alloc ?_ _)); refine blk_put (cs := #[.int .i64 0, .int .i64 0, .slice none 0 0, .slice none 0 0]) ?_ 0 _ rfl; (with_reducible repeat (first | refine blk_drewN ?_ _ | refine blk_drew ?_ | refine blk_alloc ?_ _)); exact BK250.out) Tryd.underlying43 rfl (by kernel_rfl)) rfl ?_
       exact ⟨_, _, by first | rfl | (simp [errW_none, errW_some] <;> rfl) | (simp [*, errW_none, errW_some] <;> rfl), Kd.V_nil _ _ _ _ _, by first | exact Kd.N_nil _ _ _ _ _ | exact Kd.R_nil _ _ _ _ _, by repeat (first | (with_reducible first | exact HB.out | apply below_alloc | apply pw_below_drewN | apply below_drew1 | refine below_set ?_ GE250.out) | exact HB.out)⟩
      ·rw [if_neg c43] at H
       have c43b0 : decide ((wrap64 ((l0.length : Int) - (wrap64 (a1 + 1)))) < 3) = false := decide_eq_false c43
       clear c43
       obtain ⟨ji46, hji46⟩ : ∃ j_ : Int, (wrap64 (a1 + 1)) = j_ := ⟨_, rfl⟩
       replace H : (if 0 ≤ (ji46) then (if (ji46) ≤ (wrap64 ((ji46) + 3)) then (if (wrap64 ((ji46) + 3)) ≤ (l0.length : Int) then ((bastilleref01_Get.f k ((l0.take ((wrap64 ((ji46) + 3)) : Int).toNat).drop ((ji46) : Int).toNat)).bind fun bt266 => (if bt266.1 > (wrap64 ((l0.length : Int) - (wrap64 ((ji46) + 3)))) then (some (0, 0, ([] : List Int), ([] : List (S43)), 0, 10)) else (if 0 ≤ (wrap64 ((ji46) + 3)) then (if (wrap64 ((ji46) + 3)) ≤ (wrap64 ((wrap64 ((ji46) + 3)) + bt266.1)) then (if (wrap64 ((wrap64 ((ji46) + 3)) + bt266.1)) ≤ (l0.length : Int) then (some (2, 0, ((l0.take ((wrap64 ((wrap64 ((ji46) + 3)) + bt266.1)) : Int).toNat).drop ((wrap64 ((ji46) + 3)) : Int).toNat), ([] : List (S43)), wrap64 ((wrap64 ((ji46) + 3)) + bt266.1), 0)) else (none)) else (none)) else (none)))) else (none)) else (none)) else (none)) = some (r1, r2, r3, r4, r5, r6) := by first | (rw [hji46] at H; exact H) | (simp only [hji46] at H ⊢; exact H)
       (try rw [hji46] at c43b0)
       have hji46w : (IntKind.i64.wrap (a1 + 1)) = ji46 := (i64_w _).trans hji46
       by_cases c47 : 0 ≤ (ji46)
       ·rw [if_pos c47] at H
        have c47b0 := eq_true c47
        have c47b1 : decide (0 ≤ (ji46)) = true := decide_eq_true c47
        clear c47
        by_cases c48 : (ji46) ≤ (wrap64 ((ji46) + 3))
        ·rw [if_pos c48] at H
         have c48b0 := eq_true c48
         have c48b1 : decide ((ji46) ≤ (wrap64 ((ji46) + 3))) = true := decide_eq_true c48
         by_cases c49 : (wrap64 ((ji46) + 3)) ≤ (l0.length : Int)
         ·rw [if_pos c49] at H
          have c49b0 := eq_true c49
          have c49b1 : decide ((wrap64 ((ji46) + 3)) ≤ (l0.length : Int)) = true := decide_eq_true c49
          obtain ⟨y261, hy261⟩ : ∃ y_ : List Int, y_ = ((l0.take ((wrap64 ((ji46) + 3)) : Int).toNat).drop ((ji46) : Int).toNat) := ⟨_, rfl⟩
          replace H : ((bastilleref01_Get.f k y261).bind fun bt266 => (if bt266.1 > (wrap64 ((l0.length : Int) - (wrap64 ((ji46) + 3)))) then (some (0, 0, ([] : List Int), ([] : List (S43)), 0, 10)) else (if 0 ≤ (wrap64 ((ji46) + 3)) then (if (wrap64 ((ji46) + 3)) ≤ (wrap64 ((wrap64 ((ji46) + 3)) + bt266.1)) then (if (wrap64 ((wrap64 ((ji46) + 3)) + bt266.1)) ≤ (l0.length : Int) then (some (2, 0, ((l0.take ((wrap64 ((wrap64 ((ji46) + 3)) + bt266.1)) : Int).toNat).drop ((wrap64 ((ji46) + 3)) : Int).toNat), ([] : List (S43)), wrap64 ((wrap64 ((ji46) + 3)) + bt266.1), 0)) else (none)) else (none)) else (none)))) = some (r1, r2, r3, r4, r5, r6) := by first | (rw [hy261]; with_reducible exact H) | (have H2_ := (Option.bind_some _ _).symm.trans H; rw [hy261]; with_reducible exact H2_) | (have H2_ := (Option.bind_some _ _).symm.trans H; with_reducible exact H2_) | with_reducible exact H | (rw [hy261]; exact H) | exact H
          have Ny261 := Aside0.mk hy261
          clear hy261
          replace H := Option.bind_eq_some_iff.mp H
          obtain ⟨⟨t266, t267⟩, A500, H⟩ := H
          replace H : (if t266 > (wrap64 ((l0.length : Int) - (wrap64 ((ji46) + 3)))) then (some (0, 0, ([] : List Int), ([] : List (S43)), 0, 10)) else (if 0 ≤ (wrap64 ((ji46) + 3)) then (if (wrap64 ((ji46) + 3)) ≤ (wrap64 ((wrap64 ((ji46) + 3)) + t266)) then (if (wrap64 ((wrap64 ((ji46) + 3)) + t266)) ≤ (l0.length : Int) then (some (2, 0, ((l0.take ((wrap64 ((wrap64 ((ji46) + 3)) + t266)) : Int).toNat).drop ((wrap64 ((ji46) + 3)) : Int).toNat), ([] : List (S43)), wrap64 ((wrap64 ((ji46) + 3)) + t266), 0)) else (none)) else (none)) else (none))) = some (r1, r2, r3, r4, r5, r6) := H
          have A50 := Aside0.mk A500
          clear A500
          by_cases c51 : t266 > (wrap64 ((l0.length : Int) - (wrap64 ((ji46) + 3))))
          ·rw [if_pos c51] at H
           have c51b0 : decide ((wrap64 ((l0.length : Int) - (wrap64 ((ji46) + 3)))) < t266) = true := decide_eq_true c51
           clear c51
           simp only [Option.some.injEq, Prod.mk.injEq] at H
           obtain ⟨rfl, rfl, rfl, rfl, rfl, rfl⟩ := H
           go_enter Tryd.func40, Tryd.ntmps40
           go_wp2_with (first | ((with_reducible refine gate_dst (N := 6) rfl ?_); refine box_event ?hg (N := 6) ?hd (cs := #[.int .i64 0, .int .i64 0, .slice none 0 0, .slice none 0 0]) (t := 43) ?hr ?_; (case hd => rfl); (case hg => rfl); (case hr => first | (go_simp; done) | (go_simp; rfl)); intro gb250 hg w52 hbox hb; have n0_ := Aside0.mk (Kd.V_below (Kd.V_elderB (by (with_reducible repeat (first | apply Kd.V_alloc | apply Kd.V_drewN | apply Kd.V_drew)); exact HO0.out) gb250 (Nat.le_of_eq hg.symm)) hb); have n1_ := Aside0.mk (below_step (by repeat (first | (with_reducible first | exact HB.out | apply below_alloc | apply pw_below_drewN | apply below_drew1) | exact HB.out)) hb); have n2_ := Aside0.mk (hbox); have n3_ := Aside0.mk ((by rw [hg]; exact (below_size (by repeat (first | (with_reducible first | exact HB.out | apply below_alloc | apply pw_below_drewN | apply below_drew1) | exact HB.out))) : w.heap.size ≤ gb250)); have n4_ := Aside0.mk ((by rw [hg]; exact (below_size (by repeat (first | (with_reducible first | exact HB.out | apply below_alloc | apply pw_below_drewN | apply below_drew1) | exact HB.out))) : w.heap.size ≤ gb250)); clear HO0; clear HB; have HO0 := n0_; have HB := n1_; have BK250 := n2_; have GW250 := n3_; have GE250 := n4_; clear n0_ n1_ n2_ n3_ n4_; clear hb hbox hg; have p251 : 0 ≤ (a1 : Int) := of_decide_eq_true (by first | (with_reducible assumption) | assumption); have q251 : a1 < (l0.length : Int) := of_decide_eq_true (by first | (with_reducible assumption) | assumption); obtain ⟨ad251, e251, hx251_0⟩ := Kd.at_int (Kd.V_reads' HO0.out).2.2 a1 p251 q251; cases e251; replace p251 := eq_true p251; replace q251 := eq_true q251; have q53 : ((wrap64 ((ji46) + 3)) : Int) ≤ ((l0.length : Int) : Int) := of_decide_eq_true (by first | (with_reducible assumption) | assumption); obtain ⟨i053, hi053, _, hsz53, _⟩ := info_parts info5; have hroom53 : l0.length ≤ c0 := (Kd.V_reads' HO0.out).2.1; have hC53 : Kd.F (Kd.int .u8) _ _ (some ad251) l0.length l0 := (Kd.V_at (base := w.heap.size) HO0.out).2.2; have ql53 : ((ji46) : Int) ≤ ((wrap64 ((ji46) + 3)) : Int) := of_decide_eq_true (by first | (with_reducible assumption) | assumption); have q053 : (0 : Int) ≤ ((ji46) : Int) := of_decide_eq_true (by first | (with_reducible assumption) | assumption); have hcut53 := cut_mid (P := Tryd.prog) 22 5 .i64 .i64 Tryd.underlying22 hi053 1 hsz53 (some ad251) l0.length c0 (ji46) (wrap64 ((ji46) + 3)) q053 ql53 q53 hroom53; have hr53 := Kd.F_mid (lo := ((ji46) : Int).toNat) (hi := ((wrap64 ((ji46) + 3)) : Int).toNat) (c := c0) hC53 (by omega) (by omega) hroom53; obtain ⟨A53, hA53⟩ : ∃ A1, A1 = (if c0 = ((ji46) : Int).toNat then (some ad251) else ((some ad251) : Option Addr).map (·.add (((ji46) : Int).toNat * 1))) := ⟨_, rfl⟩; obtain ⟨c53, hc53⟩ : ∃ c1, c1 = c0 - ((ji46) : Int).toNat := ⟨_, rfl⟩; have hy53 : y261.length = ((wrap64 ((ji46) + 3)) : Int).toNat - ((ji46) : Int).toNat := (by rw [Ny261.out, List.length_drop, List.length_take] <;> omega); rw [show ((l0).take ((wrap64 ((ji46) + 3)) : Int).toNat).drop ((ji46) : Int).toNat = y261 from Ny261.out.symm] at hr53; replace hr53 : Kd.F (Kd.int .u8) _ _ A53 y261.length y261 := (by rw [hA53]; exact hr53); rw [← hy53, ← hA53, ← hc53] at hcut53; have HO265 := Aside0.mk (show Kd.V (Kd.int .u8) 5 _ w.heap.size _ (.slice A53 y261.length c53) y261 from Kd.V_mk (by rw [hy53, hc53]; exact Nat.sub_le_sub_right (Nat.le_trans (by omega) hroom53) _) hr53); have HC265 := Aside0.mk (show y261.length ≤ c53 from by rw [hy53, hc53]; exact Nat.sub_le_sub_right (Nat.le_trans (by omega) hroom53) _); clear hr53 hC53 hroom53 hi053 hsz53 hc53; have KY53 := Aside0.mk hy53; have KA53 := Aside0.mk hA53; clear hy53 hA53; replace q53 := eq_true q53) | ((with_reducible refine gate_callee (f := 51) rfl ?_); refine goesL_ (some 101) rfl rfl Tryd.func51 (by kernel_rfl) rfl #[.slice A53 y261.length c53] rfl (by (try simp only [List.map_toArray, List.map_cons, List.map_nil]); first | done | rfl | (simp only [List.length_drop, List.length_take]; rfl)) ?_; (with_reducible refine (bastilleref01_Get.calls k _ _ y261 t266 t267 _ ?side1 ?side2 A50.out).mono ?_); (case side1 => repeat (first | exact (Kd.V_reads' HO265.out).2.2 | (with_reducible refine Kd.C_alloc ?_ _) | (with_reducible refine Kd.C_drewN ?_ _) | (with_reducible refine Kd.C_drew ?_))); (case side2 => exact (Kd.V_reads' HO265.out).2.1); rintro e w' ⟨rfl, ⟨nd, rfl⟩⟩; refine ⟨_, rfl, ?_⟩; (try (rw [drewN_self w52]; generalize hq_ : World.drewN w52 _ = w52; have n0_ : Aside0 (Kd.V (Kd.int .u8) 5 w52 w.heap.size (fun k_ => (P0_ k_ ∨ w.heap.size ≤ k_) ∧ k_ ≠ gb250) (.slice (some ad251) l0.length c0) l0) := ⟨by rw [← hq_]; exact (by (with_reducible repeat (first | apply Kd.V_alloc | apply Kd.V_drewN | apply Kd.V_drew)); exact HO0.out)⟩; have n1_ : Aside0 (Kd.V (Kd.int .u8) 5 w52 w.heap.size (fun k_ => (P0_ k_ ∨ w.heap.size ≤ k_) ∧ k_ ≠ gb250) (.slice A53 y261.length c53) y261) := ⟨by rw [← hq_]; exact (by (with_reducible repeat (first | apply Kd.V_alloc | apply Kd.V_drewN | apply Kd.V_drew)); exact HO265.out)⟩; have n2_ : Aside0 (w52.heap[gb250]? = some (.cells #[.int .i64 0, .int .i64 0, .slice none 0 0, .slice none 0 0] 43 (0, 0))) := ⟨by rw [← hq_]; exact (by (with_reducible repeat (first | refine blk_drewN ?_ _ | refine blk_drew ?_ | refine blk_alloc ?_ _)); exact BK250.out)⟩; have n3_ : Aside0 (Below w.heap.size w w52) := ⟨by rw [← hq_]; exact (by repeat (first | (with_reducible first | exact HB.out | apply below_alloc | apply pw_below_drewN | apply below_drew1 | refine below_set ?_ GE250.out) | exact HB.out))⟩; clear HO0 HO265 BK250 HB hq_; have HO0 := n0_; have HO265 := n1_; have BK250 := n2_; have HB := n3_; clear n0_ n1_ n2_ n3_)); have hcz54_0 : w52.cell? ⟨gb250, 0, none⟩ = some (.int .i64 0) := (blk_cell BK250.out 0).trans rfl; have hcz54_1 : w52.cell? ⟨gb250, 1, none⟩ = some (.int .i64 0) := (blk_cell BK250.out 1).trans rfl; have hcz54_2 : w52.cell? ⟨gb250, 2, none⟩ = some (.slice none 0 0) := (blk_cell BK250.out 2).trans rfl; have hcz54_3 : w52.cell? ⟨gb250, 3, none⟩ = some (.slice none 0 0) := (blk_cell BK250.out 3).trans rfl; have hfz54_0 := blk_frozen BK250.out 0; have hfz54_1 := blk_frozen BK250.out 1; have hfz54_2 := blk_frozen BK250.out 2; have hfz54_3 := blk_frozen BK250.out 3))
           refine bodyPost_ret (results_ctt rfl _ _ gb250 43 #[.int .i64 0, .int .i64 0, .slice none 0 0, .slice none 0 0] (0, 0) _ rfl (by (with_reducible repeat (first | refine blk_drewN ?_ _ | refine blk_drew ?_ | refine blk_alloc ?_ _)); refine blk_put (cs := #[.int .i64 0, .int .i64 0, .slice none 0 0, .slice none 0 0]) ?_ 3 _ rfl; (with_reducible repeat (first | refine blk_drewN ?_ _ | refine blk_drew ?_ | refine blk_alloc ?_ _)); refine blk_put (cs := #[.int .i64 0, .int .i64 0, .slice none 0 0, .slice none 0 0]) ?_ 2 _ rfl; (with_reducible repeat (first | refine blk_drewN ?_ _ | refine blk_drew ?_ | refine blk_alloc ?_ _)); refine blk_put (cs := #[.int .i64 0, .int .i64 0, .slice none 0 0, .slice none 0 0]) ?_ 1 _ rfl; (with_reducible repeat (first | refine blk_drewN ?_ _ | refine blk_drew ?_ | refine blk_alloc ?_ _)); refine blk_put (cs := #[.int .i64 0, .int .i64 0, .slice none 0 0, .slice none 0 0]) ?_ 0 _ rfl; (with_reducible repeat (first | refine blk_drewN ?_ _ | refine blk_drew ?_ | refine blk_alloc ?_ _)); exact BK250.out) Tryd.underlying43 rfl (by kernel_rfl)) rfl ?_
           exact ⟨_, _, by first | rfl | (simp [errW_none, errW_some] <;> rfl) | (simp only [← hji46]; first | rfl | (simp [errW_none, errW_some] <;> rfl)) | (simp [*, errW_none, errW_some] <;> rfl), Kd.V_nil _ _ _ _ _, by first | exact Kd.N_nil _ _ _ _ _ | exact Kd.R_nil _ _ _ _ _, by repeat (first | (with_reducible first | exact HB.out | apply below_alloc | apply pw_below_drewN | apply below_drew1 | refine below_set ?_ GE250.out) | exact HB.out)⟩
          ·rw [if_neg c51] at H
           have c51b0 : decide ((wrap64 ((l0.length : Int) - (wrap64 ((ji46) + 3)))) < t266) = false := decide_eq_false c51
           clear c51
           obtain ⟨ji55, hji55⟩ : ∃ j_ : Int, (wrap64 ((ji46) + 3)) = j_ := ⟨_, rfl⟩
           replace H : (if 0 ≤ (ji55) then (if (ji55) ≤ (wrap64 ((ji55) + t266)) then (if (wrap64 ((ji55) + t266)) ≤ (l0.length : Int) then (some (2, 0, ((l0.take ((wrap64 ((ji55) + t266)) : Int).toNat).drop ((ji55) : Int).toNat), ([] : List (S43)), wrap64 ((ji55) + t266), 0)) else (none)) else (none)) else (none)) = some (r1, r2, r3, r4, r5, r6) := by first | (rw [hji55] at H; exact H) | (simp only [hji55] at H ⊢; exact H)
           (try rw [hji55] at c48b0)
           (try rw [hji55] at c48b1)
           (try rw [hji55] at c48)
           (try rw [hji55] at c49b0)
           (try rw [hji55] at c49b1)
           (try rw [hji55] at c49)
           (try rw [hji55] at c51b0)
           (try rw [hji55] at Ny261)
           (try rw [hji55] at A50)
           have hji55w : (IntKind.i64.wrap ((ji46) + 3)) = ji55 := (i64_w _).trans hji55
           by_cases c56 : 0 ≤ (ji55)
           ·rw [if_pos c56] at H
            have c56b0 := eq_true c56
            have c56b1 : decide (0 ≤ (ji55)) = true := decide_eq_true c56
            clear c56
            by_cases c57 : (ji55) ≤ (wrap64 ((ji55) + t266))
            ·rw [if_pos c57] at H
             have c57b0 := eq_true c57
             have c57b1 : decide ((ji55) ≤ (wrap64 ((ji55) + t266))) = true := decide_eq_true c57
             by_cases c58 : (wrap64 ((ji55) + t266)) ≤ (l0.length : Int)
             ·rw [if_pos c58] at H
              have c58b0 := eq_true c58
              have c58b1 : decide ((wrap64 ((ji55) + t266)) ≤ (l0.length : Int)) = true := decide_eq_true c58
              obtain ⟨y268, hy268⟩ : ∃ y_ : List Int, y_ = ((l0.take ((wrap64 ((ji55) + t266)) : Int).toNat).drop ((ji55) : Int).toNat) := ⟨_, rfl⟩
              replace H : (some (2, 0, y268, ([] : List (S43)), wrap64 ((ji55) + t266), 0)) = some (r1, r2, r3, r4, r5, r6) := by first | (rw [hy268]; with_reducible exact H) | (have H2_ := (Option.bind_some _ _).symm.trans H; rw [hy268]; with_reducible exact H2_) | (have H2_ := (Option.bind_some _ _).symm.trans H; with_reducible exact H2_) | with_reducible exact H | (rw [hy268]; exact H) | exact H
              have Ny268 := Aside0.mk hy268
              clear hy268
              simp only [Option.some.injEq, Prod.mk.injEq] at H
              obtain ⟨rfl, rfl, rfl, rfl, rfl, rfl⟩ := H
              go_enter Tryd.func40, Tryd.ntmps40
              go_wp2_with (first | ((with_reducible refine gate_dst (N := 6) rfl ?_); refine box_event ?hg (N := 6) ?hd (cs := #[.int .i64 0, .int .i64 0, .slice none 0 0, .slice none 0 0]) (t := 43) ?hr ?_; (case hd => rfl); (case hg => rfl); (case hr => first | (go_simp; done) | (go_simp; rfl)); intro gb250 hg w59 hbox hb; have n0_ := Aside0.mk (Kd.V_below (Kd.V_elderB (by (with_reducible repeat (first | apply Kd.V_alloc | apply Kd.V_drewN | apply Kd.V_drew)); exact HO0.out) gb250 (Nat.le_of_eq hg.symm)) hb); have n1_ := Aside0.mk (below_step (by repeat (first | (with_reducible first | exact HB.out | apply below_alloc | apply pw_below_drewN | apply below_drew1) | exact HB.out)) hb); have n2_ := Aside0.mk (hbox); have n3_ := Aside0.mk ((by rw [hg]; exact (below_size (by repeat (first | (with_reducible first | exact HB.out | apply below_alloc | apply pw_below_drewN | apply below_drew1) | exact HB.out))) : w.heap.size ≤ gb250)); have n4_ := Aside0.mk ((by rw [hg]; exact (below_size (by repeat (first | (with_reducible first | exact HB.out | apply below_alloc | apply pw_below_drewN | apply below_drew1) | exact HB.out))) : w.heap.size ≤ gb250)); clear HO0; clear HB; have HO0 := n0_; have HB := n1_; have BK250 := n2_; have GW250 := n3_; have GE250 := n4_; clear n0_ n1_ n2_ n3_ n4_; clear hb hbox hg; have p251 : 0 ≤ (a1 : Int) := of_decide_eq_true (by first | (with_reducible assumption) | assumption); have q251 : a1 < (l0.length : Int) := of_decide_eq_true (by first | (with_reducible assumption) | assumption); obtain ⟨ad251, e251, hx251_0⟩ := Kd.at_int (Kd.V_reads' HO0.out).2.2 a1 p251 q251; cases e251; replace p251 := eq_true p251; replace q251 := eq_true q251; have q60 : ((ji55) : Int) ≤ ((l0.length : Int) : Int) := of_decide_eq_true (by first | (with_reducible assumption) | assumption); obtain ⟨i060, hi060, _, hsz60, _⟩ := info_parts info5; have hroom60 : l0.length ≤ c0 := (Kd.V_reads' HO0.out).2.1; have hC60 : Kd.F (Kd.int .u8) _ _ (some ad251) l0.length l0 := (Kd.V_at (base := w.heap.size) HO0.out).2.2; have ql60 : ((ji46) : Int) ≤ ((ji55) : Int) := of_decide_eq_true (by first | (with_reducible assumption) | assumption); have q060 : (0 : Int) ≤ ((ji46) : Int) := of_decide_eq_true (by first | (with_reducible assumption) | assumption); have hcut60 := cut_mid (P := Tryd.prog) 22 5 .i64 .i64 Tryd.underlying22 hi060 1 hsz60 (some ad251) l0.length c0 (ji46) (ji55) q060 ql60 q60 hroom60; have hr60 := Kd.F_mid (lo := ((ji46) : Int).toNat) (hi := ((ji55) : Int).toNat) (c := c0) hC60 (by omega) (by omega) hroom60; obtain ⟨A60, hA60⟩ : ∃ A1, A1 = (if c0 = ((ji46) : Int).toNat then (some ad251) else ((some ad251) : Option Addr).map (·.add (((ji46) : Int).toNat * 1))) := ⟨_, rfl⟩; obtain ⟨c60, hc60⟩ : ∃ c1, c1 = c0 - ((ji46) : Int).toNat := ⟨_, rfl⟩; have hy60 : y261.length = ((ji55) : Int).toNat - ((ji46) : Int).toNat := (by rw [Ny261.out, List.length_drop, List.length_take] <;> omega); rw [show ((l0).take ((ji55) : Int).toNat).drop ((ji46) : Int).toNat = y261 from Ny261.out.symm] at hr60; replace hr60 : Kd.F (Kd.int .u8) _ _ A60 y261.length y261 := (by rw [hA60]; exact hr60); rw [← hy60, ← hA60, ← hc60] at hcut60; have HO265 := Aside0.mk (show Kd.V (Kd.int .u8) 5 _ w.heap.size _ (.slice A60 y261.length c60) y261 from Kd.V_mk (by rw [hy60, hc60]; exact Nat.sub_le_sub_right (Nat.le_trans (by omega) hroom60) _) hr60); have HC265 := Aside0.mk (show y261.length ≤ c60 from by rw [hy60, hc60]; exact Nat.sub_le_sub_right (Nat.le_trans (by omega) hroom60) _); clear hr60 hC60 hroom60 hi060 hsz60 hc60; have KY60 := Aside0.mk hy60; have KA60 := Aside0.mk hA60; clear hy60 hA60; replace q60 := eq_true q60) | ((with_reducible refine gate_callee (f := 51) rfl ?_); refine goesL_ (some 101) rfl rfl Tryd.func51 (by kernel_rfl) rfl #[.slice A60 y261.length c60] rfl (by (try simp only [List.map_toArray, List.map_cons, List.map_nil]); first | done | rfl | (simp only [List.length_drop, List.length_take]; rfl)) ?_; (with_reducible refine (bastilleref01_Get.calls k _ _ y261 t266 t267 _ ?side1 ?side2 A50.out).mono ?_); (case side1 => repeat (first | exact (Kd.V_reads' HO265.out).2.2 | (with_reducible refine Kd.C_alloc ?_ _) | (with_reducible refine Kd.C_drewN ?_ _) | (with_reducible refine Kd.C_drew ?_))); (case side2 => exact (Kd.V_reads' HO265.out).2.1); rintro e w' ⟨rfl, ⟨nd, rfl⟩⟩; refine ⟨_, rfl, ?_⟩; (try (rw [drewN_self w59]; generalize hq_ : World.drewN w59 _ = w59; have n0_ : Aside0 (Kd.V (Kd.int .u8) 5 w59 w.heap.size (fun k_ => (P0_ k_ ∨ w.heap.size ≤ k_) ∧ k_ ≠ gb250) (.slice (some ad251) l0.length c0) l0) := ⟨by rw [← hq_]; exact (by (with_reducible repeat (first | apply Kd.V_alloc | apply Kd.V_drewN | apply Kd.V_drew)); exact HO0.out)⟩; have n1_ : Aside0 (Kd.V (Kd.int .u8) 5 w59 w.heap.size (fun k_ => (P0_ k_ ∨ w.heap.size ≤ k_) ∧ k_ ≠ gb250) (.slice A60 y261.length c60) y261) := ⟨by rw [← hq_]; exact (by (with_reducible repeat (first | apply Kd.V_alloc | apply Kd.V_drewN | apply Kd.V_drew)); exact HO265.out)⟩; have n2_ : Aside0 (w59.heap[gb250]? = some (.cells #[.int .i64 0, .int .i64 0, .slice none 0 0, .slice none 0 0] 43 (0, 0))) := ⟨by rw [← hq_]; exact (by (with_reducible repeat (first | refine blk_drewN ?_ _ | refine blk_drew ?_ | refine blk_alloc ?_ _)); exact BK250.out)⟩; have n3_ : Aside0 (Below w.heap.size w w59) := ⟨by rw [← hq_]; exact (by repeat (first | (with_reducible first | exact HB.out | apply below_alloc | apply pw_below_drewN | apply below_drew1 | refine below_set ?_ GE250.out) | exact HB.out))⟩; clear HO0 HO265 BK250 HB hq_; have HO0 := n0_; have HO265 := n1_; have BK250 := n2_; have HB := n3_; clear n0_ n1_ n2_ n3_)); have q61 : ((wrap64 ((ji55) + t266)) : Int) ≤ ((l0.length : Int) : Int) := of_decide_eq_true (by first | (with_reducible assumption) | assumption); obtain ⟨i061, hi061, _, hsz61, _⟩ := info_parts info5; have hroom61 : l0.length ≤ c0 := (Kd.V_reads' HO0.out).2.1; have hC61 : Kd.F (Kd.int .u8) _ _ (some ad251) l0.length l0 := (Kd.V_at (base := w.heap.size) HO0.out).2.2; have ql61 : ((ji55) : Int) ≤ ((wrap64 ((ji55) + t266)) : Int) := of_decide_eq_true (by first | (with_reducible assumption) | assumption); have q061 : (0 : Int) ≤ ((ji55) : Int) := of_decide_eq_true (by first | (with_reducible assumption) | assumption); have hcut61 := cut_mid (P := Tryd.prog) 22 5 .i64 .i64 Tryd.underlying22 hi061 1 hsz61 (some ad251) l0.length c0 (ji55) (wrap64 ((ji55) + t266)) q061 ql61 q61 hroom61; have hr61 := Kd.F_mid (lo := ((ji55) : Int).toNat) (hi := ((wrap64 ((ji55) + t266)) : Int).toNat) (c := c0) hC61 (by omega) (by omega) hroom61; obtain ⟨A61, hA61⟩ : ∃ A1, A1 = (if c0 = ((ji55) : Int).toNat then (some ad251) else ((some ad251) : Option Addr).map (·.add (((ji55) : Int).toNat * 1))) := ⟨_, rfl⟩; obtain ⟨c61, hc61⟩ : ∃ c1, c1 = c0 - ((ji55) : Int).toNat := ⟨_, rfl⟩; have hy61 : y268.length = ((wrap64 ((ji55) + t266)) : Int).toNat - ((ji55) : Int).toNat := (by rw [Ny268.out, List.length_drop, List.length_take] <;> omega); rw [show ((l0).take ((wrap64 ((ji55) + t266)) : Int).toNat).drop ((ji55) : Int).toNat = y268 from Ny268.out.symm] at hr61; replace hr61 : Kd.F (Kd.int .u8) _ _ A61 y268.length y268 := (by rw [hA61]; exact hr61); rw [← hy61, ← hA61, ← hc61] at hcut61; have HO272 := Aside0.mk (show Kd.V (Kd.int .u8) 5 _ w.heap.size _ (.slice A61 y268.length c61) y268 from Kd.V_mk (by rw [hy61, hc61]; exact Nat.sub_le_sub_right (Nat.le_trans (by omega) hroom61) _) hr61); have HC272 := Aside0.mk (show y268.length ≤ c61 from by rw [hy61, hc61]; exact Nat.sub_le_sub_right (Nat.le_trans (by omega) hroom61) _); clear hr61 hC61 hroom61 hi061 hsz61 hc61; have KY61 := Aside0.mk hy61; have KA61 := Aside0.mk hA61; clear hy61 hA61; replace q61 := eq_true q61; have hcz62_0 : w59.cell? ⟨gb250, 0, none⟩ = some (.int .i64 0) := (blk_cell BK250.out 0).trans rfl; have hcz62_1 : w59.cell? ⟨gb250, 1, none⟩ = some (.int .i64 0) := (blk_cell BK250.out 1).trans rfl; have hcz62_2 : w59.cell? ⟨gb250, 2, none⟩ = some (.slice none 0 0) := (blk_cell BK250.out 2).trans rfl; have hcz62_3 : w59.cell? ⟨gb250, 3, none⟩ = some (.slice none 0 0) := (blk_cell BK250.out 3).trans rfl; have hfz62_0 := blk_frozen BK250.out 0; have hfz62_1 := blk_frozen BK250.out 1; have hfz62_2 := blk_frozen BK250.out 2; have hfz62_3 := blk_frozen BK250.out 3))
              refine bodyPost_ret (results_ctt rfl _ _ gb250 43 #[.int .i64 2, .int .i64 0, .slice A61 y268.length c61, .slice none 0 0] (0, 0) _ rfl (by (with_reducible repeat (first | refine blk_drewN ?_ _ | refine blk_drew ?_ | refine blk_alloc ?_ _)); refine blk_put (cs := #[.int .i64 2, .int .i64 0, .slice A61 y268.length c61, .slice none 0 0]) ?_ 3 _ rfl; (with_reducible repeat (first | refine blk_drewN ?_ _ | refine blk_drew ?_ | refine blk_alloc ?_ _)); refine blk_put (cs := #[.int .i64 2, .int .i64 0, .slice none 0 0, .slice none 0 0]) ?_ 2 _ rfl; (with_reducible repeat (first | refine blk_drewN ?_ _ | refine blk_drew ?_ | refine blk_alloc ?_ _)); refine blk_put (cs := #[.int .i64 2, .int .i64 0, .slice none 0 0, .slice none 0 0]) ?_ 1 _ rfl; (with_reducible repeat (first | refine blk_drewN ?_ _ | refine blk_drew ?_ | refine blk_alloc ?_ _)); refine blk_put (cs := #[.int .i64 0, .int .i64 0, .slice none 0 0, .slice none 0 0]) ?_ 0 _ rfl; (with_reducible repeat (first | refine blk_drewN ?_ _ | refine blk_drew ?_ | refine blk_alloc ?_ _)); exact BK250.out) Tryd.underlying43 rfl (by kernel_rfl)) rfl ?_
              exact ⟨_, _, by first | rfl | (simp [errW_none, errW_some] <;> rfl) | (simp only [← hji46, ← hji55]; first | rfl | (simp [errW_none, errW_some] <;> rfl)) | (simp [*, errW_none, errW_some] <;> rfl), by (with_reducible repeat (first | apply Kd.V_alloc | apply Kd.V_drewN | apply Kd.V_drew)); exact Kd.V_mono (Kd.V_far (p := ⟨gb250, 3, none⟩) (Kd.V_far (p := ⟨gb250, 2, none⟩) (Kd.V_far (p := ⟨gb250, 1, none⟩) (Kd.V_far (p := ⟨gb250, 0, none⟩) (Kd.V_mono HO272.out (fun k_ hk => (⟨hk, hk.2⟩ : _ ∧ k_ ≠ gb250))) (fun _ hk => hk.2) (.int .i64 2)) (fun _ hk => hk.2) (.int .i64 0)) (fun _ hk => hk.2) (.slice A61 y268.length c61)) (fun _ hk => hk.2) (.slice none 0 0)) (fun _ hk => ⟨hk.1.1, (by simp [Value.ownBlock])⟩), by first | exact Kd.N_nil _ _ _ _ _ | exact Kd.R_nil _ _ _ _ _, by repeat (first | (with_reducible first | exact HB.out | apply below_alloc | apply pw_below_drewN | apply below_drew1 | refine below_set ?_ GE250.out) | exact HB.out)⟩
             ·rw [if_neg c58] at H
              exact absurd H (by simp)
            ·rw [if_neg c57] at H
             exact absurd H (by simp)
           ·rw [if_neg c56] at H
            exact absurd H (by simp)
         ·rw [if_neg c49] at H
          exact absurd H (by simp)
        ·rw [if_neg c48] at H
         exact absurd H (by simp)
       ·rw [if_neg c47] at H
        exact absurd H (by simp)
     ·rw [if_neg c42] at H
      have c42b0 : ((wrap64 (rd l0 a1)) == 2) = false := beq_eq_false_iff_ne.mpr c42
      have c42b1 : ((wrap64 (rd l0 a1)) != 2) = true := bne_iff_ne.mpr c42
      by_cases c63 : (wrap64 (rd l0 a1)) = 3
      ·rw [if_pos c63] at H
       have c63b0 : ((wrap64 (rd l0 a1)) == 3) = true := beq_iff_eq.mpr c63
       have c63b1 : ((wrap64 (rd l0 a1)) != 3) = false := bne_eq_false_iff_eq.mpr c63
       clear c63
       by_cases c64 : (wrap64 ((l0.length : Int) - (wrap64 (a1 + 1)))) < 2
       ·rw [if_pos c64] at H
        have c64b0 : decide ((wrap64 ((l0.length : Int) - (wrap64 (a1 + 1)))) < 2) = true := decide_eq_true c64
        clear c64
        simp only [Option.some.injEq, Prod.mk.injEq] at H
        obtain ⟨rfl, rfl, rfl, rfl, rfl, rfl⟩ := H
        go_enter Tryd.func40, Tryd.ntmps40
        go_wp2_with (first | ((with_reducible refine gate_dst (N := 6) rfl ?_); refine box_event ?hg (N := 6) ?hd (cs := #[.int .i64 0, .int .i64 0, .slice none 0 0, .slice none 0 0]) (t := 43) ?hr ?_; (case hd => rfl); (case hg => rfl); (case hr => first | (go_simp; done) | (go_simp; rfl)); intro gb250 hg w65 hbox hb; have n0_ := Aside0.mk (Kd.V_below (Kd.V_elderB (by (with_reducible repeat (first | apply Kd.V_alloc | apply Kd.V_drewN | apply Kd.V_drew)); exact HO0.out) gb250 (Nat.le_of_eq hg.symm)) hb); have n1_ := Aside0.mk (below_step (by repeat (first | (with_reducible first | exact HB.out | apply below_alloc | apply pw_below_drewN | apply below_drew1) | exact HB.out)) hb); have n2_ := Aside0.mk (hbox); have n3_ := Aside0.mk ((by rw [hg]; exact (below_size (by repeat (first | (with_reducible first | exact HB.out | apply below_alloc | apply pw_below_drewN | apply below_drew1) | exact HB.out))) : w.heap.size ≤ gb250)); have n4_ := Aside0.mk ((by rw [hg]; exact (below_size (by repeat (first | (with_reducible first | exact HB.out | apply below_alloc | apply pw_below_drewN | apply below_drew1) | exact HB.out))) : w.heap.size ≤ gb250)); clear HO0; clear HB; have HO0 := n0_; have HB := n1_; have BK250 := n2_; have GW250 := n3_; have GE250 := n4_; clear n0_ n1_ n2_ n3_ n4_; clear hb hbox hg; have p251 : 0 ≤ (a1 : Int) := of_decide_eq_true (by first | (with_reducible assumption) | assumption); have q251 : a1 < (l0.length : Int) := of_decide_eq_true (by first | (with_reducible assumption) | assumption); obtain ⟨ad251, e251, hx251_0⟩ := Kd.at_int (Kd.V_reads' HO0.out).2.2 a1 p251 q251; cases e251; replace p251 := eq_true p251; replace q251 := eq_true q251; have hcz66_0 : w65.cell? ⟨gb250, 0, none⟩ = some (.int .i64 0) := (blk_cell BK250.out 0).trans rfl; have hcz66_1 : w65.cell? ⟨gb250, 1, none⟩ = some (.int .i64 0) := (blk_cell BK250.out 1).trans rfl; have hcz66_2 : w65.cell? ⟨gb250, 2, none⟩ = some (.slice none 0 0) := (blk_cell BK250.out 2).trans rfl; have hcz66_3 : w65.cell? ⟨gb250, 3, none⟩ = some (.slice none 0 0) := (blk_cell BK250.out 3).trans rfl; have hfz66_0 := blk_frozen BK250.out 0; have hfz66_1 := blk_frozen BK250.out 1; have hfz66_2 := blk_frozen BK250.out 2; have hfz66_3 := blk_frozen BK250.out 3))
        refine bodyPost_ret (results_ctt rfl _ _ gb250 43 #[.int .i64 0, .int .i64 0, .slice none 0 0, .slice none 0 0] (0, 0) _ rfl (by (with_reducible repeat (first | refine blk_drewN ?_ _ | refine blk_drew ?_ | refine blk_alloc ?_ _)); refine blk_put (cs := #[.int .i64 0, .int .i64 0, .slice none 0 0, .slice none 0 0]) ?_ 3 _ rfl; (with_reducible repeat (first | refine blk_drewN ?_ _ | refine blk_drew ?_ | refine blk_alloc ?_ _)); refine blk_put (cs := #[.int .i64 0, .int .i64 0, .slice none 0 0, .slice none 0 0]) ?_ 2 _ rfl; (with_reducible repeat (first | refine blk_drewN ?_ _ | refine blk_drew ?_ | refine blk_alloc ?_ _)); refine blk_put (cs := #[.int .i64 0, .int .i64 0, .slice none 0 0, .slice none 0 0]) ?_ 1 _ rfl; (with_reducible repeat (first | refine blk_drewN ?_ _ | refine blk_drew ?_ | refine blk_alloc ?_ _)); refine blk_put (cs := #[.int .i64 0, .int .i64 0, .slice none 0 0, .slice none 0 0]) ?_ 0 _ rfl; (with_reducible repeat (first | refine blk_drewN ?_ _ | refine blk_drew ?_ | refine blk_alloc ?_ _)); exact BK250.out) Tryd.underlying43 rfl (by kernel_rfl)) rfl ?_
        exact ⟨_, _, by first | rfl | (simp [errW_none, errW_some] <;> rfl) | (simp [*, errW_none, errW_some] <;> rfl), Kd.V_nil _ _ _ _ _, by first | exact Kd.N_nil _ _ _ _ _ | exact Kd.R_nil _ _ _ _ _, by repeat (first | (with_reducible first | exact HB.out | apply below_alloc | apply pw_below_drewN | apply below_drew1 | refine below_set ?_ GE250.out) | exact HB.out)⟩
       ·rw [if_neg c64] at H
        have c64b0 : decide ((wrap64 ((l0.length : Int) - (wrap64 (a1 + 1)))) < 2) = false := decide_eq_false c64
        clear c64
        obtain ⟨ji67, hji67⟩ : ∃ j_ : Int, (wrap64 (a1 + 1)) = j_ := ⟨_, rfl⟩
        replace H : (if 0 ≤ (ji67) then (if (ji67) ≤ (wrap64 ((ji67) + 2)) then (if (wrap64 ((ji67) + 2)) ≤ (l0.length : Int) then ((bastilleref01_Get.f k ((l0.take ((wrap64 ((ji67) + 2)) : Int).toNat).drop ((ji67) : Int).toNat)).bind fun bt278 => (if bt278.1 > 4096 then (bastilleref02_Read.j0 k l0 (wrap64 ((ji67) + 2)) a2 bt278.1 true) else (bastilleref02_Read.j0 k l0 (wrap64 ((ji67) + 2)) a2 bt278.1 (a2 == 0)))) else (none)) else (none)) else (none)) = some (r1, r2, r3, r4, r5, r6) := by first | (rw [hji67] at H; exact H) | (simp only [hji67] at H ⊢; exact H)
        (try rw [hji67] at c64b0)
        have hji67w : (IntKind.i64.wrap (a1 + 1)) = ji67 := (i64_w _).trans hji67
        by_cases c68 : 0 ≤ (ji67)
        ·rw [if_pos c68] at H
         have c68b0 := eq_true c68
         have c68b1 : decide (0 ≤ (ji67)) = true := decide_eq_true c68
         clear c68
         by_cases c69 : (ji67) ≤ (wrap64 ((ji67) + 2))
         ·rw [if_pos c69] at H
          have c69b0 := eq_true c69
          have c69b1 : decide ((ji67) ≤ (wrap64 ((ji67) + 2))) = true := decide_eq_true c69
          by_cases c70 : (wrap64 ((ji67) + 2)) ≤ (l0.length : Int)
          ·rw [if_pos c70] at H
           have c70b0 := eq_true c70
           have c70b1 : decide ((wrap64 ((ji67) + 2)) ≤ (l0.length : Int)) = true := decide_eq_true c70
           obtain ⟨y273, hy273⟩ : ∃ y_ : List Int, y_ = ((l0.take ((wrap64 ((ji67) + 2)) : Int).toNat).drop ((ji67) : Int).toNat) := ⟨_, rfl⟩
           replace H : ((bastilleref01_Get.f k y273).bind fun bt278 => (if bt278.1 > 4096 then (bastilleref02_Read.j0 k l0 (wrap64 ((ji67) + 2)) a2 bt278.1 true) else (bastilleref02_Read.j0 k l0 (wrap64 ((ji67) + 2)) a2 bt278.1 (a2 == 0)))) = some (r1, r2, r3, r4, r5, r6) := by first | (rw [hy273]; with_reducible exact H) | (have H2_ := (Option.bind_some _ _).symm.trans H; rw [hy273]; with_reducible exact H2_) | (have H2_ := (Option.bind_some _ _).symm.trans H; with_reducible exact H2_) | with_reducible exact H | (rw [hy273]; exact H) | exact H
           have Ny273 := Aside0.mk hy273
           clear hy273
           replace H := Option.bind_eq_some_iff.mp H
           obtain ⟨⟨t278, t279⟩, A710, H⟩ := H
           replace H : (if t278 > 4096 then (bastilleref02_Read.j0 k l0 (wrap64 ((ji67) + 2)) a2 t278 true) else (bastilleref02_Read.j0 k l0 (wrap64 ((ji67) + 2)) a2 t278 (a2 == 0))) = some (r1, r2, r3, r4, r5, r6) := H
           have A71 := Aside0.mk A710
           clear A710
           have HC72 := Aside0.mk H
           clear H
           go_enter Tryd.func40, Tryd.ntmps40
           go_upto_region 34 with (first | ((with_reducible refine gate_dst (N := 6) rfl ?_); refine box_event ?hg (N := 6) ?hd (cs := #[.int .i64 0, .int .i64 0, .slice none 0 0, .slice none 0 0]) (t := 43) ?hr ?_; (case hd => rfl); (case hg => rfl); (case hr => first | (go_simp; done) | (go_simp; rfl)); intro gb250 hg w73 hbox hb; have n0_ := Aside0.mk (Kd.V_below (Kd.V_elderB (by (with_reducible repeat (first | apply Kd.V_alloc | apply Kd.V_drewN | apply Kd.V_drew)); exact HO0.out) gb250 (Nat.le_of_eq hg.symm)) hb); have n1_ := Aside0.mk (below_step (by repeat (first | (with_reducible first | exact HB.out | apply below_alloc | apply pw_below_drewN | apply below_drew1) | exact HB.out)) hb); have n2_ := Aside0.mk (hbox); have n3_ := Aside0.mk ((by rw [hg]; exact (below_size (by repeat (first | (with_reducible first | exact HB.out | apply below_alloc | apply pw_below_drewN | apply below_drew1) | exact HB.out))) : w.heap.size ≤ gb250)); have n4_ := Aside0.mk ((by rw [hg]; exact (below_size (by repeat (first | (with_reducible first | exact HB.out | apply below_alloc | apply pw_below_drewN | apply below_drew1) | exact HB.out))) : w.heap.size ≤ gb250)); clear HO0; clear HB; have HO0 := n0_; have HB := n1_; have BK250 := n2_; have GW250 := n3_; have GE250 := n4_; clear n0_ n1_ n2_ n3_ n4_; clear hb hbox hg; have p251 : 0 ≤ (a1 : Int) := of_decide_eq_true (by first | (with_reducible assumption) | assumption); have q251 : a1 < (l0.length : Int) := of_decide_eq_true (by first | (with_reducible assumption) | assumption); obtain ⟨ad251, e251, hx251_0⟩ := Kd.at_int (Kd.V_reads' HO0.out).2.2 a1 p251 q251; cases e251; replace p251 := eq_true p251; replace q251 := eq_true q251; have q74 : ((wrap64 ((ji67) + 2)) : Int) ≤ ((l0.length : Int) : Int) := of_decide_eq_true (by first | (with_reducible assumption) | assumption); obtain ⟨i074, hi074, _, hsz74, _⟩ := info_parts info5; have hroom74 : l0.length ≤ c0 := (Kd.V_reads' HO0.out).2.1; have hC74 : Kd.F (Kd.int .u8) _ _ (some ad251) l0.length l0 := (Kd.V_at (base := w.heap.size) HO0.out).2.2; have ql74 : ((ji67) : Int) ≤ ((wrap64 ((ji67) + 2)) : Int) := of_decide_eq_true (by first | (with_reducible assumption) | assumption); have q074 : (0 : Int) ≤ ((ji67) : Int) := of_decide_eq_true (by first | (with_reducible assumption) | assumption); have hcut74 := cut_mid (P := Tryd.prog) 22 5 .i64 .i64 Tryd.underlying22 hi074 1 hsz74 (some ad251) l0.length c0 (ji67) (wrap64 ((ji67) + 2)) q074 ql74 q74 hroom74; have hr74 := Kd.F_mid (lo := ((ji67) : Int).toNat) (hi := ((wrap64 ((ji67) + 2)) : Int).toNat) (c := c0) hC74 (by omega) (by omega) hroom74; obtain ⟨A74, hA74⟩ : ∃ A1, A1 = (if c0 = ((ji67) : Int).toNat then (some ad251) else ((some ad251) : Option Addr).map (·.add (((ji67) : Int).toNat * 1))) := ⟨_, rfl⟩; obtain ⟨c74, hc74⟩ : ∃ c1, c1 = c0 - ((ji67) : Int).toNat := ⟨_, rfl⟩; have hy74 : y273.length = ((wrap64 ((ji67) + 2)) : Int).toNat - ((ji67) : Int).toNat := (by rw [Ny273.out, List.length_drop, List.length_take] <;> omega); rw [show ((l0).take ((wrap64 ((ji67) + 2)) : Int).toNat).drop ((ji67) : Int).toNat = y273 from Ny273.out.symm] at hr74; replace hr74 : Kd.F (Kd.int .u8) _ _ A74 y273.length y273 := (by rw [hA74]; exact hr74); rw [← hy74, ← hA74, ← hc74] at hcut74; have HO277 := Aside0.mk (show Kd.V (Kd.int .u8) 5 _ w.heap.size _ (.slice A74 y273.length c74) y273 from Kd.V_mk (by rw [hy74, hc74]; exact Nat.sub_le_sub_right (Nat.le_trans (by omega) hroom74) _) hr74); have HC277 := Aside0.mk (show y273.length ≤ c74 from by rw [hy74, hc74]; exact Nat.sub_le_sub_right (Nat.le_trans (by omega) hroom74) _); clear hr74 hC74 hroom74 hi074 hsz74 hc74; have KY74 := Aside0.mk hy74; have KA74 := Aside0.mk hA74; clear hy74 hA74; replace q74 := eq_true q74) | ((with_reducible refine gate_callee (f := 51) rfl ?_); refine goesL_ (some 138) rfl rfl Tryd.func51 (by kernel_rfl) rfl #[.slice A74 y273.length c74] rfl (by (try simp only [List.map_toArray, List.map_cons, List.map_nil]); first | done | rfl | (simp only [List.length_drop, List.length_take]; rfl)) ?_; (with_reducible refine (bastilleref01_Get.calls k _ _ y273 t278 t279 _ ?side1 ?side2 A71.out).mono ?_); (case side1 => repeat (first | exact (Kd.V_reads' HO277.out).2.2 | (with_reducible refine Kd.C_alloc ?_ _) | (with_reducible refine Kd.C_drewN ?_ _) | (with_reducible refine Kd.C_drew ?_))); (case side2 => exact (Kd.V_reads' HO277.out).2.1); rintro e w' ⟨rfl, ⟨nd, rfl⟩⟩; refine ⟨_, rfl, ?_⟩))
           (try simp only [Act.put, List.setIfInBounds_toArray, List.set_cons_zero, List.set_cons_succ])
           go_cut [148] (fun v148 wc => ∃ (kq : Nat) (x148_71 : Bool), v148 = .bool x148_71 ∧ Aside0 (bastilleref02_Read.j0 kq l0 (wrap64 ((ji67) + 2)) a2 t278 x148_71 = some (r1, r2, r3, r4, r5, r6)) ∧ Aside0 (kq ≤ k) ∧ Aside0 (Kd.V (Kd.int .u8) 5 wc w.heap.size (fun k_ => (P0_ k_ ∨ w.heap.size ≤ k_) ∧ k_ ≠ gb250) (.slice (some ad251) l0.length c0) l0) ∧ Aside0 (wc.heap[gb250]? = some (.cells #[.int .i64 0, .int .i64 0, (.slice none 0 0), (.slice none 0 0)] 43 (0, 0))) ∧ Aside0 (Below w.heap.size w wc))
           case first =>
            have H := HC72.out
            clear HC72
            by_cases c75 : t278 > 4096
            ·rw [if_pos c75] at H
             have c75b0 : decide (4096 < t278) = true := decide_eq_true c75
             clear c75
             (first | rw [c75b0] | (simp only [i64_w, i32_w]; rw [c75b0]) | skip)
             have H' := Aside0.mk H
             clear H
             go_wp2
             go_meet
             case rel => exact ⟨_, (true), (by first | rfl | (simp; done) | (simp [*]; done)), H', ⟨by first | omega | exact Nat.le_refl _⟩, ⟨by (with_reducible repeat (first | apply Kd.V_alloc | apply Kd.V_drewN | apply Kd.V_drew)); exact HO0.out⟩, ⟨by (with_reducible repeat (first | refine blk_drewN ?_ _ | refine blk_drew ?_ | refine blk_alloc ?_ _)); exact BK250.out⟩, ⟨by repeat (first | (with_reducible first | exact HB.out | apply below_alloc | apply pw_below_drewN | apply below_drew1 | refine below_set ?_ GE250.out) | exact HB.out)⟩⟩
            ·rw [if_neg c75] at H
             have c75b0 : decide (4096 < t278) = false := decide_eq_false c75
             clear c75
             (first | rw [c75b0] | (simp only [i64_w, i32_w]; rw [c75b0]) | skip)
             have H' := Aside0.mk H
             clear H
             go_wp2
             go_meet
             case rel => exact ⟨_, ((a2 == 0)), (by first | rfl | (simp; done) | (simp [*]; done)), H', ⟨by first | omega | exact Nat.le_refl _⟩, ⟨by (with_reducible repeat (first | apply Kd.V_alloc | apply Kd.V_drewN | apply Kd.V_drew)); exact HO0.out⟩, ⟨by (with_reducible repeat (first | refine blk_drewN ?_ _ | refine blk_drew ?_ | refine blk_alloc ?_ _)); exact BK250.out⟩, ⟨by repeat (first | (with_reducible first | exact HB.out | apply below_alloc | apply pw_below_drewN | apply below_drew1 | refine below_set ?_ GE250.out) | exact HB.out)⟩⟩
           case rest =>
            clear HC72
            try clear c1
            try clear c2
            try clear p2
            try clear q2
            try clear hx2
            try clear c3
            try clear q3
            try clear c4
            try clear c4b0
            try clear q4
            try clear c5
            try clear q5
            try clear c6
            try clear p6
            try clear q6
            try clear c7
            try clear c7b0
            try clear q7
            try clear c8
            try clear c8b0
            try clear c9
            try clear c9b0
            try clear c9b1
            try clear c10
            try clear c10b0
            try clear c14
            try clear c14b0
            try clear c15
            try clear c15b0
            try clear c16
            try clear c16b0
            try clear c19
            try clear c19b0
            try clear c22
            try clear c22b0
            try clear c22b1
            try clear p25
            try clear q25
            try clear hx25
            try clear c26
            try clear c26b0
            try clear c26b1
            try clear p26
            try clear q26
            try clear hx26
            try clear c27
            try clear c27b0
            try clear c27b1
            try clear c28
            try clear c28b0
            try clear c28b1
            try clear c30
            try clear c30b0
            try clear c30b1
            try clear c31
            try clear c31b0
            try clear c32
            try clear c32b0
            try clear c32b1
            try clear c34
            try clear q34
            try clear c37
            try clear q37
            try clear c40
            try clear q40
            try clear c42
            try clear c42b0
            try clear c42b1
            try clear c43
            try clear c43b0
            try clear c47
            try clear c47b0
            try clear c47b1
            try clear c48
            try clear c48b0
            try clear c48b1
            try clear c49
            try clear c49b0
            try clear c49b1
            try clear c51
            try clear c51b0
            try clear c53
            try clear q53
            try clear c56
            try clear c56b0
            try clear c56b1
            try clear c57
            try clear c57b0
            try clear c57b1
            try clear c58
            try clear c58b0
            try clear c58b1
            try clear c60
            try clear q60
            try clear c61
            try clear q61
            try clear c63
            try clear c63b0
            try clear c63b1
            try clear c64
            try clear c64b0
            try clear p64
            try clear c68
            try clear c68b0
            try clear c68b1
            try clear c69
            try clear c69b0
            try clear c69b1
            try clear c70
            try clear c70b0
            try clear c70b1
            try clear c74
            try clear q74
            try clear c75
            try clear c75b0
            try clear hcz12_0
            try clear hcz12_1
            try clear hcz12_2
            try clear hcz12_3
            try clear hcz18_0
            try clear hcz18_1
            try clear hcz18_2
            try clear hcz18_3
            try clear hcz21_0
            try clear hcz21_1
            try clear hcz21_2
            try clear hcz21_3
            try clear hcz24_0
            try clear hcz24_1
            try clear hcz24_2
            try clear hcz24_3
            try clear hcz35_0
            try clear hcz35_1
            try clear hcz35_2
            try clear hcz35_3
            try clear hcz38_0
            try clear hcz38_1
            try clear hcz38_2
            try clear hcz38_3
            try clear hcz41_0
            try clear hcz41_1
            try clear hcz41_2
            try clear hcz41_3
            try clear hcz45_0
            try clear hcz45_1
            try clear hcz45_2
            try clear hcz45_3
            try clear hcz54_0
            try clear hcz54_1
            try clear hcz54_2
            try clear hcz54_3
            try clear hcz62_0
            try clear hcz62_1
            try clear hcz62_2
            try clear hcz62_3
            try clear hcz66_0
            try clear hcz66_1
            try clear hcz66_2
            try clear hcz66_3
            try clear hcz6_0
            try clear hcz6_1
            try clear hcz6_2
            try clear hcz6_3
            try clear hfz12_0
            try clear hfz12_1
            try clear hfz12_2
            try clear hfz12_3
            try clear hfz18_0
            try clear hfz18_1
            try clear hfz18_2
            try clear hfz18_3
            try clear hfz21_0
            try clear hfz21_1
            try clear hfz21_2
            try clear hfz21_3
            try clear hfz24_0
            try clear hfz24_1
            try clear hfz24_2
            try clear hfz24_3
            try clear hfz35_0
            try clear hfz35_1
            try clear hfz35_2
            try clear hfz35_3
            try clear hfz38_0
            try clear hfz38_1
            try clear hfz38_2
            try clear hfz38_3
            try clear hfz41_0
            try clear hfz41_1
            try clear hfz41_2
            try clear hfz41_3
            try clear hfz45_0
            try clear hfz45_1
            try clear hfz45_2
            try clear hfz45_3
            try clear hfz54_0
            try clear hfz54_1
            try clear hfz54_2
            try clear hfz54_3
            try clear hfz62_0
            try clear hfz62_1
            try clear hfz62_2
            try clear hfz62_3
            try clear hfz66_0
            try clear hfz66_1
            try clear hfz66_2
            try clear hfz66_3
            try clear hfz6_0
            try clear hfz6_1
            try clear hfz6_2
            try clear hfz6_3
            try clear hx251_0
            try clear hx252_0
            try clear hx260_0
            try clear p251
            try clear p252
            try clear p260
            try clear q034
            try clear q037
            try clear q040
            try clear q053
            try clear q060
            try clear q061
            try clear q074
            try clear q251
            try clear q252
            try clear q260
            try clear q34
            try clear q37
            try clear q40
            try clear q53
            try clear q60
            try clear q61
            try clear q74
            obtain ⟨kq, x148_71, rfl, HA, HJ71, HO_0, BK250, HB⟩ := hcut
            cases kq with
            | zero => exact absurd HA.out (by simp [bastilleref02_Read.j0])
            | succ kj71 =>
             have H := HA.out
             clear HA
             simp only [bastilleref02_Read.j0] at H
             by_cases c76 : x148_71 = true
             ·subst c76
              have H1 : (some (0, 0, ([] : List Int), ([] : List (S43)), 0, 11)) = some (r1, r2, r3, r4, r5, r6) := by rw [if_pos rfl] at H; exact H
              clear H
              have H := H1
              clear H1
              simp only [Option.some.injEq, Prod.mk.injEq] at H
              obtain ⟨rfl, rfl, rfl, rfl, rfl, rfl⟩ := H
              have hcz77_0 : wc.cell? ⟨gb250, 0, none⟩ = some (.int .i64 0) := (blk_cell BK250.out 0).trans rfl
              have hcz77_1 : wc.cell? ⟨gb250, 1, none⟩ = some (.int .i64 0) := (blk_cell BK250.out 1).trans rfl
              have hcz77_2 : wc.cell? ⟨gb250, 2, none⟩ = some (.slice none 0 0) := (blk_cell BK250.out 2).trans rfl
              have hcz77_3 : wc.cell? ⟨gb250, 3, none⟩ = some (.slice none 0 0) := (blk_cell BK250.out 3).trans rfl
              have hfz77_0 := blk_frozen BK250.out 0
              have hfz77_1 := blk_frozen BK250.out 1
              have hfz77_2 := blk_frozen BK250.out 2
              have hfz77_3 := blk_frozen BK250.out 3
              go_wp2
              refine bodyPost_ret (results_ctt rfl _ _ gb250 43 #[.int .i64 0, .int .i64 0, .slice none 0 0, .slice none 0 0] (0, 0) _ rfl (by (with_reducible repeat (first | refine blk_drewN ?_ _ | refine blk_drew ?_ | refine blk_alloc ?_ _)); refine blk_put (cs := #[.int .i64 0, .int .i64 0, .slice none 0 0, .slice none 0 0]) ?_ 3 _ rfl; (with_reducible repeat (first | refine blk_drewN ?_ _ | refine blk_drew ?_ | refine blk_alloc ?_ _)); refine blk_put (cs := #[.int .i64 0, .int .i64 0, .slice none 0 0, .slice none 0 0]) ?_ 2 _ rfl; (with_reducible repeat (first | refine blk_drewN ?_ _ | refine blk_drew ?_ | refine blk_alloc ?_ _)); refine blk_put (cs := #[.int .i64 0, .int .i64 0, .slice none 0 0, .slice none 0 0]) ?_ 1 _ rfl; (with_reducible repeat (first | refine blk_drewN ?_ _ | refine blk_drew ?_ | refine blk_alloc ?_ _)); refine blk_put (cs := #[.int .i64 0, .int .i64 0, .slice none 0 0, .slice none 0 0]) ?_ 0 _ rfl; (with_reducible repeat (first | refine blk_drewN ?_ _ | refine blk_drew ?_ | refine blk_alloc ?_ _)); exact BK250.out) Tryd.underlying43 rfl (by kernel_rfl)) rfl ?_
              exact ⟨_, _, by first | rfl | (simp [errW_none, errW_some] <;> rfl) | (simp only [← hji67]; first | rfl | (simp [errW_none, errW_some] <;> rfl)) | (simp [*, errW_none, errW_some] <;> rfl), Kd.V_nil _ _ _ _ _, by first | exact Kd.N_nil _ _ _ _ _ | exact Kd.R_nil _ _ _ _ _, by repeat (first | (with_reducible first | exact HB.out | apply below_alloc | apply pw_below_drewN | apply below_drew1 | refine below_set ?_ GE250.out) | exact HB.out)⟩
             ·replace c76 := Bool.eq_false_iff.mpr c76
              subst c76
              have H1 : (bastilleref02_Read.l0 kj71 l0 (wrap64 ((ji67) + 2)) a2 t278 0 3 0 ([] : List (S43))) = some (r1, r2, r3, r4, r5, r6) := by rw [if_neg (show ¬ (false = true) by decide)] at H; exact H
              clear H
              have H := H1
              clear H1
              have H' := Aside0.mk H
              clear H
              go_wp2_with (first | ((with_reducible refine gate_dst (N := 17) rfl ?_); refine box_event ?hg (N := 17) ?hd (cs := #[.int .i64 0, .int .i64 0, .slice none 0 0, .slice none 0 0]) (t := 43) ?hr ?_; (case hd => rfl); (case hg => rfl); (case hr => first | (go_simp; done) | (go_simp; rfl)); intro gb280 hg w78 hbox hb; have n0_ := Aside0.mk (Kd.V_below (Kd.V_elderB (by (with_reducible repeat (first | apply Kd.V_alloc | apply Kd.V_drewN | apply Kd.V_drew)); exact HO_0.out) gb280 (Nat.le_of_eq hg.symm)) hb); have n1_ := Aside0.mk (blk_below (g := gb250) (o := .cells #[.int .i64 0, .int .i64 0, .slice none 0 0, .slice none 0 0] 43 (0, 0)) (by (with_reducible repeat (first | refine blk_drewN ?_ _ | refine blk_drew ?_ | refine blk_alloc ?_ _)); exact BK250.out) hb); have n2_ := Aside0.mk (below_step (by repeat (first | (with_reducible first | exact HB.out | apply below_alloc | apply pw_below_drewN | apply below_drew1 | refine below_set ?_ GE250.out) | exact HB.out)) hb); have n3_ := Aside0.mk (hbox); have n4_ := Aside0.mk ((by rw [hg]; exact (below_size (by repeat (first | (with_reducible first | exact HB.out | apply below_alloc | apply pw_below_drewN | apply below_drew1 | refine below_set ?_ GE250.out) | exact HB.out))) : w.heap.size ≤ gb280)); have n5_ := Aside0.mk ((by rw [hg]; exact (below_size (by repeat (first | (with_reducible first | exact HB.out | apply below_alloc | apply pw_below_drewN | apply below_drew1 | refine below_set ?_ GE250.out) | exact HB.out))) : w.heap.size ≤ gb280)); have n6_ := Aside0.mk ((by rw [hg]; exact Nat.ne_of_lt (blk_lt (g := gb250) (o := .cells #[.int .i64 0, .int .i64 0, .slice none 0 0, .slice none 0 0] 43 (0, 0)) (by (with_reducible repeat (first | refine blk_drewN ?_ _ | refine blk_drew ?_ | refine blk_alloc ?_ _)); exact BK250.out)) : gb250 ≠ gb280)); have n7_ := Aside0.mk ((by rw [hg]; exact Nat.ne_of_gt (blk_lt (g := gb250) (o := .cells #[.int .i64 0, .int .i64 0, .slice none 0 0, .slice none 0 0] 43 (0, 0)) (by (with_reducible repeat (first | refine blk_drewN ?_ _ | refine blk_drew ?_ | refine blk_alloc ?_ _)); exact BK250.out)) : gb280 ≠ gb250)); clear HO_0; clear BK250; clear HB; have HO_0 := n0_; have BK250 := n1_; have HB := n2_; have BK280 := n3_; have GW280 := n4_; have GE280 := n5_; have NB250_280 := n6_; have NB280_250 := n7_; clear n0_ n1_ n2_ n3_ n4_ n5_ n6_ n7_; clear hb hbox hg; have hnb79 := NB280_250.out; have hnc79 := NB250_280.out; have hcz80_0 : w78.cell? ⟨gb280, 0, none⟩ = some (.int .i64 0) := (blk_cell BK280.out 0).trans rfl; have hcz80_1 : w78.cell? ⟨gb280, 1, none⟩ = some (.int .i64 0) := (blk_cell BK280.out 1).trans rfl; have hcz80_2 : w78.cell? ⟨gb280, 2, none⟩ = some (.slice none 0 0) := (blk_cell BK280.out 2).trans rfl; have hcz80_3 : w78.cell? ⟨gb280, 3, none⟩ = some (.slice none 0 0) := (blk_cell BK280.out 3).trans rfl; have hfz80_0 := blk_frozen BK280.out 0; have hfz80_1 := blk_frozen BK280.out 1; have hfz80_2 := blk_frozen BK280.out 2; have hfz80_3 := blk_frozen BK280.out 3))
              go_loopg [1, 18] kj71 (fun kq v1 v18 w' => ∃ (x1_2 : Int) (x18_2 : Int) (x251000_2 : Int) (x251001_2 : Int) (x281003_2 : List (S43)) (u281003 : Value), v1 = .int .i64 x1_2 ∧ v18 = .int .i64 x18_2 ∧ Aside0 (bastilleref02_Read.l0 kq l0 x1_2 a2 t278 x18_2 3 0 x281003_2 = some (r1, r2, r3, r4, r5, r6)) ∧ Aside0 (kq ≤ kj71) ∧ Aside0 (Kd.V (Kd.int .u8) 5 w' w.heap.size (fun k_ => (P0_ k_ ∨ w.heap.size ≤ k_) ∧ some k_ ≠ (u281003 : Value).ownBlock ∧ k_ ≠ gb250 ∧ k_ ≠ gb280) (.slice (some ad251) l0.length c0) l0) ∧ Aside0 (Kd.N k43 43 w' w.heap.size (fun k_ => (P0_ k_ ∨ w.heap.size ≤ k_) ∧ k_ ≠ gb250 ∧ k_ ≠ gb280) u281003 x281003_2) ∧ Aside0 (w'.heap[gb250]? = some (.cells #[.int .i64 x251000_2, .int .i64 x251001_2, (.slice none 0 0), (.slice none 0 0)] 43 (0, 0))) ∧ Aside0 (w'.heap[gb280]? = some (.cells #[.int .i64 3, .int .i64 0, (.slice none 0 0), u281003] 43 (0, 0))) ∧ Aside0 (Below w.heap.size w w'))
              case atStart => exact ⟨((wrap64 ((ji67) + 2))), (0), (0), (0), (([] : List (S43))), (.slice none 0 0), (by first | rfl | (simp; done) | (simp only [← hji67] <;> (first | rfl | simp)) | (simp [*]; done)), (by first | rfl | (simp; done) | (simp [*]; done)), H', ⟨Nat.le_refl _⟩, ⟨by (with_reducible repeat (first | apply Kd.V_alloc | apply Kd.V_drewN | apply Kd.V_drew)); exact Kd.V_mono (Kd.V_far (p := ⟨gb280, 3, none⟩) (Kd.V_far (p := ⟨gb280, 2, none⟩) (Kd.V_far (p := ⟨gb280, 1, none⟩) (Kd.V_far (p := ⟨gb280, 0, none⟩) (Kd.V_mono HO_0.out (fun k_ hk => (⟨hk, hk.2⟩ : _ ∧ k_ ≠ gb280))) (fun _ hk => hk.2) (.int .i64 3)) (fun _ hk => hk.2) (.int .i64 0)) (fun _ hk => hk.2) (.slice none 0 0)) (fun _ hk => hk.2) (.slice none 0 0)) (fun _ hk => ⟨hk.1.1.1, ⟨(by simp [Value.ownBlock]), ⟨hk.1.1.2, hk.1.2⟩⟩⟩)⟩, ⟨by first | exact Kd.N_nil _ _ _ _ _ | exact Kd.R_nil _ _ _ _ _⟩, ⟨by (with_reducible repeat (first | refine blk_drewN ?_ _ | refine blk_drew ?_ | refine blk_alloc ?_ _)); refine blk_far ?_ NB250_280.out _; (with_reducible repeat (first | refine blk_drewN ?_ _ | refine blk_drew ?_ | refine blk_alloc ?_ _)); refine blk_far ?_ NB250_280.out _; (with_reducible repeat (first | refine blk_drewN ?_ _ | refine blk_drew ?_ | refine blk_alloc ?_ _)); refine blk_far ?_ NB250_280.out _; (with_reducible repeat (first | refine blk_drewN ?_ _ | refine blk_drew ?_ | refine blk_alloc ?_ _)); refine blk_far ?_ NB250_280.out _; (with_reducible repeat (first | refine blk_drewN ?_ _ | refine blk_drew ?_ | refine blk_alloc ?_ _)); exact BK250.out⟩, ⟨by (with_reducible repeat (first | refine blk_drewN ?_ _ | refine blk_drew ?_ | refine blk_alloc ?_ _)); refine blk_put (cs := #[.int .i64 3, .int .i64 0, .slice none 0 0, .slice none 0 0]) ?_ 3 _ rfl; (with_reducible repeat (first | refine blk_drewN ?_ _ | refine blk_drew ?_ | refine blk_alloc ?_ _)); refine blk_put (cs := #[.int .i64 3, .int .i64 0, .slice none 0 0, .slice none 0 0]) ?_ 2 _ rfl; (with_reducible repeat (first | refine blk_drewN ?_ _ | refine blk_drew ?_ | refine blk_alloc ?_ _)); refine blk_put (cs := #[.int .i64 3, .int .i64 0, .slice none 0 0, .slice none 0 0]) ?_ 1 _ rfl; (with_reducible repeat (first | refine blk_drewN ?_ _ | refine blk_drew ?_ | refine blk_alloc ?_ _)); refine blk_put (cs := #[.int .i64 0, .int .i64 0, .slice none 0 0, .slice none 0 0]) ?_ 0 _ rfl; (with_reducible repeat (first | refine blk_drewN ?_ _ | refine blk_drew ?_ | refine blk_alloc ?_ _)); exact BK280.out⟩, ⟨by repeat (first | (with_reducible first | exact HB.out | apply below_alloc | apply pw_below_drewN | apply below_drew1 | refine below_set ?_ GE250.out | refine below_set ?_ GE280.out) | exact HB.out)⟩⟩
              case round =>
               clear H'
               try clear c1
               try clear c2
               try clear p2
               try clear q2
               try clear hx2
               try clear c3
               try clear q3
               try clear c4
               try clear c4b0
               try clear q4
               try clear c5
               try clear q5
               try clear c6
               try clear p6
               try clear q6
               try clear c7
               try clear c7b0
               try clear q7
               try clear c8
               try clear c8b0
               try clear c9
               try clear c9b0
               try clear c9b1
               try clear c10
               try clear c10b0
               try clear c14
               try clear c14b0
               try clear c15
               try clear c15b0
               try clear c16
               try clear c16b0
               try clear c19
               try clear c19b0
               try clear c22
               try clear c22b0
               try clear c22b1
               try clear p25
               try clear q25
               try clear hx25
               try clear c26
               try clear c26b0
               try clear c26b1
               try clear p26
               try clear q26
               try clear hx26
               try clear c27
               try clear c27b0
               try clear c27b1
               try clear c28
               try clear c28b0
               try clear c28b1
               try clear c30
               try clear c30b0
               try clear c30b1
               try clear c31
               try clear c31b0
               try clear c32
               try clear c32b0
               try clear c32b1
               try clear c34
               try clear q34
               try clear c37
               try clear q37
               try clear c40
               try clear q40
               try clear c42
               try clear c42b0
               try clear c42b1
               try clear c43
               try clear c43b0
               try clear c47
               try clear c47b0
               try clear c47b1
               try clear c48
               try clear c48b0
               try clear c48b1
               try clear c49
               try clear c49b0
               try clear c49b1
               try clear c51
               try clear c51b0
               try clear c53
               try clear q53
               try clear c56
               try clear c56b0
               try clear c56b1
               try clear c57
               try clear c57b0
               try clear c57b1
               try clear c58
               try clear c58b0
               try clear c58b1
               try clear c60
               try clear q60
               try clear c61
               try clear q61
               try clear c63
               try clear c63b0
               try clear c63b1
               try clear c64
               try clear c64b0
               try clear p64
               try clear c68
               try clear c68b0
               try clear c68b1
               try clear c69
               try clear c69b0
               try clear c69b1
               try clear c70
               try clear c70b0
               try clear c70b1
               try clear c74
               try clear q74
               try clear c75
               try clear c75b0
               try clear c76
               try clear c79
               try clear hcz12_0
               try clear hcz12_1
               try clear hcz12_2
               try clear hcz12_3
               try clear hcz18_0
               try clear hcz18_1
               try clear hcz18_2
               try clear hcz18_3
               try clear hcz21_0
               try clear hcz21_1
               try clear hcz21_2
               try clear hcz21_3
               try clear hcz24_0
               try clear hcz24_1
               try clear hcz24_2
               try clear hcz24_3
               try clear hcz35_0
               try clear hcz35_1
               try clear hcz35_2
               try clear hcz35_3
               try clear hcz38_0
               try clear hcz38_1
               try clear hcz38_2
               try clear hcz38_3
               try clear hcz41_0
               try clear hcz41_1
               try clear hcz41_2
               try clear hcz41_3
               try clear hcz45_0
               try clear hcz45_1
               try clear hcz45_2
               try clear hcz45_3
               try clear hcz54_0
               try clear hcz54_1
               try clear hcz54_2
               try clear hcz54_3
               try clear hcz62_0
               try clear hcz62_1
               try clear hcz62_2
               try clear hcz62_3
               try clear hcz66_0
               try clear hcz66_1
               try clear hcz66_2
               try clear hcz66_3
               try clear hcz6_0
               try clear hcz6_1
               try clear hcz6_2
               try clear hcz6_3
               try clear hcz77_0
               try clear hcz77_1
               try clear hcz77_2
               try clear hcz77_3
               try clear hcz80_0
               try clear hcz80_1
               try clear hcz80_2
               try clear hcz80_3
               try clear hfz12_0
               try clear hfz12_1
               try clear hfz12_2
               try clear hfz12_3
               try clear hfz18_0
               try clear hfz18_1
               try clear hfz18_2
               try clear hfz18_3
               try clear hfz21_0
               try clear hfz21_1
               try clear hfz21_2
               try clear hfz21_3
               try clear hfz24_0
               try clear hfz24_1
               try clear hfz24_2
               try clear hfz24_3
               try clear hfz35_0
               try clear hfz35_1
               try clear hfz35_2
               try clear hfz35_3
               try clear hfz38_0
               try clear hfz38_1
               try clear hfz38_2
               try clear hfz38_3
               try clear hfz41_0
               try clear hfz41_1
               try clear hfz41_2
               try clear hfz41_3
               try clear hfz45_0
               try clear hfz45_1
               try clear hfz45_2
               try clear hfz45_3
               try clear hfz54_0
               try clear hfz54_1
               try clear hfz54_2
               try clear hfz54_3
               try clear hfz62_0
               try clear hfz62_1
               try clear hfz62_2
               try clear hfz62_3
               try clear hfz66_0
               try clear hfz66_1
               try clear hfz66_2
               try clear hfz66_3
               try clear hfz6_0
               try clear hfz6_1
               try clear hfz6_2
               try clear hfz6_3
               try clear hfz77_0
               try clear hfz77_1
               try clear hfz77_2
               try clear hfz77_3
               try clear hfz80_0
               try clear hfz80_1
               try clear hfz80_2
               try clear hfz80_3
               try clear hx251_0
               try clear hx252_0
               try clear hx260_0
               try clear p2
               try clear p25
               try clear p251
               try clear p252
               try clear p26
               try clear p260
               try clear p6
               try clear p64
               try clear q034
               try clear q037
               try clear q040
               try clear q053
               try clear q060
               try clear q061
               try clear q074
               try clear q2
               try clear q25
               try clear q251
               try clear q252
               try clear q26
               try clear q260
               try clear q3
               try clear q34
               try clear q37
               try clear q4
               try clear q40
               try clear q5
               try clear q53
               try clear q6
               try clear q60
               try clear q61
               try clear q7
               try clear q74
               obtain ⟨x1_2, x18_2, x251000_2, x251001_2, x281003_2, u281003, rfl, rfl, HA, HK2, HO_0, HO_281003, BK250, BK280, HB⟩ := hrel
               cases gk with
               | zero => exact absurd HA.out (by simp [bastilleref02_Read.l0])
               | succ k2 =>
                have H := HA.out
                clear HA
                simp only [bastilleref02_Read.l0] at H
                by_cases c81 : x18_2 < t278
                ·rw [if_pos c81] at H
                 have c81b0 : decide (x18_2 < t278) = true := decide_eq_true c81
                 clear c81
                 replace H := Option.bind_eq_some_iff.mp H
                 obtain ⟨⟨t281, t282, t283, t286, t289, t290⟩, A820, H⟩ := H
                 replace H : (if t290 = 0 then (if x281003_2.length < 2199023255552 then (bastilleref02_Read.l0 k2 l0 t289 a2 t278 (wrap64 (x18_2 + 1)) 3 0 (x281003_2 ++ [(⟨t281, t282, t283, t286⟩ : S43)])) else (none)) else (some (0, 0, ([] : List Int), ([] : List (S43)), 0, t290))) = some (r1, r2, r3, r4, r5, r6) := H
                 have A82 := Aside0.mk A820
                 clear A820
                 by_cases c83 : t290 = 0
                 ·rw [if_pos c83] at H
                  have c83b0 : (t290 == 0) = true := beq_iff_eq.mpr c83
                  have c83b1 : (t290 != 0) = false := bne_eq_false_iff_eq.mpr c83
                  clear c83
                  by_cases c84 : x281003_2.length < 2199023255552
                  ·rw [if_pos c84] at H
                   have LMc84 := Aside0.mk c84
                   clear c84
                   obtain ⟨y292, hy292⟩ : ∃ y_ : List (S43), y_ = (x281003_2 ++ [(⟨t281, t282, t283, t286⟩ : S43)]) := ⟨_, rfl⟩
                   replace H : (bastilleref02_Read.l0 k2 l0 t289 a2 t278 (wrap64 (x18_2 + 1)) 3 0 y292) = some (r1, r2, r3, r4, r5, r6) := by first | (rw [hy292]; with_reducible exact H) | (have H2_ := (Option.bind_some _ _).symm.trans H; rw [hy292]; with_reducible exact H2_) | (have H2_ := (Option.bind_some _ _).symm.trans H; with_reducible exact H2_) | with_reducible exact H | (rw [hy292]; exact H) | exact H
                   have Ny292 := Aside0.mk hy292
                   clear hy292
                   have H' := Aside0.mk H
                   clear H
                   go_wp2_with (first | ((with_reducible refine gate_callee (f := 40) rfl ?_); refine goesL_ (some 161) rfl rfl Tryd.func40 (by kernel_rfl) rfl #[.slice (some ad251) l0.length c0, .int .i64 x1_2, .int .i64 (wrap64 (a2 - 1))] rfl (by (try simp only [List.map_toArray, List.map_cons, List.map_nil]); first | done | rfl | (simp only [List.length_drop, List.length_take]; rfl)) ?_; (with_reducible refine (ih k2 (by have := HJ71.out; have := HK2.out; omega) (fun k_ => ((P0_ k_ ∨ w.heap.size ≤ k_) ∧ (some k_ ≠ (u281003 : Value).ownBlock ∧ (k_ ≠ gb250 ∧ k_ ≠ gb280)))) _ _ l0 x1_2 (wrap64 (a2 - 1)) t281 t282 t283 t286 t289 t290 _ ?side1 A82.out).mono ?_); (case side1 => exact HO_0.out); rintro e w85 ⟨v284, v287, rfl, ho0, ho1, hb⟩; refine ⟨_, rfl, ?_⟩; have n0_ := Aside0.mk (Kd.V_elder' (by (with_reducible repeat (first | apply Kd.V_alloc | apply Kd.V_drewN | apply Kd.V_drew)); exact HO_0.out) (Kd.N_base ho1) hb); have n1_ := Aside0.mk (Kd.N_elder' (by (with_reducible repeat (first | apply Kd.N_alloc | apply Kd.N_drewN | apply Kd.N_drew)); exact HO_281003.out) (Kd.N_base ho1) hb); have n2_ := Aside0.mk (Kd.V_lower (Kd.V_mono (ok' := fun k_ => (P0_ k_ ∨ w.heap.size ≤ k_) ∧ some k_ ≠ (v287 : Value).ownBlock ∧ some k_ ≠ (u281003 : Value).ownBlock ∧ k_ ≠ gb250 ∧ k_ ≠ gb280) ho0 (fun k_ hk_ => ⟨Or.elim hk_.1 (fun hs_ => hs_.1) (fun hn_ => (.inr (Nat.le_trans (below_size (by repeat (first | (with_reducible first | exact HB.out | apply below_alloc | apply pw_below_drewN | apply below_drew1 | refine below_set ?_ GE250.out | refine below_set ?_ GE280.out) | exact HB.out))) hn_))), hk_.2, Or.elim hk_.1 (fun hs_ => hs_.2.1) (fun hn_ => (Kd.fresh' (Kd.N_lt (by (with_reducible repeat (first | apply Kd.N_alloc | apply Kd.N_drewN | apply Kd.N_drew)); exact HO_281003.out)) k_ hn_)), Or.elim hk_.1 (fun hs_ => hs_.2.2.1) (fun hn_ => (Kd.freshB (g := gb250) (o := .cells #[.int .i64 x251000_2, .int .i64 x251001_2, .slice none 0 0, .slice none 0 0] 43 (0, 0)) (by (with_reducible repeat (first | refine blk_drewN ?_ _ | refine blk_drew ?_ | refine blk_alloc ?_ _)); exact BK250.out) k_ hn_)), Or.elim hk_.1 (fun hs_ => hs_.2.2.2) (fun hn_ => (Kd.freshB (g := gb280) (o := .cells #[.int .i64 3, .int .i64 0, .slice none 0 0, u281003] 43 (0, 0)) (by (with_reducible repeat (first | refine blk_drewN ?_ _ | refine blk_drew ?_ | refine blk_alloc ?_ _)); exact BK280.out) k_ hn_))⟩)) (below_size (by repeat (first | (with_reducible first | exact HB.out | apply below_alloc | apply pw_below_drewN | apply below_drew1 | refine below_set ?_ GE250.out | refine below_set ?_ GE280.out) | exact HB.out)))); have n3_ := Aside0.mk (Kd.N_lower (Kd.N_mono (ok' := fun k_ => (P0_ k_ ∨ w.heap.size ≤ k_) ∧ some k_ ≠ (u281003 : Value).ownBlock ∧ k_ ≠ gb250 ∧ k_ ≠ gb280) ho1 (fun k_ hk_ => ⟨Or.elim hk_ (fun hs_ => hs_.1) (fun hn_ => (.inr (Nat.le_trans (below_size (by repeat (first | (with_reducible first | exact HB.out | apply below_alloc | apply pw_below_drewN | apply below_drew1 | refine below_set ?_ GE250.out | refine below_set ?_ GE280.out) | exact HB.out))) hn_))), Or.elim hk_ (fun hs_ => hs_.2.1) (fun hn_ => (Kd.fresh' (Kd.N_lt (by (with_reducible repeat (first | apply Kd.N_alloc | apply Kd.N_drewN | apply Kd.N_drew)); exact HO_281003.out)) k_ hn_)), Or.elim hk_ (fun hs_ => hs_.2.2.1) (fun hn_ => (Kd.freshB (g := gb250) (o := .cells #[.int .i64 x251000_2, .int .i64 x251001_2, .slice none 0 0, .slice none 0 0] 43 (0, 0)) (by (with_reducible repeat (first | refine blk_drewN ?_ _ | refine blk_drew ?_ | refine blk_alloc ?_ _)); exact BK250.out) k_ hn_)), Or.elim hk_ (fun hs_ => hs_.2.2.2) (fun hn_ => (Kd.freshB (g := gb280) (o := .cells #[.int .i64 3, .int .i64 0, .slice none 0 0, u281003] 43 (0, 0)) (by (with_reducible repeat (first | refine blk_drewN ?_ _ | refine blk_drew ?_ | refine blk_alloc ?_ _)); exact BK280.out) k_ hn_))⟩)) (below_size (by repeat (first | (with_reducible first | exact HB.out | apply below_alloc | apply pw_below_drewN | apply below_drew1 | refine below_set ?_ GE250.out | refine below_set ?_ GE280.out) | exact HB.out)))); have n4_ := Aside0.mk (blk_below (g := gb250) (o := .cells #[.int .i64 x251000_2, .int .i64 x251001_2, .slice none 0 0, .slice none 0 0] 43 (0, 0)) (by (with_reducible repeat (first | refine blk_drewN ?_ _ | refine blk_drew ?_ | refine blk_alloc ?_ _)); exact BK250.out) hb); have n5_ := Aside0.mk (blk_below (g := gb280) (o := .cells #[.int .i64 3, .int .i64 0, .slice none 0 0, u281003] 43 (0, 0)) (by (with_reducible repeat (first | refine blk_drewN ?_ _ | refine blk_drew ?_ | refine blk_alloc ?_ _)); exact BK280.out) hb); have n6_ := Aside0.mk (below_step (by repeat (first | (with_reducible first | exact HB.out | apply below_alloc | apply pw_below_drewN | apply below_drew1 | refine below_set ?_ GE250.out | refine below_set ?_ GE280.out) | exact HB.out)) hb); clear HO_0; clear HO_281003; clear BK250; clear BK280; clear HB; have HO_0 := n0_; have HO_281003 := n1_; have HO285 := n2_; have HO288 := n3_; have BK250 := n4_; have BK280 := n5_; have HB := n6_; clear n0_ n1_ n2_ n3_ n4_ n5_ n6_; (try clear hb); (try clear hb2); (try clear hk); (try clear hi); (try clear ho0); (try clear ho1)) | ((with_reducible refine gate_dst (N := 19) rfl ?_); refine box_event ?hg (N := 19) ?hd (cs := #[.int .i64 0, .int .i64 0, .slice none 0 0, .slice none 0 0]) (t := 43) ?hr ?_; (case hd => rfl); (case hg => rfl); (case hr => first | (go_simp; done) | (go_simp; rfl)); intro gb291 hg w86 hbox hb; have n0_ := Aside0.mk (Kd.V_below (Kd.V_elderB (by (with_reducible repeat (first | apply Kd.V_alloc | apply Kd.V_drewN | apply Kd.V_drew)); exact HO_0.out) gb291 (Nat.le_of_eq hg.symm)) hb); have n1_ := Aside0.mk (Kd.N_below (Kd.N_elderB (by (with_reducible repeat (first | apply Kd.N_alloc | apply Kd.N_drewN | apply Kd.N_drew)); exact HO_281003.out) gb291 (Nat.le_of_eq hg.symm)) hb); have n2_ := Aside0.mk (Kd.V_below (Kd.V_elderB (by (with_reducible repeat (first | apply Kd.V_alloc | apply Kd.V_drewN | apply Kd.V_drew)); exact HO285.out) gb291 (Nat.le_of_eq hg.symm)) hb); have n3_ := Aside0.mk (Kd.N_below (Kd.N_elderB (by (with_reducible repeat (first | apply Kd.N_alloc | apply Kd.N_drewN | apply Kd.N_drew)); exact HO288.out) gb291 (Nat.le_of_eq hg.symm)) hb); have n4_ := Aside0.mk (blk_below (g := gb250) (o := .cells #[.int .i64 x251000_2, .int .i64 x251001_2, .slice none 0 0, .slice none 0 0] 43 (0, 0)) (by (with_reducible repeat (first | refine blk_drewN ?_ _ | refine blk_drew ?_ | refine blk_alloc ?_ _)); exact BK250.out) hb); have n5_ := Aside0.mk (blk_below (g := gb280) (o := .cells #[.int .i64 3, .int .i64 0, .slice none 0 0, u281003] 43 (0, 0)) (by (with_reducible repeat (first | refine blk_drewN ?_ _ | refine blk_drew ?_ | refine blk_alloc ?_ _)); exact BK280.out) hb); have n6_ := Aside0.mk (below_step (by repeat (first | (with_reducible first | exact HB.out | apply below_alloc | apply pw_below_drewN | apply below_drew1 | refine below_set ?_ GE250.out | refine below_set ?_ GE280.out) | exact HB.out)) hb); have n7_ := Aside0.mk (hbox); have n8_ := Aside0.mk ((by rw [hg]; exact (below_size (by repeat (first | (with_reducible first | exact HB.out | apply below_alloc | apply pw_below_drewN | apply below_drew1 | refine below_set ?_ GE250.out | refine below_set ?_ GE280.out) | exact HB.out))) : w.heap.size ≤ gb291)); have n9_ := Aside0.mk ((by rw [hg]; exact (below_size (by repeat (first | (with_reducible first | exact HB.out | apply below_alloc | apply pw_below_drewN | apply below_drew1 | refine below_set ?_ GE250.out | refine below_set ?_ GE280.out) | exact HB.out))) : w.heap.size ≤ gb291)); have n10_ := Aside0.mk ((by rw [hg]; exact Nat.ne_of_lt (blk_lt (g := gb250) (o := .cells #[.int .i64 x251000_2, .int .i64 x251001_2, .slice none 0 0, .slice none 0 0] 43 (0, 0)) (by (with_reducible repeat (first | refine blk_drewN ?_ _ | refine blk_drew ?_ | refine blk_alloc ?_ _)); exact BK250.out)) : gb250 ≠ gb291)); have n11_ := Aside0.mk ((by rw [hg]; exact Nat.ne_of_gt (blk_lt (g := gb250) (o := .cells #[.int .i64 x251000_2, .int .i64 x251001_2, .slice none 0 0, .slice none 0 0] 43 (0, 0)) (by (with_reducible repeat (first | refine blk_drewN ?_ _ | refine blk_drew ?_ | refine blk_alloc ?_ _)); exact BK250.out)) : gb291 ≠ gb250)); have n12_ := Aside0.mk ((by rw [hg]; exact Nat.ne_of_lt (blk_lt (g := gb280) (o := .cells #[.int .i64 3, .int .i64 0, .slice none 0 0, u281003] 43 (0, 0)) (by (with_reducible repeat (first | refine blk_drewN ?_ _ | refine blk_drew ?_ | refine blk_alloc ?_ _)); exact BK280.out)) : gb280 ≠ gb291)); have n13_ := Aside0.mk ((by rw [hg]; exact Nat.ne_of_gt (blk_lt (g := gb280) (o := .cells #[.int .i64 3, .int .i64 0, .slice none 0 0, u281003] 43 (0, 0)) (by (with_reducible repeat (first | refine blk_drewN ?_ _ | refine blk_drew ?_ | refine blk_alloc ?_ _)); exact BK280.out)) : gb291 ≠ gb280)); clear HO_0; clear HO_281003; clear HO285; clear HO288; clear BK250; clear BK280; clear HB; have HO_0 := n0_; have HO_281003 := n1_; have HO285 := n2_; have HO288 := n3_; have BK250 := n4_; have BK280 := n5_; have HB := n6_; have BK291 := n7_; have GW291 := n8_; have GE291 := n9_; have NB250_291 := n10_; have NB291_250 := n11_; have NB280_291 := n12_; have NB291_280 := n13_; clear n0_ n1_ n2_ n3_ n4_ n5_ n6_ n7_ n8_ n9_ n10_ n11_ n12_ n13_; clear hb hbox hg; have hnb87 := NB291_250.out; have hnc87 := NB250_291.out; have hnb88 := NB291_280.out; have hnc88 := NB280_291.out; have hcz89_0 : w86.cell? ⟨gb291, 0, none⟩ = some (.int .i64 0) := (blk_cell BK291.out 0).trans rfl; have hcz89_1 : w86.cell? ⟨gb291, 1, none⟩ = some (.int .i64 0) := (blk_cell BK291.out 1).trans rfl; have hcz89_2 : w86.cell? ⟨gb291, 2, none⟩ = some (.slice none 0 0) := (blk_cell BK291.out 2).trans rfl; have hcz89_3 : w86.cell? ⟨gb291, 3, none⟩ = some (.slice none 0 0) := (blk_cell BK291.out 3).trans rfl; have hfz89_0 := blk_frozen BK291.out 0; have hfz89_1 := blk_frozen BK291.out 1; have hfz89_2 := blk_frozen BK291.out 2; have hfz89_3 := blk_frozen BK291.out 3; obtain ⟨Ao90, co90, eo90⟩ := Kd.V_slice HO285.out; subst eo90; obtain ⟨Ao91, co91, eo91⟩ := Kd.N_slice HO288.out; subst eo91) | ((with_reducible refine gate_store (t := 43) (p := 19) rfl ?_); refine store_event (t := 43) (p := 19) (v := ?vo_w92) (w1 := ((((w86.setCell ⟨gb291, 0, none⟩ (.int .i64 t281)).setCell ⟨gb291, 1, none⟩ (.int .i64 t282)).setCell ⟨gb291, 2, none⟩ (.slice Ao90 t283.length co90)).setCell ⟨gb291, 3, none⟩ (.slice Ao91 t286.length co91))) ?hg ?ho ?hn ?hr ?_; (case ho => rfl); (case hg => rfl); (case hn => rfl); (case hr => first | (go_simp; done) | (go_simp; rfl)); intro w92 hw; have n0_ : Aside0 (Kd.V (Kd.int .u8) 5 w92 w.heap.size (fun k_ => (P0_ k_ ∨ w.heap.size ≤ k_) ∧ some k_ ≠ (u281003 : Value).ownBlock ∧ some k_ ≠ (.slice Ao91 t286.length co91 : Value).ownBlock ∧ k_ ≠ gb250 ∧ k_ ≠ gb280 ∧ k_ ≠ gb291) (.slice (some ad251) l0.length c0) l0) := ⟨(by rw [hw]; exact (by (with_reducible repeat (first | apply Kd.V_alloc | apply Kd.V_drewN | apply Kd.V_drew)); exact Kd.V_mono (Kd.V_far (p := ⟨gb291, 3, none⟩) (Kd.V_far (p := ⟨gb291, 2, none⟩) (Kd.V_far (p := ⟨gb291, 1, none⟩) (Kd.V_far (p := ⟨gb291, 0, none⟩) (Kd.V_mono HO_0.out (fun k_ hk => (⟨hk, hk.2⟩ : _ ∧ k_ ≠ gb291))) (fun _ hk => hk.2) (.int .i64 t281)) (fun _ hk => hk.2) (.int .i64 t282)) (fun _ hk => hk.2) (.slice Ao90 t283.length co90)) (fun _ hk => hk.2) (.slice Ao91 t286.length co91)) (fun _ hk => ⟨hk.1.1.1.1, ⟨hk.1.1.1.2.1, ⟨hk.1.1.2, ⟨hk.1.1.1.2.2.1, ⟨hk.1.1.1.2.2.2, hk.1.2⟩⟩⟩⟩⟩)))⟩; have n1_ : Aside0 (Kd.N k43 43 w92 w.heap.size (fun k_ => (P0_ k_ ∨ w.heap.size ≤ k_) ∧ some k_ ≠ (.slice Ao91 t286.length co91 : Value).ownBlock ∧ k_ ≠ gb250 ∧ k_ ≠ gb280 ∧ k_ ≠ gb291) u281003 x281003_2) := ⟨(by rw [hw]; exact (by (with_reducible repeat (first | apply Kd.N_alloc | apply Kd.N_drewN | apply Kd.N_drew)); exact Kd.N_mono (Kd.N_far (p := ⟨gb291, 3, none⟩) (Kd.N_far (p := ⟨gb291, 2, none⟩) (Kd.N_far (p := ⟨gb291, 1, none⟩) (Kd.N_far (p := ⟨gb291, 0, none⟩) (Kd.N_mono HO_281003.out (fun k_ hk => (⟨hk, hk.2⟩ : _ ∧ k_ ≠ gb291))) (fun _ hk => hk.2) (.int .i64 t281)) (fun _ hk => hk.2) (.int .i64 t282)) (fun _ hk => hk.2) (.slice Ao90 t283.length co90)) (fun _ hk => hk.2) (.slice Ao91 t286.length co91)) (fun _ hk => ⟨hk.1.1.1.1, ⟨hk.1.1.2, ⟨hk.1.1.1.2.1, ⟨hk.1.1.1.2.2, hk.1.2⟩⟩⟩⟩)))⟩; have n2_ : Aside0 (Kd.V (Kd.int .u8) 5 w92 w.heap.size (fun k_ => (P0_ k_ ∨ w.heap.size ≤ k_) ∧ some k_ ≠ (u281003 : Value).ownBlock ∧ some k_ ≠ (.slice Ao91 t286.length co91 : Value).ownBlock ∧ k_ ≠ gb250 ∧ k_ ≠ gb280 ∧ k_ ≠ gb291) (.slice Ao90 t283.length co90) t283) := ⟨(by rw [hw]; exact (by (with_reducible repeat (first | apply Kd.V_alloc | apply Kd.V_drewN | apply Kd.V_drew)); exact Kd.V_mono (Kd.V_far (p := ⟨gb291, 3, none⟩) (Kd.V_far (p := ⟨gb291, 2, none⟩) (Kd.V_far (p := ⟨gb291, 1, none⟩) (Kd.V_far (p := ⟨gb291, 0, none⟩) (Kd.V_mono HO285.out (fun k_ hk => (⟨hk, hk.2⟩ : _ ∧ k_ ≠ gb291))) (fun _ hk => hk.2) (.int .i64 t281)) (fun _ hk => hk.2) (.int .i64 t282)) (fun _ hk => hk.2) (.slice Ao90 t283.length co90)) (fun _ hk => hk.2) (.slice Ao91 t286.length co91)) (fun _ hk => ⟨hk.1.1.1, ⟨hk.1.1.2.2.1, ⟨hk.1.1.2.1, ⟨hk.1.1.2.2.2.1, ⟨hk.1.1.2.2.2.2, hk.1.2⟩⟩⟩⟩⟩)))⟩; have n3_ : Aside0 (Kd.N k43 43 w92 w.heap.size (fun k_ => (P0_ k_ ∨ w.heap.size ≤ k_) ∧ some k_ ≠ (u281003 : Value).ownBlock ∧ k_ ≠ gb250 ∧ k_ ≠ gb280 ∧ k_ ≠ gb291) (.slice Ao91 t286.length co91) t286) := ⟨(by rw [hw]; exact (by (with_reducible repeat (first | apply Kd.N_alloc | apply Kd.N_drewN | apply Kd.N_drew)); exact Kd.N_mono (Kd.N_far (p := ⟨gb291, 3, none⟩) (Kd.N_far (p := ⟨gb291, 2, none⟩) (Kd.N_far (p := ⟨gb291, 1, none⟩) (Kd.N_far (p := ⟨gb291, 0, none⟩) (Kd.N_mono HO288.out (fun k_ hk => (⟨hk, hk.2⟩ : _ ∧ k_ ≠ gb291))) (fun _ hk => hk.2) (.int .i64 t281)) (fun _ hk => hk.2) (.int .i64 t282)) (fun _ hk => hk.2) (.slice Ao90 t283.length co90)) (fun _ hk => hk.2) (.slice Ao91 t286.length co91)) (fun _ hk => ⟨hk.1.1.1, ⟨hk.1.1.2.1, ⟨hk.1.1.2.2.1, ⟨hk.1.1.2.2.2, hk.1.2⟩⟩⟩⟩)))⟩; have n4_ : Aside0 (w92.heap[gb250]? = some (.cells #[.int .i64 x251000_2, .int .i64 x251001_2, .slice none 0 0, .slice none 0 0] 43 (0, 0))) := ⟨(by rw [hw]; exact (by (with_reducible repeat (first | refine blk_drewN ?_ _ | refine blk_drew ?_ | refine blk_alloc ?_ _)); refine blk_far ?_ NB250_291.out _; (with_reducible repeat (first | refine blk_drewN ?_ _ | refine blk_drew ?_ | refine blk_alloc ?_ _)); refine blk_far ?_ NB250_291.out _; (with_reducible repeat (first | refine blk_drewN ?_ _ | refine blk_drew ?_ | refine blk_alloc ?_ _)); refine blk_far ?_ NB250_291.out _; (with_reducible repeat (first | refine blk_drewN ?_ _ | refine blk_drew ?_ | refine blk_alloc ?_ _)); refine blk_far ?_ NB250_291.out _; (with_reducible repeat (first | refine blk_drewN ?_ _ | refine blk_drew ?_ | refine blk_alloc ?_ _)); exact BK250.out))⟩; have n5_ : Aside0 (w92.heap[gb280]? = some (.cells #[.int .i64 3, .int .i64 0, .slice none 0 0, u281003] 43 (0, 0))) := ⟨(by rw [hw]; exact (by (with_reducible repeat (first | refine blk_drewN ?_ _ | refine blk_drew ?_ | refine blk_alloc ?_ _)); refine blk_far ?_ NB280_291.out _; (with_reducible repeat (first | refine blk_drewN ?_ _ | refine blk_drew ?_ | refine blk_alloc ?_ _)); refine blk_far ?_ NB280_291.out _; (with_reducible repeat (first | refine blk_drewN ?_ _ | refine blk_drew ?_ | refine blk_alloc ?_ _)); refine blk_far ?_ NB280_291.out _; (with_reducible repeat (first | refine blk_drewN ?_ _ | refine blk_drew ?_ | refine blk_alloc ?_ _)); refine blk_far ?_ NB280_291.out _; (with_reducible repeat (first | refine blk_drewN ?_ _ | refine blk_drew ?_ | refine blk_alloc ?_ _)); exact BK280.out))⟩; have n6_ : Aside0 (w92.heap[gb291]? = some (.cells #[.int .i64 t281, .int .i64 t282, .slice Ao90 t283.length co90, .slice Ao91 t286.length co91] 43 (0, 0))) := ⟨(by rw [hw]; exact (by (with_reducible repeat (first | refine blk_drewN ?_ _ | refine blk_drew ?_ | refine blk_alloc ?_ _)); refine blk_put (cs := #[.int .i64 t281, .int .i64 t282, .slice Ao90 t283.length co90, .slice none 0 0]) ?_ 3 _ rfl; (with_reducible repeat (first | refine blk_drewN ?_ _ | refine blk_drew ?_ | refine blk_alloc ?_ _)); refine blk_put (cs := #[.int .i64 t281, .int .i64 t282, .slice none 0 0, .slice none 0 0]) ?_ 2 _ rfl; (with_reducible repeat (first | refine blk_drewN ?_ _ | refine blk_drew ?_ | refine blk_alloc ?_ _)); refine blk_put (cs := #[.int .i64 t281, .int .i64 0, .slice none 0 0, .slice none 0 0]) ?_ 1 _ rfl; (with_reducible repeat (first | refine blk_drewN ?_ _ | refine blk_drew ?_ | refine blk_alloc ?_ _)); refine blk_put (cs := #[.int .i64 0, .int .i64 0, .slice none 0 0, .slice none 0 0]) ?_ 0 _ rfl; (with_reducible repeat (first | refine blk_drewN ?_ _ | refine blk_drew ?_ | refine blk_alloc ?_ _)); exact BK291.out))⟩; have n7_ : Aside0 (Below w.heap.size w w92) := ⟨(by rw [hw]; exact (by repeat (first | (with_reducible first | exact HB.out | apply below_alloc | apply pw_below_drewN | apply below_drew1 | refine below_set ?_ GE250.out | refine below_set ?_ GE280.out | refine below_set ?_ GE291.out) | exact HB.out)))⟩; clear hw; clear HO_0; clear HO_281003; clear HO285; clear HO288; clear BK250; clear BK280; clear BK291; clear HB; have HO_0 := n0_; have HO_281003 := n1_; have HO285 := n2_; have HO288 := n3_; have BK250 := n4_; have BK280 := n5_; have BK291 := n6_; have HB := n7_; clear n0_ n1_ n2_ n3_ n4_ n5_ n6_ n7_; have hnb93 := NB280_250.out; have hnc93 := NB250_280.out; have hcz94_0 : w92.cell? ⟨gb280, 0, none⟩ = some (.int .i64 3) := (blk_cell BK280.out 0).trans rfl; have hcz94_1 : w92.cell? ⟨gb280, 1, none⟩ = some (.int .i64 0) := (blk_cell BK280.out 1).trans rfl; have hcz94_2 : w92.cell? ⟨gb280, 2, none⟩ = some (.slice none 0 0) := (blk_cell BK280.out 2).trans rfl; have hcz94_3 : w92.cell? ⟨gb280, 3, none⟩ = some (u281003) := (blk_cell BK280.out 3).trans rfl; have hfz94_0 := blk_frozen BK280.out 0; have hfz94_1 := blk_frozen BK280.out 1; have hfz94_2 := blk_frozen BK280.out 2; have hfz94_3 := blk_frozen BK280.out 3; have hcz95_0 : w92.cell? ⟨gb291, 0, none⟩ = some (.int .i64 t281) := (blk_cell BK291.out 0).trans rfl; have hcz95_1 : w92.cell? ⟨gb291, 1, none⟩ = some (.int .i64 t282) := (blk_cell BK291.out 1).trans rfl; have hcz95_2 : w92.cell? ⟨gb291, 2, none⟩ = some (.slice Ao90 t283.length co90) := (blk_cell BK291.out 2).trans rfl; have hcz95_3 : w92.cell? ⟨gb291, 3, none⟩ = some (.slice Ao91 t286.length co91) := (blk_cell BK291.out 3).trans rfl; have hfz95_0 := blk_frozen BK291.out 0; have hfz95_1 := blk_frozen BK291.out 1; have hfz95_2 := blk_frozen BK291.out 2; have hfz95_3 := blk_frozen BK291.out 3) | ((with_reducible refine gate_builtin (b := .append) (xs := #[.tmp 170, .tmp 172]) rfl ?_); at_builtin; refine Kd.N_append k43 (w0 := w) w.heap.size rfl (.tmp 170) (.tmp 172) 41 43 (.agg #[(.int .i64 0), (.int .i64 0), (.slice none 0 0), (.slice none 0 0)]) 64 rfl Tryd.underlying41 info43 rfl (by decide) (by omega) u281003 x281003_2 (⟨t281, t282, t283, t286⟩ : S43) [.int .i64 t281, .int .i64 t282, .slice Ao90 t283.length co90, .slice Ao91 t286.length co91] (fun k_ => (P0_ k_ ∨ w.heap.size ≤ k_) ∧ k_ ≠ gb250 ∧ k_ ≠ gb280 ∧ k_ ≠ gb291) (fun k_ => ((fun k_ => (P0_ k_ ∨ w.heap.size ≤ k_) ∧ k_ ≠ gb250 ∧ k_ ≠ gb280 ∧ k_ ≠ gb291)) k_ ∧ some k_ ≠ (u281003 : Value).ownBlock) rfl rfl ?aP (fun _ hk => hk) ?aF ?aO ?aB ?aS ?aL ?_; (case aP => exact (k43_mkF _ _ (⟨t281, t282, t283, t286⟩ : S43) (Kd.V_reads' (Kd.V_mono (ok' := (fun k_ => ((fun k_ => (P0_ k_ ∨ w.heap.size ≤ k_) ∧ k_ ≠ gb250 ∧ k_ ≠ gb280 ∧ k_ ≠ gb291)) k_ ∧ some k_ ≠ (u281003 : Value).ownBlock)) (HO285.out) (fun k_ hk => ⟨⟨hk.1, ⟨hk.2.2.2.1, ⟨hk.2.2.2.2.1, hk.2.2.2.2.2⟩⟩⟩, hk.2.1⟩))).2.1 (Kd.V_F (Kd.V_mono (ok' := (fun k_ => ((fun k_ => (P0_ k_ ∨ w.heap.size ≤ k_) ∧ k_ ≠ gb250 ∧ k_ ≠ gb280 ∧ k_ ≠ gb291)) k_ ∧ some k_ ≠ (u281003 : Value).ownBlock)) (HO285.out) (fun k_ hk => ⟨⟨hk.1, ⟨hk.2.2.2.1, ⟨hk.2.2.2.2.1, hk.2.2.2.2.2⟩⟩⟩, hk.2.1⟩))) (Kd.N_reads' (Kd.N_mono (ok' := (fun k_ => ((fun k_ => (P0_ k_ ∨ w.heap.size ≤ k_) ∧ k_ ≠ gb250 ∧ k_ ≠ gb280 ∧ k_ ≠ gb291)) k_ ∧ some k_ ≠ (u281003 : Value).ownBlock)) (HO288.out) (fun k_ hk => ⟨⟨hk.1, ⟨hk.2.2.1, ⟨hk.2.2.2.1, hk.2.2.2.2⟩⟩⟩, hk.2.1⟩))).2.1 (Kd.N_F (Kd.N_mono (ok' := (fun k_ => ((fun k_ => (P0_ k_ ∨ w.heap.size ≤ k_) ∧ k_ ≠ gb250 ∧ k_ ≠ gb280 ∧ k_ ≠ gb291)) k_ ∧ some k_ ≠ (u281003 : Value).ownBlock)) (HO288.out) (fun k_ hk => ⟨⟨hk.1, ⟨hk.2.2.1, ⟨hk.2.2.2.1, hk.2.2.2.2⟩⟩⟩, hk.2.1⟩))))); (case aB => exact (by repeat (first | (with_reducible first | exact HB.out | apply below_alloc | apply pw_below_drewN | apply below_drew1 | refine below_set ?_ GE250.out | refine below_set ?_ GE280.out | refine below_set ?_ GE291.out) | exact HB.out))); (case aF => exact (fun k_ hk => ⟨(.inr (Nat.le_trans (below_size (by repeat (first | (with_reducible first | exact HB.out | apply below_alloc | apply pw_below_drewN | apply below_drew1 | refine below_set ?_ GE250.out | refine below_set ?_ GE280.out | refine below_set ?_ GE291.out) | exact HB.out))) hk)), Kd.freshB (g := gb250) (o := .cells #[.int .i64 x251000_2, .int .i64 x251001_2, .slice none 0 0, .slice none 0 0] 43 (0, 0)) (by (with_reducible repeat (first | refine blk_drewN ?_ _ | refine blk_drew ?_ | refine blk_alloc ?_ _)); exact BK250.out) k_ hk, Kd.freshB (g := gb280) (o := .cells #[.int .i64 3, .int .i64 0, .slice none 0 0, u281003] 43 (0, 0)) (by (with_reducible repeat (first | refine blk_drewN ?_ _ | refine blk_drew ?_ | refine blk_alloc ?_ _)); exact BK280.out) k_ hk, Kd.freshB (g := gb291) (o := .cells #[.int .i64 t281, .int .i64 t282, .slice Ao90 t283.length co90, .slice Ao91 t286.length co91] 43 (0, 0)) (by (with_reducible repeat (first | refine blk_drewN ?_ _ | refine blk_drew ?_ | refine blk_alloc ?_ _)); exact BK291.out) k_ hk⟩)); (case aO => exact (by (with_reducible repeat (first | apply Kd.N_alloc | apply Kd.N_drewN | apply Kd.N_drew)); exact Kd.N_mono HO_281003.out (fun _ hk => ⟨hk.1, ⟨hk.2.2.1, ⟨hk.2.2.2.1, hk.2.2.2.2⟩⟩⟩))); (case aS => exact (below_size (by repeat (first | (with_reducible first | exact HB.out | apply below_alloc | apply pw_below_drewN | apply below_drew1 | refine below_set ?_ GE250.out | refine below_set ?_ GE280.out | refine below_set ?_ GE291.out) | exact HB.out)))); (case aL => have := LMc84.out; omega); intro v293 w96 ho hb hg hat; rw [← Ny292.out] at ho; have n0_ := Aside0.mk (Kd.V_afterv (ok := (fun k_ => (P0_ k_ ∨ w.heap.size ≤ k_) ∧ some k_ ≠ (.slice Ao91 t286.length co91 : Value).ownBlock ∧ k_ ≠ gb250 ∧ k_ ≠ gb280 ∧ k_ ≠ gb291)) (by (with_reducible repeat (first | apply Kd.V_alloc | apply Kd.V_drewN | apply Kd.V_drew)); exact Kd.V_mono HO_0.out (fun _ hk => ⟨⟨hk.1, ⟨hk.2.2.1, ⟨hk.2.2.2.1, ⟨hk.2.2.2.2.1, hk.2.2.2.2.2⟩⟩⟩⟩, hk.2.1⟩)) hg hat); have n1_ := Aside0.mk (blk_grown (g := gb250) (o := .cells #[.int .i64 x251000_2, .int .i64 x251001_2, .slice none 0 0, .slice none 0 0] 43 (0, 0)) (by (with_reducible repeat (first | refine blk_drewN ?_ _ | refine blk_drew ?_ | refine blk_alloc ?_ _)); exact BK250.out) hg (Kd.N_away HO_281003.out (fun _ hk => hk.2.2.1))); have n2_ := Aside0.mk (blk_grown (g := gb280) (o := .cells #[.int .i64 3, .int .i64 0, .slice none 0 0, u281003] 43 (0, 0)) (by (with_reducible repeat (first | refine blk_drewN ?_ _ | refine blk_drew ?_ | refine blk_alloc ?_ _)); exact BK280.out) hg (Kd.N_away HO_281003.out (fun _ hk => hk.2.2.2.1))); have n3_ := Aside0.mk (Kd.V_afterv (ok := (fun k_ => (P0_ k_ ∨ w.heap.size ≤ k_) ∧ some k_ ≠ (.slice Ao91 t286.length co91 : Value).ownBlock ∧ k_ ≠ gb250 ∧ k_ ≠ gb280 ∧ k_ ≠ gb291)) (by (with_reducible repeat (first | apply Kd.V_alloc | apply Kd.V_drewN | apply Kd.V_drew)); exact Kd.V_mono HO285.out (fun _ hk => ⟨⟨hk.1, ⟨hk.2.2.1, ⟨hk.2.2.2.1, ⟨hk.2.2.2.2.1, hk.2.2.2.2.2⟩⟩⟩⟩, hk.2.1⟩)) hg hat); have n4_ := Aside0.mk (blk_grown (g := gb291) (o := .cells #[.int .i64 t281, .int .i64 t282, .slice Ao90 t283.length co90, .slice Ao91 t286.length co91] 43 (0, 0)) (by (with_reducible repeat (first | refine blk_drewN ?_ _ | refine blk_drew ?_ | refine blk_alloc ?_ _)); exact BK291.out) hg (Kd.N_away HO_281003.out (fun _ hk => hk.2.2.2.2))); have n5_ := Aside0.mk (hb); have n6_ := Aside0.mk (ho); clear HO_0; clear BK250; clear BK280; clear HO285; clear BK291; clear HB; clear HO_281003; clear HO288; have HO_0 := n0_; have BK250 := n1_; have BK280 := n2_; have HO285 := n3_; have BK291 := n4_; have HB := n5_; have HO294 := n6_; clear n0_ n1_ n2_ n3_ n4_ n5_ n6_; clear ho hb hg hat; obtain ⟨Ao97, co97, eo97⟩ := Kd.N_slice HO294.out; subst eo97; have hcz98_0 : w96.cell? ⟨gb280, 0, none⟩ = some (.int .i64 3) := (blk_cell BK280.out 0).trans rfl; have hcz98_1 : w96.cell? ⟨gb280, 1, none⟩ = some (.int .i64 0) := (blk_cell BK280.out 1).trans rfl; have hcz98_2 : w96.cell? ⟨gb280, 2, none⟩ = some (.slice none 0 0) := (blk_cell BK280.out 2).trans rfl; have hcz98_3 : w96.cell? ⟨gb280, 3, none⟩ = some (u281003) := (blk_cell BK280.out 3).trans rfl; have hfz98_0 := blk_frozen BK280.out 0; have hfz98_1 := blk_frozen BK280.out 1; have hfz98_2 := blk_frozen BK280.out 2; have hfz98_3 := blk_frozen BK280.out 3))
                   go_roundg k2
                   case measure => have := HJ71.out; have := HK2.out; omega
                   case rel => exact ⟨(t289), (wrap64 (x18_2 + 1)), (x251000_2), (x251001_2), (y292), (.slice Ao97 y292.length co97), (by first | rfl | (simp; done) | (simp [*]; done)), (by first | rfl | (simp; done) | (simp [*]; done)), H', ⟨by have := HJ71.out; have := HK2.out; omega⟩, ⟨by (with_reducible repeat (first | apply Kd.V_alloc | apply Kd.V_drewN | apply Kd.V_drew)); exact Kd.V_mono (Kd.V_far (p := ⟨gb280, 3, none⟩) (Kd.V_mono HO_0.out (fun k_ hk => (⟨hk, hk.1.2.2.2.1⟩ : _ ∧ k_ ≠ gb280))) (fun _ hk => hk.2) (.slice Ao97 y292.length co97)) (fun _ hk => ⟨hk.1.1.1, ⟨hk.1.2, ⟨hk.1.1.2.2.1, hk.1.1.2.2.2.1⟩⟩⟩)⟩, ⟨by (with_reducible repeat (first | apply Kd.N_alloc | apply Kd.N_drewN | apply Kd.N_drew)); exact Kd.N_mono (Kd.N_far (p := ⟨gb280, 3, none⟩) (Kd.N_mono HO294.out (fun k_ hk => (⟨hk, hk.2.2.1⟩ : _ ∧ k_ ≠ gb280))) (fun _ hk => hk.2) (.slice Ao97 y292.length co97)) (fun _ hk => ⟨hk.1.1, ⟨hk.1.2.1, hk.1.2.2.1⟩⟩)⟩, ⟨by (with_reducible repeat (first | refine blk_drewN ?_ _ | refine blk_drew ?_ | refine blk_alloc ?_ _)); refine blk_far ?_ NB250_280.out _; (with_reducible repeat (first | refine blk_drewN ?_ _ | refine blk_drew ?_ | refine blk_alloc ?_ _)); exact BK250.out⟩, ⟨by (with_reducible repeat (first | refine blk_drewN ?_ _ | refine blk_drew ?_ | refine blk_alloc ?_ _)); refine blk_put (cs := #[.int .i64 3, .int .i64 0, .slice none 0 0, u281003]) ?_ 3 _ rfl; (with_reducible repeat (first | refine blk_drewN ?_ _ | refine blk_drew ?_ | refine blk_alloc ?_ _)); exact BK280.out⟩, ⟨by repeat (first | (with_reducible first | exact HB.out | apply below_alloc | apply pw_below_drewN | apply below_drew1 | refine below_set ?_ GE250.out | refine below_set ?_ GE280.out | refine below_set ?_ GE291.out) | exact HB.out)⟩⟩
                  ·rw [if_neg c84] at H
                   exact absurd H (by simp)
                 ·rw [if_neg c83] at H
                  have c83b0 : (t290 == 0) = false := beq_eq_false_iff_ne.mpr c83
                  have c83b1 : (t290 != 0) = true := bne_iff_ne.mpr c83
                  simp only [Option.some.injEq, Prod.mk.injEq] at H
                  obtain ⟨rfl, rfl, rfl, rfl, rfl, rfl⟩ := H
                  go_wp2_with (first | ((with_reducible refine gate_callee (f := 40) rfl ?_); refine goesL_ (some 161) rfl rfl Tryd.func40 (by kernel_rfl) rfl #[.slice (some ad251) l0.length c0, .int .i64 x1_2, .int .i64 (wrap64 (a2 - 1))] rfl (by (try simp only [List.map_toArray, List.map_cons, List.map_nil]); first | done | rfl | (simp only [List.length_drop, List.length_take]; rfl)) ?_; (with_reducible refine (ih k2 (by have := HJ71.out; have := HK2.out; omega) (fun k_ => ((P0_ k_ ∨ w.heap.size ≤ k_) ∧ (some k_ ≠ (u281003 : Value).ownBlock ∧ (k_ ≠ gb250 ∧ k_ ≠ gb280)))) _ _ l0 x1_2 (wrap64 (a2 - 1)) t281 t282 t283 t286 t289 t290 _ ?side1 A82.out).mono ?_); (case side1 => exact HO_0.out); rintro e w99 ⟨v284, v287, rfl, ho0, ho1, hb⟩; refine ⟨_, rfl, ?_⟩; have n0_ := Aside0.mk (Kd.V_elder' (by (with_reducible repeat (first | apply Kd.V_alloc | apply Kd.V_drewN | apply Kd.V_drew)); exact HO_0.out) (Kd.N_base ho1) hb); have n1_ := Aside0.mk (Kd.N_elder' (by (with_reducible repeat (first | apply Kd.N_alloc | apply Kd.N_drewN | apply Kd.N_drew)); exact HO_281003.out) (Kd.N_base ho1) hb); have n2_ := Aside0.mk (Kd.V_lower (Kd.V_mono (ok' := fun k_ => (P0_ k_ ∨ w.heap.size ≤ k_) ∧ some k_ ≠ (v287 : Value).ownBlock ∧ some k_ ≠ (u281003 : Value).ownBlock ∧ k_ ≠ gb250 ∧ k_ ≠ gb280) ho0 (fun k_ hk_ => ⟨Or.elim hk_.1 (fun hs_ => hs_.1) (fun hn_ => (.inr (Nat.le_trans (below_size (by repeat (first | (with_reducible first | exact HB.out | apply below_alloc | apply pw_below_drewN | apply below_drew1 | refine below_set ?_ GE250.out | refine below_set ?_ GE280.out) | exact HB.out))) hn_))), hk_.2, Or.elim hk_.1 (fun hs_ => hs_.2.1) (fun hn_ => (Kd.fresh' (Kd.N_lt (by (with_reducible repeat (first | apply Kd.N_alloc | apply Kd.N_drewN | apply Kd.N_drew)); exact HO_281003.out)) k_ hn_)), Or.elim hk_.1 (fun hs_ => hs_.2.2.1) (fun hn_ => (Kd.freshB (g := gb250) (o := .cells #[.int .i64 x251000_2, .int .i64 x251001_2, .slice none 0 0, .slice none 0 0] 43 (0, 0)) (by (with_reducible repeat (first | refine blk_drewN ?_ _ | refine blk_drew ?_ | refine blk_alloc ?_ _)); exact BK250.out) k_ hn_)), Or.elim hk_.1 (fun hs_ => hs_.2.2.2) (fun hn_ => (Kd.freshB (g := gb280) (o := .cells #[.int .i64 3, .int .i64 0, .slice none 0 0, u281003] 43 (0, 0)) (by (with_reducible repeat (first | refine blk_drewN ?_ _ | refine blk_drew ?_ | refine blk_alloc ?_ _)); exact BK280.out) k_ hn_))⟩)) (below_size (by repeat (first | (with_reducible first | exact HB.out | apply below_alloc | apply pw_below_drewN | apply below_drew1 | refine below_set ?_ GE250.out | refine below_set ?_ GE280.out) | exact HB.out)))); have n3_ := Aside0.mk (Kd.N_lower (Kd.N_mono (ok' := fun k_ => (P0_ k_ ∨ w.heap.size ≤ k_) ∧ some k_ ≠ (u281003 : Value).ownBlock ∧ k_ ≠ gb250 ∧ k_ ≠ gb280) ho1 (fun k_ hk_ => ⟨Or.elim hk_ (fun hs_ => hs_.1) (fun hn_ => (.inr (Nat.le_trans (below_size (by repeat (first | (with_reducible first | exact HB.out | apply below_alloc | apply pw_below_drewN | apply below_drew1 | refine below_set ?_ GE250.out | refine below_set ?_ GE280.out) | exact HB.out))) hn_))), Or.elim hk_ (fun hs_ => hs_.2.1) (fun hn_ => (Kd.fresh' (Kd.N_lt (by (with_reducible repeat (first | apply Kd.N_alloc | apply Kd.N_drewN | apply Kd.N_drew)); exact HO_281003.out)) k_ hn_)), Or.elim hk_ (fun hs_ => hs_.2.2.1) (fun hn_ => (Kd.freshB (g := gb250) (o := .cells #[.int .i64 x251000_2, .int .i64 x251001_2, .slice none 0 0, .slice none 0 0] 43 (0, 0)) (by (with_reducible repeat (first | refine blk_drewN ?_ _ | refine blk_drew ?_ | refine blk_alloc ?_ _)); exact BK250.out) k_ hn_)), Or.elim hk_ (fun hs_ => hs_.2.2.2) (fun hn_ => (Kd.freshB (g := gb280) (o := .cells #[.int .i64 3, .int .i64 0, .slice none 0 0, u281003] 43 (0, 0)) (by (with_reducible repeat (first | refine blk_drewN ?_ _ | refine blk_drew ?_ | refine blk_alloc ?_ _)); exact BK280.out) k_ hn_))⟩)) (below_size (by repeat (first | (with_reducible first | exact HB.out | apply below_alloc | apply pw_below_drewN | apply below_drew1 | refine below_set ?_ GE250.out | refine below_set ?_ GE280.out) | exact HB.out)))); have n4_ := Aside0.mk (blk_below (g := gb250) (o := .cells #[.int .i64 x251000_2, .int .i64 x251001_2, .slice none 0 0, .slice none 0 0] 43 (0, 0)) (by (with_reducible repeat (first | refine blk_drewN ?_ _ | refine blk_drew ?_ | refine blk_alloc ?_ _)); exact BK250.out) hb); have n5_ := Aside0.mk (blk_below (g := gb280) (o := .cells #[.int .i64 3, .int .i64 0, .slice none 0 0, u281003] 43 (0, 0)) (by (with_reducible repeat (first | refine blk_drewN ?_ _ | refine blk_drew ?_ | refine blk_alloc ?_ _)); exact BK280.out) hb); have n6_ := Aside0.mk (below_step (by repeat (first | (with_reducible first | exact HB.out | apply below_alloc | apply pw_below_drewN | apply below_drew1 | refine below_set ?_ GE250.out | refine below_set ?_ GE280.out) | exact HB.out)) hb); clear HO_0; clear HO_281003; clear BK250; clear BK280; clear HB; have HO_0 := n0_; have HO_281003 := n1_; have HO285 := n2_; have HO288 := n3_; have BK250 := n4_; have BK280 := n5_; have HB := n6_; clear n0_ n1_ n2_ n3_ n4_ n5_ n6_; (try clear hb); (try clear hb2); (try clear hk); (try clear hi); (try clear ho0); (try clear ho1)) | ((with_reducible refine gate_dst (N := 19) rfl ?_); refine box_event ?hg (N := 19) ?hd (cs := #[.int .i64 0, .int .i64 0, .slice none 0 0, .slice none 0 0]) (t := 43) ?hr ?_; (case hd => rfl); (case hg => rfl); (case hr => first | (go_simp; done) | (go_simp; rfl)); intro gb291 hg w100 hbox hb; have n0_ := Aside0.mk (Kd.V_below (Kd.V_elderB (by (with_reducible repeat (first | apply Kd.V_alloc | apply Kd.V_drewN | apply Kd.V_drew)); exact HO_0.out) gb291 (Nat.le_of_eq hg.symm)) hb); have n1_ := Aside0.mk (Kd.N_below (Kd.N_elderB (by (with_reducible repeat (first | apply Kd.N_alloc | apply Kd.N_drewN | apply Kd.N_drew)); exact HO_281003.out) gb291 (Nat.le_of_eq hg.symm)) hb); have n2_ := Aside0.mk (Kd.V_below (Kd.V_elderB (by (with_reducible repeat (first | apply Kd.V_alloc | apply Kd.V_drewN | apply Kd.V_drew)); exact HO285.out) gb291 (Nat.le_of_eq hg.symm)) hb); have n3_ := Aside0.mk (Kd.N_below (Kd.N_elderB (by (with_reducible repeat (first | apply Kd.N_alloc | apply Kd.N_drewN | apply Kd.N_drew)); exact HO288.out) gb291 (Nat.le_of_eq hg.symm)) hb); have n4_ := Aside0.mk (blk_below (g := gb250) (o := .cells #[.int .i64 x251000_2, .int .i64 x251001_2, .slice none 0 0, .slice none 0 0] 43 (0, 0)) (by (with_reducible repeat (first | refine blk_drewN ?_ _ | refine blk_drew ?_ | refine blk_alloc ?_ _)); exact BK250.out) hb); have n5_ := Aside0.mk (blk_below (g := gb280) (o := .cells #[.int .i64 3, .int .i64 0, .slice none 0 0, u281003] 43 (0, 0)) (by (with_reducible repeat (first | refine blk_drewN ?_ _ | refine blk_drew ?_ | refine blk_alloc ?_ _)); exact BK280.out) hb); have n6_ := Aside0.mk (below_step (by repeat (first | (with_reducible first | exact HB.out | apply below_alloc | apply pw_below_drewN | apply below_drew1 | refine below_set ?_ GE250.out | refine below_set ?_ GE280.out) | exact HB.out)) hb); have n7_ := Aside0.mk (hbox); have n8_ := Aside0.mk ((by rw [hg]; exact (below_size (by repeat (first | (with_reducible first | exact HB.out | apply below_alloc | apply pw_below_drewN | apply below_drew1 | refine below_set ?_ GE250.out | refine below_set ?_ GE280.out) | exact HB.out))) : w.heap.size ≤ gb291)); have n9_ := Aside0.mk ((by rw [hg]; exact (below_size (by repeat (first | (with_reducible first | exact HB.out | apply below_alloc | apply pw_below_drewN | apply below_drew1 | refine below_set ?_ GE250.out | refine below_set ?_ GE280.out) | exact HB.out))) : w.heap.size ≤ gb291)); have n10_ := Aside0.mk ((by rw [hg]; exact Nat.ne_of_lt (blk_lt (g := gb250) (o := .cells #[.int .i64 x251000_2, .int .i64 x251001_2, .slice none 0 0, .slice none 0 0] 43 (0, 0)) (by (with_reducible repeat (first | refine blk_drewN ?_ _ | refine blk_drew ?_ | refine blk_alloc ?_ _)); exact BK250.out)) : gb250 ≠ gb291)); have n11_ := Aside0.mk ((by rw [hg]; exact Nat.ne_of_gt (blk_lt (g := gb250) (o := .cells #[.int .i64 x251000_2, .int .i64 x251001_2, .slice none 0 0, .slice none 0 0] 43 (0, 0)) (by (with_reducible repeat (first | refine blk_drewN ?_ _ | refine blk_drew ?_ | refine blk_alloc ?_ _)); exact BK250.out)) : gb291 ≠ gb250)); have n12_ := Aside0.mk ((by rw [hg]; exact Nat.ne_of_lt (blk_lt (g := gb280) (o := .cells #[.int .i64 3, .int .i64 0, .slice none 0 0, u281003] 43 (0, 0)) (by (with_reducible repeat (first | refine blk_drewN ?_ _ | refine blk_drew ?_ | refine blk_alloc ?_ _)); exact BK280.out)) : gb280 ≠ gb291)); have n13_ := Aside0.mk ((by rw [hg]; exact Nat.ne_of_gt (blk_lt (g := gb280) (o := .cells #[.int .i64 3, .int .i64 0, .slice none 0 0, u281003] 43 (0, 0)) (by (with_reducible repeat (first | refine blk_drewN ?_ _ | refine blk_drew ?_ | refine blk_alloc ?_ _)); exact BK280.out)) : gb291 ≠ gb280)); clear HO_0; clear HO_281003; clear HO285; clear HO288; clear BK250; clear BK280; clear HB; have HO_0 := n0_; have HO_281003 := n1_; have HO285 := n2_; have HO288 := n3_; have BK250 := n4_; have BK280 := n5_; have HB := n6_; have BK291 := n7_; have GW291 := n8_; have GE291 := n9_; have NB250_291 := n10_; have NB291_250 := n11_; have NB280_291 := n12_; have NB291_280 := n13_; clear n0_ n1_ n2_ n3_ n4_ n5_ n6_ n7_ n8_ n9_ n10_ n11_ n12_ n13_; clear hb hbox hg; have hnb101 := NB291_250.out; have hnc101 := NB250_291.out; have hnb102 := NB291_280.out; have hnc102 := NB280_291.out; have hcz103_0 : w100.cell? ⟨gb291, 0, none⟩ = some (.int .i64 0) := (blk_cell BK291.out 0).trans rfl; have hcz103_1 : w100.cell? ⟨gb291, 1, none⟩ = some (.int .i64 0) := (blk_cell BK291.out 1).trans rfl; have hcz103_2 : w100.cell? ⟨gb291, 2, none⟩ = some (.slice none 0 0) := (blk_cell BK291.out 2).trans rfl; have hcz103_3 : w100.cell? ⟨gb291, 3, none⟩ = some (.slice none 0 0) := (blk_cell BK291.out 3).trans rfl; have hfz103_0 := blk_frozen BK291.out 0; have hfz103_1 := blk_frozen BK291.out 1; have hfz103_2 := blk_frozen BK291.out 2; have hfz103_3 := blk_frozen BK291.out 3; obtain ⟨Ao104, co104, eo104⟩ := Kd.V_slice HO285.out; subst eo104; obtain ⟨Ao105, co105, eo105⟩ := Kd.N_slice HO288.out; subst eo105; have hnb106 := NB250_280.out; have hnc106 := NB280_250.out; have hcz107_0 : w100.cell? ⟨gb250, 0, none⟩ = some (.int .i64 x251000_2) := (blk_cell BK250.out 0).trans rfl; have hcz107_1 : w100.cell? ⟨gb250, 1, none⟩ = some (.int .i64 x251001_2) := (blk_cell BK250.out 1).trans rfl; have hcz107_2 : w100.cell? ⟨gb250, 2, none⟩ = some (.slice none 0 0) := (blk_cell BK250.out 2).trans rfl; have hcz107_3 : w100.cell? ⟨gb250, 3, none⟩ = some (.slice none 0 0) := (blk_cell BK250.out 3).trans rfl; have hfz107_0 := blk_frozen BK250.out 0; have hfz107_1 := blk_frozen BK250.out 1; have hfz107_2 := blk_frozen BK250.out 2; have hfz107_3 := blk_frozen BK250.out 3))
                  refine bodyPost_ret (results_ctt rfl _ _ gb250 43 #[.int .i64 0, .int .i64 0, .slice none 0 0, .slice none 0 0] (0, 0) _ rfl (by (with_reducible repeat (first | refine blk_drewN ?_ _ | refine blk_drew ?_ | refine blk_alloc ?_ _)); refine blk_put (cs := #[.int .i64 0, .int .i64 0, .slice none 0 0, .slice none 0 0]) ?_ 3 _ rfl; (with_reducible repeat (first | refine blk_drewN ?_ _ | refine blk_drew ?_ | refine blk_alloc ?_ _)); refine blk_put (cs := #[.int .i64 0, .int .i64 0, .slice none 0 0, .slice none 0 0]) ?_ 2 _ rfl; (with_reducible repeat (first | refine blk_drewN ?_ _ | refine blk_drew ?_ | refine blk_alloc ?_ _)); refine blk_put (cs := #[.int .i64 0, .int .i64 x251001_2, .slice none 0 0, .slice none 0 0]) ?_ 1 _ rfl; (with_reducible repeat (first | refine blk_drewN ?_ _ | refine blk_drew ?_ | refine blk_alloc ?_ _)); refine blk_put (cs := #[.int .i64 x251000_2, .int .i64 x251001_2, .slice none 0 0, .slice none 0 0]) ?_ 0 _ rfl; (with_reducible repeat (first | refine blk_drewN ?_ _ | refine blk_drew ?_ | refine blk_alloc ?_ _)); refine blk_far ?_ NB250_291.out _; (with_reducible repeat (first | refine blk_drewN ?_ _ | refine blk_drew ?_ | refine blk_alloc ?_ _)); refine blk_far ?_ NB250_291.out _; (with_reducible repeat (first | refine blk_drewN ?_ _ | refine blk_drew ?_ | refine blk_alloc ?_ _)); refine blk_far ?_ NB250_291.out _; (with_reducible repeat (first | refine blk_drewN ?_ _ | refine blk_drew ?_ | refine blk_alloc ?_ _)); refine blk_far ?_ NB250_291.out _; (with_reducible repeat (first | refine blk_drewN ?_ _ | refine blk_drew ?_ | refine blk_alloc ?_ _)); exact BK250.out) Tryd.underlying43 rfl (by kernel_rfl)) rfl ?_
                  exact ⟨_, _, by first | rfl | (simp [errW_none, errW_some] <;> rfl) | (simp only [← hji67]; first | rfl | (simp [errW_none, errW_some] <;> rfl)) | (simp [*, errW_none, errW_some] <;> rfl), Kd.V_nil _ _ _ _ _, by first | exact Kd.N_nil _ _ _ _ _ | exact Kd.R_nil _ _ _ _ _, by repeat (first | (with_reducible first | exact HB.out | apply below_alloc | apply pw_below_drewN | apply below_drew1 | refine below_set ?_ GE250.out | refine below_set ?_ GE280.out | refine below_set ?_ GE291.out) | exact HB.out)⟩
                ·rw [if_neg c81] at H
                 have c81b0 : decide (x18_2 < t278) = false := decide_eq_false c81
                 clear c81
                 simp only [Option.some.injEq, Prod.mk.injEq] at H
                 obtain ⟨rfl, rfl, rfl, rfl, rfl, rfl⟩ := H
                 have hnb108 := NB280_250.out
                 have hnc108 := NB250_280.out
                 have hcz109_0 : wr.cell? ⟨gb280, 0, none⟩ = some (.int .i64 3) := (blk_cell BK280.out 0).trans rfl
                 have hcz109_1 : wr.cell? ⟨gb280, 1, none⟩ = some (.int .i64 0) := (blk_cell BK280.out 1).trans rfl
                 have hcz109_2 : wr.cell? ⟨gb280, 2, none⟩ = some (.slice none 0 0) := (blk_cell BK280.out 2).trans rfl
                 have hcz109_3 : wr.cell? ⟨gb280, 3, none⟩ = some (u281003) := (blk_cell BK280.out 3).trans rfl
                 have hfz109_0 := blk_frozen BK280.out 0
                 have hfz109_1 := blk_frozen BK280.out 1
                 have hfz109_2 := blk_frozen BK280.out 2
                 have hfz109_3 := blk_frozen BK280.out 3
                 have hcz110_0 : wr.cell? ⟨gb250, 0, none⟩ = some (.int .i64 x251000_2) := (blk_cell BK250.out 0).trans rfl
                 have hcz110_1 : wr.cell? ⟨gb250, 1, none⟩ = some (.int .i64 x251001_2) := (blk_cell BK250.out 1).trans rfl
                 have hcz110_2 : wr.cell? ⟨gb250, 2, none⟩ = some (.slice none 0 0) := (blk_cell BK250.out 2).trans rfl
                 have hcz110_3 : wr.cell? ⟨gb250, 3, none⟩ = some (.slice none 0 0) := (blk_cell BK250.out 3).trans rfl
                 have hfz110_0 := blk_frozen BK250.out 0
                 have hfz110_1 := blk_frozen BK250.out 1
                 have hfz110_2 := blk_frozen BK250.out 2
                 have hfz110_3 := blk_frozen BK250.out 3
                 obtain ⟨Ao111, co111, eo111⟩ := Kd.N_slice HO_281003.out
                 subst eo111
                 go_wp2
                 refine bodyPost_ret (results_ctt rfl _ _ gb250 43 #[.int .i64 3, .int .i64 0, .slice none 0 0, .slice Ao111 x281003_2.length co111] (0, 0) _ rfl (by (with_reducible repeat (first | refine blk_drewN ?_ _ | refine blk_drew ?_ | refine blk_alloc ?_ _)); refine blk_put (cs := #[.int .i64 3, .int .i64 0, .slice none 0 0, .slice none 0 0]) ?_ 3 _ rfl; (with_reducible repeat (first | refine blk_drewN ?_ _ | refine blk_drew ?_ | refine blk_alloc ?_ _)); refine blk_put (cs := #[.int .i64 3, .int .i64 0, .slice none 0 0, .slice none 0 0]) ?_ 2 _ rfl; (with_reducible repeat (first | refine blk_drewN ?_ _ | refine blk_drew ?_ | refine blk_alloc ?_ _)); refine blk_put (cs := #[.int .i64 3, .int .i64 x251001_2, .slice none 0 0, .slice none 0 0]) ?_ 1 _ rfl; (with_reducible repeat (first | refine blk_drewN ?_ _ | refine blk_drew ?_ | refine blk_alloc ?_ _)); refine blk_put (cs := #[.int .i64 x251000_2, .int .i64 x251001_2, .slice none 0 0, .slice none 0 0]) ?_ 0 _ rfl; (with_reducible repeat (first | refine blk_drewN ?_ _ | refine blk_drew ?_ | refine blk_alloc ?_ _)); exact BK250.out) Tryd.underlying43 rfl (by kernel_rfl)) rfl ?_
                 exact ⟨_, _, by first | rfl | (simp [errW_none, errW_some] <;> rfl) | (simp only [← hji67]; first | rfl | (simp [errW_none, errW_some] <;> rfl)) | (simp [*, errW_none, errW_some] <;> rfl), Kd.V_nil _ _ _ _ _, by (with_reducible repeat (first | apply Kd.N_alloc | apply Kd.N_drewN | apply Kd.N_drew)); exact Kd.N_mono (Kd.N_far (p := ⟨gb250, 3, none⟩) (Kd.N_far (p := ⟨gb250, 2, none⟩) (Kd.N_far (p := ⟨gb250, 1, none⟩) (Kd.N_far (p := ⟨gb250, 0, none⟩) (Kd.N_mono HO_281003.out (fun k_ hk => (⟨hk, hk.2.1⟩ : _ ∧ k_ ≠ gb250))) (fun _ hk => hk.2) (.int .i64 3)) (fun _ hk => hk.2) (.int .i64 0)) (fun _ hk => hk.2) (.slice none 0 0)) (fun _ hk => hk.2) (.slice Ao111 x281003_2.length co111)) (fun _ hk => hk.1.1), by repeat (first | (with_reducible first | exact HB.out | apply below_alloc | apply pw_below_drewN | apply below_drew1 | refine below_set ?_ GE250.out | refine below_set ?_ GE280.out) | exact HB.out)⟩
          ·rw [if_neg c70] at H
           exact absurd H (by simp)
         ·rw [if_neg c69] at H
          exact absurd H (by simp)
        ·rw [if_neg c68] at H
         exact absurd H (by simp)
      ·rw [if_neg c63] at H
       have c63b0 : ((wrap64 (rd l0 a1)) == 3) = false := beq_eq_false_iff_ne.mpr c63
       have c63b1 : ((wrap64 (rd l0 a1)) != 3) = true := bne_iff_ne.mpr c63
       simp only [Option.some.injEq, Prod.mk.injEq] at H
       obtain ⟨rfl, rfl, rfl, rfl, rfl, rfl⟩ := H
       go_enter Tryd.func40, Tryd.ntmps40
       go_wp2_with (first | ((with_reducible refine gate_dst (N := 6) rfl ?_); refine box_event ?hg (N := 6) ?hd (cs := #[.int .i64 0, .int .i64 0, .slice none 0 0, .slice none 0 0]) (t := 43) ?hr ?_; (case hd => rfl); (case hg => rfl); (case hr => first | (go_simp; done) | (go_simp; rfl)); intro gb250 hg w112 hbox hb; have n0_ := Aside0.mk (Kd.V_below (Kd.V_elderB (by (with_reducible repeat (first | apply Kd.V_alloc | apply Kd.V_drewN | apply Kd.V_drew)); exact HO0.out) gb250 (Nat.le_of_eq hg.symm)) hb); have n1_ := Aside0.mk (below_step (by repeat (first | (with_reducible first | exact HB.out | apply below_alloc | apply pw_below_drewN | apply below_drew1) | exact HB.out)) hb); have n2_ := Aside0.mk (hbox); have n3_ := Aside0.mk ((by rw [hg]; exact (below_size (by repeat (first | (with_reducible first | exact HB.out | apply below_alloc | apply pw_below_drewN | apply below_drew1) | exact HB.out))) : w.heap.size ≤ gb250)); have n4_ := Aside0.mk ((by rw [hg]; exact (below_size (by repeat (first | (with_reducible first | exact HB.out | apply below_alloc | apply pw_below_drewN | apply below_drew1) | exact HB.out))) : w.heap.size ≤ gb250)); clear HO0; clear HB; have HO0 := n0_; have HB := n1_; have BK250 := n2_; have GW250 := n3_; have GE250 := n4_; clear n0_ n1_ n2_ n3_ n4_; clear hb hbox hg; have p251 : 0 ≤ (a1 : Int) := of_decide_eq_true (by first | (with_reducible assumption) | assumption); have q251 : a1 < (l0.length : Int) := of_decide_eq_true (by first | (with_reducible assumption) | assumption); obtain ⟨ad251, e251, hx251_0⟩ := Kd.at_int (Kd.V_reads' HO0.out).2.2 a1 p251 q251; cases e251; replace p251 := eq_true p251; replace q251 := eq_true q251; have hcz113_0 : w112.cell? ⟨gb250, 0, none⟩ = some (.int .i64 0) := (blk_cell BK250.out 0).trans rfl; have hcz113_1 : w112.cell? ⟨gb250, 1, none⟩ = some (.int .i64 0) := (blk_cell BK250.out 1).trans rfl; have hcz113_2 : w112.cell? ⟨gb250, 2, none⟩ = some (.slice none 0 0) := (blk_cell BK250.out 2).trans rfl; have hcz113_3 : w112.cell? ⟨gb250, 3, none⟩ = some (.slice none 0 0) := (blk_cell BK250.out 3).trans rfl; have hfz113_0 := blk_frozen BK250.out 0; have hfz113_1 := blk_frozen BK250.out 1; have hfz113_2 := blk_frozen BK250.out 2; have hfz113_3 := blk_frozen BK250.out 3))
       refine bodyPost_ret (results_ctt rfl _ _ gb250 43 #[.int .i64 0, .int .i64 0, .slice none 0 0, .slice none 0 0] (0, 0) _ rfl (by (with_reducible repeat (first | refine blk_drewN ?_ _ | refine blk_drew ?_ | refine blk_alloc ?_ _)); refine blk_put (cs := #[.int .i64 0, .int .i64 0, .slice none 0 0, .slice none 0 0]) ?_ 3 _ rfl; (with_reducible repeat (first | refine blk_drewN ?_ _ | refine blk_drew ?_ | refine blk_alloc ?_ _)); refine blk_put (cs := #[.int .i64 0, .int .i64 0, .slice none 0 0, .slice none 0 0]) ?_ 2 _ rfl; (with_reducible repeat (first | refine blk_drewN ?_ _ | refine blk_drew ?_ | refine blk_alloc ?_ _)); refine blk_put (cs := #[.int .i64 0, .int .i64 0, .slice none 0 0, .slice none 0 0]) ?_ 1 _ rfl; (with_reducible repeat (first | refine blk_drewN ?_ _ | refine blk_drew ?_ | refine blk_alloc ?_ _)); refine blk_put (cs := #[.int .i64 0, .int .i64 0, .slice none 0 0, .slice none 0 0]) ?_ 0 _ rfl; (with_reducible repeat (first | refine blk_drewN ?_ _ | refine blk_drew ?_ | refine blk_alloc ?_ _)); exact BK250.out) Tryd.underlying43 rfl (by kernel_rfl)) rfl ?_
       exact ⟨_, _, by first | rfl | (simp [errW_none, errW_some] <;> rfl) | (simp [*, errW_none, errW_some] <;> rfl), Kd.V_nil _ _ _ _ _, by first | exact Kd.N_nil _ _ _ _ _ | exact Kd.R_nil _ _ _ _ _, by repeat (first | (with_reducible first | exact HB.out | apply below_alloc | apply pw_below_drewN | apply below_drew1 | refine below_set ?_ GE250.out) | exact HB.out)⟩
   ·rw [if_neg c8] at H
    exact absurd H (by simp)
  ·rw [if_neg c7] at H
   exact absurd H (by simp)

end Go.Proofs.YtiibnfnjfmcggaaDoor.PCallReads
