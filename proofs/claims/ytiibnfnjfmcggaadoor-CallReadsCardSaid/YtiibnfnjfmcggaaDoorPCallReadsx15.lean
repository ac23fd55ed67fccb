-- Written by drive.py of this work: the kit's print.py with contracts of this work laid in.
import Derived.Test.YtiibnfnjfmcggaaDoorPCallReadsx0
import Derived.Test.YtiibnfnjfmcggaaDoorPCallReadsx10
import Derived.Test.YtiibnfnjfmcggaaDoorPCallReadsx11
namespace Go.Proofs.YtiibnfnjfmcggaaDoor.PCallReads
open Go.RowKit Go.Proofs.YtiibnfnjfmcggaaDoorW.PrintWords Go.Proofs.YtiibnfnjfmcggaaDoorW.PrintLast Go.Proofs.YtiibnfnjfmcggaaDoorW.PrintMore
attribute [local go_sem] max2_int min2_int max_two min_two max_three min_three max_four min_four   -- for this text's walks alone
set_option linter.unusedVariables false
set_option linter.unusedSimpArgs false

/-! ### bastilleref30_Same: function 9 -/
--ALONE
def bastilleref30_Same.f (k : Nat) (a0_0 : Int) (a0_1 : ByteArray) (a0_2 : ByteArray) (a0_3 : ByteArray) (a0_4 : ByteArray) (a0_5 : Int) (a0_6 : Int) (l0_7 : List Int) (a1_0 : Int) (a1_1 : ByteArray) (a1_2 : ByteArray) (a1_3 : ByteArray) (a1_4 : ByteArray) (a1_5 : Int) (a1_6 : Int) (l1_7 : List Int) : Option (Bool) := if a0_0 = a1_0 then (if a0_1.toList = a1_1.toList then (if a0_2.toList = a1_2.toList then (if a0_3.toList = a1_3.toList then (if a0_4.toList = a1_4.toList then (if a0_5 = a1_5 then (if a0_6 = a1_6 then ((bastilleref01_Same.f k l0_7 l1_7).bind fun t245 => (some t245)) else (some false)) else (some false)) else (some false)) else (some false)) else (some false)) else (some false)) else (some false)
theorem bastilleref30_Same.mono : ∀ a0 a1 a2 a3 a4 a5 a6 a7 a8 a9 a10 a11 a12 a13 a14 a15 k, LeO (bastilleref30_Same.f k a0 a1 a2 a3 a4 a5 a6 a7 a8 a9 a10 a11 a12 a13 a14 a15) (bastilleref30_Same.f (k + 1) a0 a1 a2 a3 a4 a5 a6 a7 a8 a9 a10 a11 a12 a13 a14 a15) := by
 intro a0 a1 a2 a3 a4 a5 a6 a7 a8 a9 a10 a11 a12 a13 a14 a15 k
 unfold bastilleref30_Same.f
 repeat' first
   | (with_reducible exact bastilleref01_Same.mono _ _ _)
   | (with_reducible exact LeO.refl _)
   | (with_reducible exact LeO.none _)
   | (with_reducible refine LeO.ite ?_ ?_)
   | (with_reducible refine LeO.bind ?_ (fun _ => ?_))
   | exact bastilleref01_Same.mono _ _ _
   | exact LeO.none _
   | refine LeO.ite ?_ ?_
   | refine LeO.bind ?_ (fun _ => ?_)
set_option maxHeartbeats 4000000 in
set_option maxRecDepth 100000 in
theorem bastilleref30_Same.calls (k : Nat) (a0_0 : Int) (a0_1 : ByteArray) (a0_2 : ByteArray) (a0_3 : ByteArray) (a0_4 : ByteArray) (a0_5 : Int) (a0_6 : Int) (A0_7 : Option Addr) (c0_7 : Nat) (l0_7 : List Int) (a1_0 : Int) (a1_1 : ByteArray) (a1_2 : ByteArray) (a1_3 : ByteArray) (a1_4 : ByteArray) (a1_5 : Int) (a1_6 : Int) (A1_7 : Option Addr) (c1_7 : Nat) (l1_7 : List Int) (r : Bool) (w : World) (hr0_7 : Kd.C (Kd.int .u8) w A0_7 l0_7.length l0_7) (hc0_7 : l0_7.length ≤ c0_7) (hr1_7 : Kd.C (Kd.int .u8) w A1_7 l1_7.length l1_7) (hc1_7 : l1_7.length ≤ c1_7) (h : bastilleref30_Same.f k a0_0 a0_1 a0_2 a0_3 a0_4 a0_5 a0_6 l0_7 a1_0 a1_1 a1_2 a1_3 a1_4 a1_5 a1_6 l1_7 = some r) :
  Calls Tryd.prog 9 #[.agg #[.int .i64 a0_0, .string a0_1, .string a0_2, .string a0_3, .string a0_4, .int .i64 a0_5, .int .i64 a0_6, .slice A0_7 l0_7.length c0_7], .agg #[.int .i64 a1_0, .string a1_1, .string a1_2, .string a1_3, .string a1_4, .int .i64 a1_5, .int .i64 a1_6, .slice A1_7 l1_7.length c1_7]] w fun e w' => e = .returned (.bool r) ∧ Below w.heap.size w w' := by
 have R0 := Aside0.mk hr0_7
 have L0 := Aside0.mk hc0_7
 have R1 := Aside0.mk hr1_7
 have L1 := Aside0.mk hc1_7
 clear hr0_7 hc0_7 hr1_7 hc1_7
 have KB : ((w.alloc (.cells #[.int .i64 a0_0, .string a0_1, .string a0_2, .string a0_3, .string a0_4, .int .i64 a0_5, .int .i64 a0_6, .slice A0_7 l0_7.length c0_7] 24)).alloc (.cells #[.int .i64 a1_0, .string a1_1, .string a1_2, .string a1_3, .string a1_4, .int .i64 a1_5, .int .i64 a1_6, .slice A1_7 l1_7.length c1_7] 24)).heap[w.heap.size + 1]? = some (.cells #[.int .i64 a1_0, .string a1_1, .string a1_2, .string a1_3, .string a1_4, .int .i64 a1_5, .int .i64 a1_6, .slice A1_7 l1_7.length c1_7] 24 (0, 0)) := by rw [← fsz w (.cells #[.int .i64 a0_0, .string a0_1, .string a0_2, .string a0_3, .string a0_4, .int .i64 a0_5, .int .i64 a0_6, .slice A0_7 l0_7.length c0_7] 24)]; exact Array.getElem?_push_size
 have KA : ((w.alloc (.cells #[.int .i64 a0_0, .string a0_1, .string a0_2, .string a0_3, .string a0_4, .int .i64 a0_5, .int .i64 a0_6, .slice A0_7 l0_7.length c0_7] 24)).alloc (.cells #[.int .i64 a1_0, .string a1_1, .string a1_2, .string a1_3, .string a1_4, .int .i64 a1_5, .int .i64 a1_6, .slice A1_7 l1_7.length c1_7] 24)).heap[w.heap.size]? = some (.cells #[.int .i64 a0_0, .string a0_1, .string a0_2, .string a0_3, .string a0_4, .int .i64 a0_5, .int .i64 a0_6, .slice A0_7 l0_7.length c0_7] 24 (0, 0)) := blk_alloc (show (w.alloc _).heap[w.heap.size]? = some _ from Array.getElem?_push_size) _
 have x0 := (blk_cell KA 0).trans rfl
 have x1 := (blk_cell KA 1).trans rfl
 have x2 := (blk_cell KA 2).trans rfl
 have x3 := (blk_cell KA 3).trans rfl
 have x4 := (blk_cell KA 4).trans rfl
 have x5 := (blk_cell KA 5).trans rfl
 have x6 := (blk_cell KA 6).trans rfl
 have x7 := (blk_cell KA 7).trans rfl
 have y0 := (blk_cell KB 0).trans rfl
 have y1 := (blk_cell KB 1).trans rfl
 have y2 := (blk_cell KB 2).trans rfl
 have y3 := (blk_cell KB 3).trans rfl
 have y4 := (blk_cell KB 4).trans rfl
 have y5 := (blk_cell KB 5).trans rfl
 have y6 := (blk_cell KB 6).trans rfl
 have y7 := (blk_cell KB 7).trans rfl
 have HB := Aside0.mk (show Below w.heap.size w ((w.alloc (.cells #[.int .i64 a0_0, .string a0_1, .string a0_2, .string a0_3, .string a0_4, .int .i64 a0_5, .int .i64 a0_6, .slice A0_7 l0_7.length c0_7] 24)).alloc (.cells #[.int .i64 a1_0, .string a1_1, .string a1_2, .string a1_3, .string a1_4, .int .i64 a1_5, .int .i64 a1_6, .slice A1_7 l1_7.length c1_7] 24)) from ((Below.refl _ w).alloc (Nat.le_refl _) _).alloc (by rw [fsz]; exact Nat.le_succ _) _)
 have BA := Aside0.mk (show Below w.heap.size w (w.alloc (.cells #[.int .i64 a0_0, .string a0_1, .string a0_2, .string a0_3, .string a0_4, .int .i64 a0_5, .int .i64 a0_6, .slice A0_7 l0_7.length c0_7] 24)) from (Below.refl _ w).alloc (Nat.le_refl _) _)
 clear KA KB
 rw [bastilleref30_Same.f] at h
 cases q0 : (a0_0 == a1_0) with
 | false =>
  rw [if_neg (beq_eq_false_iff_ne.1 q0)] at h
  cases h
  go_enter Tryd.func9, Tryd.ntmps9
  go_wp2
  go_ret
  exact ⟨rfl, HB.out⟩
 | true =>
  rw [if_pos (beq_iff_eq.1 q0)] at h
  cases q1 : (a0_1.toList == a1_1.toList) with
  | false =>
   rw [if_neg (beq_eq_false_iff_ne.1 q1)] at h
   cases h
   go_enter Tryd.func9, Tryd.ntmps9
   go_wp2
   go_ret
   exact ⟨rfl, HB.out⟩
  | true =>
   rw [if_pos (beq_iff_eq.1 q1)] at h
   cases q2 : (a0_2.toList == a1_2.toList) with
   | false =>
    rw [if_neg (beq_eq_false_iff_ne.1 q2)] at h
    cases h
    go_enter Tryd.func9, Tryd.ntmps9
    go_wp2
    go_ret
    exact ⟨rfl, HB.out⟩
   | true =>
    rw [if_pos (beq_iff_eq.1 q2)] at h
    cases q3 : (a0_3.toList == a1_3.toList) with
    | false =>
     rw [if_neg (beq_eq_false_iff_ne.1 q3)] at h
     cases h
     go_enter Tryd.func9, Tryd.ntmps9
     go_wp2
     go_ret
     exact ⟨rfl, HB.out⟩
    | true =>
     rw [if_pos (beq_iff_eq.1 q3)] at h
     cases q4 : (a0_4.toList == a1_4.toList) with
     | false =>
      rw [if_neg (beq_eq_false_iff_ne.1 q4)] at h
      cases h
      go_enter Tryd.func9, Tryd.ntmps9
      go_wp2
      go_ret
      exact ⟨rfl, HB.out⟩
     | true =>
      rw [if_pos (beq_iff_eq.1 q4)] at h
      cases q5 : (a0_5 == a1_5) with
      | false =>
       rw [if_neg (beq_eq_false_iff_ne.1 q5)] at h
       cases h
       go_enter Tryd.func9, Tryd.ntmps9
       go_wp2
       go_ret
       exact ⟨rfl, HB.out⟩
      | true =>
       rw [if_pos (beq_iff_eq.1 q5)] at h
       cases q6 : (a0_6 == a1_6) with
       | false =>
        rw [if_neg (beq_eq_false_iff_ne.1 q6)] at h
        cases h
        go_enter Tryd.func9, Tryd.ntmps9
        go_wp2
        go_ret
        exact ⟨rfl, HB.out⟩
       | true =>
        rw [if_pos (beq_iff_eq.1 q6)] at h
        obtain ⟨t, ht, h⟩ := Option.bind_eq_some_iff.1 h
        cases h
        have HT := Aside0.mk ht
        clear ht
        go_enter Tryd.func9, Tryd.ntmps9
        go_wp2_with fail
        refine (bastilleref01_Same.calls k A0_7 c0_7 l0_7 A1_7 c1_7 l1_7 r _ (Kd.C_below (Kd.C_below R0.out (below_alloc (Below.refl _ _) _)) (below_alloc (Below.refl _ _) _)) L0.out (Kd.C_below (Kd.C_below R1.out (below_alloc (Below.refl _ _) _)) (below_alloc (Below.refl _ _) _)) L1.out HT.out).mono ?_
        rintro e w3 ⟨rfl, hd⟩
        have H3 := Aside0.mk (HB.out.trans (hd.below.mono HB.out.size))
        clear hd
        go_wp2
        go_ret
        exact ⟨rfl, H3.out⟩


end Go.Proofs.YtiibnfnjfmcggaaDoor.PCallReads
