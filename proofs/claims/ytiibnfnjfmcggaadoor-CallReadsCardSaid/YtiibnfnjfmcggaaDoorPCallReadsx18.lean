-- Written by drive.py of this work: the kit's print.py with contracts of this work laid in.
import Derived.Test.YtiibnfnjfmcggaaDoorPCallReadsx0
import Derived.Test.YtiibnfnjfmcggaaDoorPCallReadsx8
import Derived.Test.YtiibnfnjfmcggaaDoorPCallReadsx17
namespace Go.Proofs.YtiibnfnjfmcggaaDoor.PCallReads
open Go.RowKit Go.Proofs.YtiibnfnjfmcggaaDoorW.PrintWords Go.Proofs.YtiibnfnjfmcggaaDoorW.PrintLast Go.Proofs.YtiibnfnjfmcggaaDoorW.PrintMore
attribute [local go_sem] max2_int min2_int max_two min_two max_three min_three max_four min_four   -- for this text's walks alone
set_option linter.unusedVariables false
set_option linter.unusedSimpArgs false

/-! ### codec_Decode: function 28 -/
--ALONE
def endP (b : List Int) (e : Int) : Int := if e = 0 then (if 0 < b.length then 12 else 0) else e
def codec_Decode.f (k : Nat) (l0 : List Int) : Option (Int × Int × List Int × List S43 × Int) :=
 if l0.length ≤ 1048576 then (valueP k l0 0 16).bind fun r => if endP r.2.1 r.2.2 = 0 then some (r.1.f0, r.1.f1, r.1.f2, r.1.f3, 0) else some (0, 0, [], [], endP r.2.1 r.2.2) else some (0, 0, [], [], 3)
theorem codec_Decode.mono : ∀ a0 k, LeO (codec_Decode.f k a0) (codec_Decode.f (k + 1) a0) := by
 intro a0 k
 unfold codec_Decode.f
 exact LeO.ite (LeO.bind (valueP_mono _ _ _ _) fun _ => LeO.refl _) (LeO.refl _)
theorem fin_dec {w w1 : World} {A2 A3 : Option Addr} {c2 c3 : Nat} {v : S43} {b1 : List Int} {e1 : Int}
  (hv2 : Kd.R (Kd.int .u8) 5 w1 w.heap.size (fun k => w.heap.size + 2 ≤ k) (.slice A2 v.f2.length c2) v.f2) (hv3 : Kd.R k43 43 w1 w.heap.size (fun k => w.heap.size + 2 ≤ k) (.slice A3 v.f3.length c3) v.f3)
  (hdis : Value.slice A2 v.f2.length c2 = .slice none 0 0 ∨ Value.slice A3 v.f3.length c3 = .slice none 0 0) (K1 : V4 w.heap.size w1 (.int .i64 0) (.int .i64 0) (.slice none 0 0) (.slice none 0 0)) (hR1 : Rd w w1 (w.heap.size + 1) b1 e1) :
  ∃ v2_ v3_ : Value, Ending.returned (.tuple #[.agg #[.int .i64 v.f0, .int .i64 v.f1, .slice A2 v.f2.length c2, .slice A3 v.f3.length c3], .int .i64 0]) = .returned (.tuple #[.agg #[.int .i64 v.f0, .int .i64 v.f1, v2_, v3_], .int .i64 0]) ∧
   Kd.R (Kd.int .u8) 5 (((((w1.alloc (.cells #[.int .i64 v.f0, .int .i64 v.f1, .slice A2 v.f2.length c2, .slice A3 v.f3.length c3] 43)).setCell ⟨w.heap.size, 0, none⟩ (.int .i64 v.f0)).setCell ⟨w.heap.size, 1, none⟩ (.int .i64 v.f1)).setCell ⟨w.heap.size, 2, none⟩ (.slice A2 v.f2.length c2)).setCell ⟨w.heap.size, 3, none⟩ (.slice A3 v.f3.length c3)) w.heap.size (fun _ => True) v2_ v.f2 ∧
   Kd.R k43 43 (((((w1.alloc (.cells #[.int .i64 v.f0, .int .i64 v.f1, .slice A2 v.f2.length c2, .slice A3 v.f3.length c3] 43)).setCell ⟨w.heap.size, 0, none⟩ (.int .i64 v.f0)).setCell ⟨w.heap.size, 1, none⟩ (.int .i64 v.f1)).setCell ⟨w.heap.size, 2, none⟩ (.slice A2 v.f2.length c2)).setCell ⟨w.heap.size, 3, none⟩ (.slice A3 v.f3.length c3)) w.heap.size (fun k_ => some k_ ≠ (v2_ : Value).ownBlock) v3_ v.f3 ∧
   Below w.heap.size w (((((w1.alloc (.cells #[.int .i64 v.f0, .int .i64 v.f1, .slice A2 v.f2.length c2, .slice A3 v.f3.length c3] 43)).setCell ⟨w.heap.size, 0, none⟩ (.int .i64 v.f0)).setCell ⟨w.heap.size, 1, none⟩ (.int .i64 v.f1)).setCell ⟨w.heap.size, 2, none⟩ (.slice A2 v.f2.length c2)).setCell ⟨w.heap.size, 3, none⟩ (.slice A3 v.f3.length c3)) := by
 have hb := hR1.below.alloc hR1.below.size (.cells #[.int .i64 v.f0, .int .i64 v.f1, .slice A2 v.f2.length c2, .slice A3 v.f3.length c3] 43)
 refine ⟨_, _, rfl, Kd.R_mono (far4 (Kd.R_alloc hv2 _) (fun k hk => by omega) _ _ _ _) (fun k hk => trivial), ?_, put4_below hb (Nat.le_refl _) _ _ _ _⟩
 have h3 := far4 (gb := w.heap.size) (Kd.R_alloc hv3 (.cells #[.int .i64 v.f0, .int .i64 v.f1, .slice A2 v.f2.length c2, .slice A3 v.f3.length c3] 43)) (fun k hk => by omega) (.int .i64 v.f0) (.int .i64 v.f1) (.slice A2 v.f2.length c2) (.slice A3 v.f3.length c3)
 rcases hdis with h | h
 ·refine Kd.R_mono h3 (fun k hk => ?_)
  rw [h]
  exact fun e => by cases e
 ·rw [h] at h3 ⊢
  have hn : v.f3 = [] := by
   have hz : v.f3.length = 0 := by injection h
   exact List.eq_nil_of_length_eq_zero hz
  rw [hn]
  exact Kd.R_nil _ _ _ _ _
set_option maxHeartbeats 8000000 in
set_option maxRecDepth 100000 in
theorem codec_Decode.calls (k : Nat) (A0 : Option Addr) (c0 : Nat) (l0 : List Int) (r1 r2 : Int) (r3 : List Int) (r4 : List S43) (r5 : Int) (w : World) (hr0 : Kd.C (Kd.int .u8) w A0 l0.length l0) (hc0 : l0.length ≤ c0)
  (h : codec_Decode.f k l0 = some (r1, r2, r3, r4, r5)) :
  Calls Tryd.prog 28 #[.slice A0 l0.length c0] w fun e w' => ∃ v2_ v3_ : Value, e = .returned (.tuple #[.agg #[.int .i64 r1, .int .i64 r2, v2_, v3_], .int .i64 r5]) ∧ Kd.R (Kd.int .u8) 5 w' w.heap.size (fun _ => True) v2_ r3 ∧ Kd.R k43 43 w' w.heap.size (fun k_ => some k_ ≠ (v2_ : Value).ownBlock) v3_ r4 ∧ Below w.heap.size w w' := by
 unfold codec_Decode.f at h
 have H0 := Aside0.mk hr0
 have D0 := Aside0.mk hc0
 clear hr0 hc0
 by_cases hl : l0.length ≤ 1048576
 ·rw [if_pos hl] at h
  obtain ⟨⟨v, b1, e1⟩, hv, h⟩ := Option.bind_eq_some_iff.1 h
  have V' := Aside0.mk hv
  have H' := Aside0.mk h
  have p0 : decide ((l0.length : Int) > 1048576) = false := decide_eq_false (by omega)
  have p1 : decide (1048576 < l0.length) = false := decide_eq_false (by omega)
  clear hl hv h
  go_enter Tryd.func28, Tryd.ntmps28
  go_wp2_with fail
  have hRd : Rd w ((w.alloc (.cells #[.int .i64 0, .int .i64 0, .slice none 0 0, .slice none 0 0] 43)).alloc (.cells #[.slice A0 l0.length c0, .int .i64 0] 67)) (w.heap.size + 1) l0 0 :=
   ⟨Nat.le_succ _, ((Below.refl _ w).alloc (Nat.le_refl _) _).alloc (by rw [size_new]; exact Nat.le_succ _) _, A0, c0, by rw [← size_new w]; exact Array.getElem?_push_size, H0.out, D0.out⟩
  refine (value_any w (w.heap.size + 1) k _ l0 0 16 v b1 e1 hRd V'.out).mono ?_
  rintro en w1 ⟨v2, v3, rfl, hv2, hv3, hdis, hR1, hg1⟩
  obtain ⟨A2, c2, rfl⟩ := Kd.R_slice hv2
  obtain ⟨A3, c3, rfl⟩ := Kd.R_slice hv3
  have e0 : ((w.alloc (.cells #[.int .i64 0, .int .i64 0, .slice none 0 0, .slice none 0 0] 43)).alloc (.cells #[.slice A0 l0.length c0, .int .i64 0] 67)).heap.size = w.heap.size + 2 := by rw [size_new, size_new]
  rw [e0] at hv2 hv3
  have ne1 : w.heap.size + 1 ≠ w.heap.size := Nat.succ_ne_self _
  have K1 : V4 w.heap.size w1 (.int .i64 0) (.int .i64 0) (.slice none 0 0) (.slice none 0 0) := v4_grown (blk_alloc (show (w.alloc _).heap[w.heap.size]? = some _ from Array.getElem?_push_size) _) hg1 ne1
  obtain ⟨Ab, cb, hb, _, _⟩ := hR1.blk
  have g1 := blk_lt hb
  have g0 := blk_lt K1
  have FIN := Aside0.mk (fin_dec (w := w) (w1 := w1) (A2 := A2) (A3 := A3) (c2 := c2) (c3 := c3) (v := v) hv2 hv3 hdis K1 hR1)
  have Q' : V4 w1.heap.size (w1.alloc (.cells #[.int .i64 v.f0, .int .i64 v.f1, .slice A2 v.f2.length c2, .slice A3 v.f3.length c3] 43)) _ _ _ _ := Array.getElem?_push_size
  have b5 := blk_alloc hb (.cells #[.int .i64 v.f0, .int .i64 v.f1, .slice A2 v.f2.length c2, .slice A3 v.f3.length c3] 43)
  have K5 := blk_alloc K1 (.cells #[.int .i64 v.f0, .int .i64 v.f1, .slice A2 v.f2.length c2, .slice A3 v.f3.length c3] 43)
  have N1 := Aside0.mk ne1
  have HB := Aside0.mk (hR1.below.alloc hR1.below.size (.cells #[.int .i64 v.f0, .int .i64 v.f1, .slice A2 v.f2.length c2, .slice A3 v.f3.length c3] 43))
  clear hR1 hv2 hv3 hdis hg1 hRd hb K1 e0 ne1
  go_upto_region 5 with (fail)
  generalize hw2 : w1.alloc _ = w2
  rw [hw2] at FIN Q' b5 K5 HB
  obtain ⟨d0, d1, d2, d3, z0, z1, z2, z3⟩ := v4_cells K5
  obtain ⟨x0, x1, x2, x3, y0, y1, y2, y3⟩ := v4_cells Q'
  have q0 := (blk_cell b5 0).trans rfl
  have q1 := (blk_cell b5 1).trans rfl
  have qz := blk_frozen b5 1
  have b5' := Aside0.mk b5
  have K5' := Aside0.mk (show V4 w.heap.size w2 _ _ _ _ from K5)
  clear hw2 K5 Q' b5
  generalize w1.heap.size = gq at *
  have H1 := H'.out
  by_cases he : e1 = 0
  ·subst he
   by_cases hb0 : 0 < b1.length
   ·rw [show endP b1 0 = 12 by simp [endP, hb0], if_neg (by decide)] at H1
    simp only [Option.some.injEq, Prod.mk.injEq] at H1
    obtain ⟨rfl, rfl, rfl, rfl, rfl⟩ := H1
    have t1 : decide ((b1.length : Int) > 0) = true := decide_eq_true (by omega)
    have t3 : decide (0 < b1.length) = true := decide_eq_true hb0
    clear H' V' H0 D0
    go_wp2_with fail
    generalize hw3 : w2.setCell _ _ = w3
    have K3 := Aside0.mk (show V4 w.heap.size w3 (.int .i64 0) (.int .i64 0) (.slice none 0 0) (.slice none 0 0) by rw [← hw3]; exact blk_far K5'.out (p := ⟨w.heap.size + 1, 1, none⟩) N1.out.symm _)
    have B3 := Aside0.mk (show Below w.heap.size w w3 by rw [← hw3]; exact HB.out.setCell (Nat.le_succ _) _)
    have b3 := blk_set b5'.out 1 (.int .i64 12)
    rw [hw3] at b3
    have r1 := (blk_cell b3 1).trans rfl
    have rz := blk_frozen b3 1
    clear d0 d1 d2 d3 z0 z1 z2 z3 x0 x1 x2 x3 y0 y1 y2 y3 q0 q1 qz hw3 b3
    obtain ⟨d0, d1, d2, d3, z0, z1, z2, z3⟩ := v4_cells K3.out
    go_region
    all_goals
     go_wp2
     refine bodyPost_ret (results_ct rfl _ _ w.heap.size 43 #[.int .i64 0, .int .i64 0, .slice none 0 0, .slice none 0 0] (0, 0) _ rfl (put4 (show V4 _ _ _ _ _ _ from K3.out) _ _ _ _) Tryd.underlying43 rfl (by kernel_rfl)) rfl ?_
     exact ⟨_, _, rfl, Kd.R_nil _ _ _ _ _, Kd.R_nil _ _ _ _ _, put4_below B3.out.drew (Nat.le_refl _) _ _ _ _⟩
   ·rw [show endP b1 0 = 0 by simp [endP, hb0], if_pos rfl] at H1
    simp only [Option.some.injEq, Prod.mk.injEq] at H1
    obtain ⟨rfl, rfl, rfl, rfl, rfl⟩ := H1
    have t1 : decide ((b1.length : Int) > 0) = false := decide_eq_false (by omega)
    have t3 : decide (0 < b1.length) = false := decide_eq_false hb0
    clear H' V' H0 D0
    go_wp2
    refine bodyPost_ret (results_ct rfl _ _ w.heap.size 43 #[.int .i64 v.f0, .int .i64 v.f1, .slice A2 v.f2.length c2, .slice A3 v.f3.length c3] (0, 0) _ rfl (put4 K5'.out _ _ _ _) Tryd.underlying43 rfl (by kernel_rfl)) rfl ?_
    exact FIN.out
  ·rw [show endP b1 e1 = e1 from if_neg he, if_neg he] at H1
   simp only [Option.some.injEq, Prod.mk.injEq] at H1
   obtain ⟨rfl, rfl, rfl, rfl, rfl⟩ := H1
   have t1 : (e1 == 0) = false := beq_eq_false_iff_ne.2 he
   have t2 : (e1 != 0) = true := by simp [he]
   clear H' V' H0 D0
   go_wp2_with fail
   clear x0 x1 x2 x3 y0 y1 y2 y3 q0
   go_region
   all_goals
    go_wp2
    refine bodyPost_ret (results_ct rfl _ _ w.heap.size 43 #[.int .i64 0, .int .i64 0, .slice none 0 0, .slice none 0 0] (0, 0) _ rfl (put4 (show V4 _ _ _ _ _ _ from K5'.out) _ _ _ _) Tryd.underlying43 rfl (by kernel_rfl)) rfl ?_
    exact ⟨_, _, rfl, Kd.R_nil _ _ _ _ _, Kd.R_nil _ _ _ _ _, put4_below HB.out.drew (Nat.le_refl _) _ _ _ _⟩
 ·rw [if_neg hl] at h
  simp only [Option.some.injEq, Prod.mk.injEq] at h
  obtain ⟨rfl, rfl, rfl, rfl, rfl⟩ := h
  have p0 : decide ((l0.length : Int) > 1048576) = true := decide_eq_true (by omega)
  have p1 : decide (1048576 < l0.length) = true := decide_eq_true (by omega)
  clear hl
  go_enter Tryd.func28, Tryd.ntmps28
  go_wp2
  refine bodyPost_ret (results_ct rfl _ _ w.heap.size 43 #[.int .i64 0, .int .i64 0, .slice none 0 0, .slice none 0 0] (0, 0) _ rfl (Array.getElem?_push_size) Tryd.underlying43 rfl (by kernel_rfl)) rfl ?_
  exact ⟨_, _, rfl, Kd.R_nil _ _ _ _ _, Kd.R_nil _ _ _ _ _, (Below.refl _ w).alloc (Nat.le_refl _) _⟩


end Go.Proofs.YtiibnfnjfmcggaaDoor.PCallReads
