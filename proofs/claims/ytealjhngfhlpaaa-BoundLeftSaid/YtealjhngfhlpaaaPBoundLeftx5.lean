-- Written by drive.py of this work: the kit's print.py with contracts of this work laid in.
import Derived.Test.YtealjhngfhlpaaaPBoundLeftx0
import Derived.Test.YtealjhngfhlpaaaPBoundLeftx1
import Derived.Test.YtealjhngfhlpaaaPBoundLeftx3
import Derived.Test.YtealjhngfhlpaaaPBoundLeftx4
namespace Go.Proofs.Ytealjhngfhlpaaa.PBoundLeft
open Go.RowKit Go.Proofs.YtealjhngfhlpaaaW.PrintWords Go.Proofs.YtealjhngfhlpaaaW.PrintLast Go.Proofs.YtealjhngfhlpaaaW.PrintMore
attribute [local go_sem] max2_int min2_int max_two min_two max_three min_three max_four min_four   -- for this text's walks alone
set_option linter.unusedVariables false
set_option linter.unusedSimpArgs false

/-! ### bastillelaw33_BoundLeft: function 4 -/
--ALONE
def smallF (l : List S45) : Bool := decide (l.length ≤ 1000000) && l.all fun f => decide (f.f4.length ≤ 1000000) && f.f4.all fun x => decide (x.f1.length ≤ 1000000)
theorem smallF_of {l : List S45} (h : smallF l = true) : l.length ≤ 1000000 ∧ ∀ f ∈ l, f.f4.length ≤ 1000000 ∧ ∀ x ∈ f.f4, x.f1.length ≤ 1000000 := by
  simp only [smallF, Bool.and_eq_true, decide_eq_true_eq, List.all_eq_true] at h
  exact ⟨h.1, fun f hf => ⟨(h.2 f hf).1, fun x hx => (h.2 f hf).2 x hx⟩⟩
def bastillelaw33_BoundLeft.f (k : Nat) (a0_0 : Int) (l0_1 : List (S101)) (l0_2 : List (S103)) (l0_3 : List (S45)) (a1 : Int) (a2 : Int) : Option Bool :=
  (bastillelaw33_awake.f k).bind fun t => if t = true then (bastillelaw32_Few.f k a0_0 l0_1 l0_2 l0_3).bind fun u => if u = true then
    (if l0_3.length = 0 then some true else if (rd_T45 l0_3 ((0 : Nat) : Int)).f4.length = 0 then some true else if a1 > 1048576 then some true else
      (bound_Left.f k a0_0 l0_1 l0_2 l0_3 (wrap64 a1) (wrap64 a2)).bind fun n => (bound_Fits.f k a0_0 l0_1 l0_2 l0_3 (wrap64 a1) (wrap64 a2)).bind fun e =>
        if e = 0 then (if 0 ≤ n then (if n ≤ 2000 then (if smallF l0_3 = true then
          (bound_Fits.f k 0 l0_1 l0_2 (moreF n.toNat l0_3) (wrap64 a1) (wrap64 a2)).bind fun e1 => if e1 = 0 then
            (bound_Fits.f k 0 l0_1 l0_2 (moreF (n.toNat + 1) l0_3) (wrap64 a1) (wrap64 a2)).bind fun e2 => if e2 = 0 then none else some true
          else none else none) else none) else none)
        else (if n = 0 then some true else none))
    else some true else none
theorem bastillelaw33_BoundLeft.mono : ∀ a0 a1 a2 a3 a4 a5 k, LeO (bastillelaw33_BoundLeft.f k a0 a1 a2 a3 a4 a5) (bastillelaw33_BoundLeft.f (k + 1) a0 a1 a2 a3 a4 a5) := by
  intro a0 a1 a2 a3 a4 a5 k
  unfold bastillelaw33_BoundLeft.f
  exact LeO.bind (bastillelaw33_awake.mono _) fun _ => LeO.ite (LeO.bind (bastillelaw32_Few.mono _ _ _ _ _) fun _ => LeO.ite (LeO.ite (LeO.refl _) (LeO.ite (LeO.refl _) (LeO.ite (LeO.refl _) (LeO.bind (bound_Left.mono _ _ _ _ _ _ _) fun _ => LeO.bind (bound_Fits.mono _ _ _ _ _ _ _) fun _ =>
    LeO.ite (LeO.ite (LeO.ite (LeO.ite (LeO.bind (bound_Fits.mono _ _ _ _ _ _ _) fun _ => LeO.ite (LeO.bind (bound_Fits.mono _ _ _ _ _ _ _) fun _ => LeO.ite (LeO.refl _) (LeO.refl _)) (LeO.refl _)) (LeO.refl _)) (LeO.refl _)) (LeO.refl _)) (LeO.ite (LeO.refl _) (LeO.refl _)))))) (LeO.refl _)) (LeO.refl _)
theorem fits_len (k : Nat) (A1 : Option Addr) (c1 : Nat) (l1 : List S101) (A2 : Option Addr) (c2 : Nat) (l2 : List S103) (A : Option Addr) (c n : Nat) (xs : List S45) (q r e : Int) (w : World) (h1 : Kd.C k101 w A1 l1.length l1) (g1 : l1.length ≤ c1) (h2 : Kd.C k103 w A2 l2.length l2) (g2 : l2.length ≤ c2) (hl : xs.length = n) (h3 : Kd.C k45 w A n xs) (g3 : n ≤ c) (h : bound_Fits.f k 0 l1 l2 xs q r = some e) :
    Calls Try.prog 23 #[.agg #[.int .i64 0, .slice A1 l1.length c1, .slice A2 l2.length c2, .slice A n c], .int .i64 q, .int .i64 r] w fun en w' => en = .returned (.int .i64 e) ∧ Below w.heap.size w w' := by
  subst hl
  exact bound_Fits.calls k 0 A1 c1 l1 A2 c2 l2 A c xs q r e w h1 g1 h2 g2 h3 g3 h
set_option maxHeartbeats 4000000 in
set_option maxRecDepth 100000 in
theorem bastillelaw33_BoundLeft.calls (k : Nat) (a0_0 : Int) (A0_1 : Option Addr) (c0_1 : Nat) (l0_1 : List (S101)) (A0_2 : Option Addr) (c0_2 : Nat) (l0_2 : List (S103)) (A0_3 : Option Addr) (c0_3 : Nat) (l0_3 : List (S45)) (a1 : Int) (a2 : Int) (r : Bool) (w : World) (hr0_1 : Kd.C k101 w A0_1 l0_1.length l0_1) (hc0_1 : l0_1.length ≤ c0_1) (hr0_2 : Kd.C k103 w A0_2 l0_2.length l0_2) (hc0_2 : l0_2.length ≤ c0_2) (hr0_3 : Kd.C k45 w A0_3 l0_3.length l0_3) (hc0_3 : l0_3.length ≤ c0_3) (h : bastillelaw33_BoundLeft.f k a0_0 l0_1 l0_2 l0_3 a1 a2 = some r) :
    Calls Try.prog 4 #[.agg #[.int .i64 a0_0, .slice A0_1 l0_1.length c0_1, .slice A0_2 l0_2.length c0_2, .slice A0_3 l0_3.length c0_3], .int .u32 a1, .int .u16 a2] w fun e w' => e = .returned (.bool r) ∧ Below w.heap.size w w' := by
  have H := Aside0.mk h
  clear h
  have h1 := H.out
  unfold bastillelaw33_BoundLeft.f at h1
  obtain ⟨t, ht, h2⟩ := Option.bind_eq_some_iff.1 h1
  clear H h1
  by_cases c1 : t = true
  · subst c1
    rw [if_pos rfl] at h2
    obtain ⟨u, hu, h3⟩ := Option.bind_eq_some_iff.1 h2
    have HT := Aside0.mk ht
    have HU := Aside0.mk hu
    have H := Aside0.mk h3
    have R1 := Aside0.mk hr0_1
    have R2 := Aside0.mk hr0_2
    have R3 := Aside0.mk hr0_3
    have L1 := Aside0.mk hc0_1
    have L2 := Aside0.mk hc0_2
    have L3 := Aside0.mk hc0_3
    clear ht hu h2 h3 hr0_1 hr0_2 hr0_3 hc0_1 hc0_2 hc0_3
    go_enter Try.func4, Try.ntmps4
    go_wp2_with fail
    refine (bastillelaw33_awake.calls k true _ HT.out).mono ?_
    rintro e w1 ⟨rfl, hb⟩
    have HB1 := Aside0.mk (((Below.refl _ w).alloc (Nat.le_refl _) (.cells #[.int .i64 a0_0, .slice A0_1 l0_1.length c0_1, .slice A0_2 l0_2.length c0_2, .slice A0_3 l0_3.length c0_3] 35)).trans (hb.mono (by rw [msize]; exact Nat.le_succ _)))
    have K1 := Aside0.mk (show B4 w1 w.heap.size _ _ _ _ from (hb.block _ (by rw [msize]; exact Nat.lt_succ_self _)).trans Array.getElem?_push_size)
    obtain ⟨x0, x1, x2, x3, _, _, _, _⟩ := b4_cells K1.out
    clear hb
    go_wp2_with fail
    refine (bastillelaw32_Few.calls k a0_0 A0_1 c0_1 l0_1 A0_2 c0_2 l0_2 A0_3 c0_3 l0_3 u w1 (Kd.C_below R1.out HB1.out) L1.out (Kd.C_below R2.out HB1.out) L2.out (Kd.C_below R3.out HB1.out) L3.out HU.out).mono ?_
    rintro e w2 ⟨rfl, hb⟩
    have HB2 := Aside0.mk (HB1.out.trans (hb.mono HB1.out.size))
    have K2 := Aside0.mk (show B4 w2 w.heap.size _ _ _ _ from (hb.block _ (blk_lt K1.out)).trans K1.out)
    clear x0 x1 x2 x3
    obtain ⟨x0, x1, x2, x3, _, _, _, _⟩ := b4_cells K2.out
    have H1 := H.out
    clear hb HB1 K1 HT HU H
    by_cases c2 : u = true
    · subst c2
      rw [if_pos rfl] at H1
      by_cases c3 : l0_3.length = 0
      · rw [if_pos c3] at H1
        cases H1
        have p1 : ((l0_3.length : Int) == 0) = true := beq_iff_eq.2 (by omega)
        have p2 : (l0_3.length == 0) = true := beq_iff_eq.2 c3
        clear c3
        go_wp2
        go_ret
        exact ⟨rfl, HB2.out⟩
      · rw [if_neg c3] at H1
        have p1 : ((l0_3.length : Int) == 0) = false := beq_eq_false_iff_ne.2 (by omega)
        have p2 : (l0_3.length == 0) = false := beq_eq_false_iff_ne.2 c3
        have p3 : 0 < l0_3.length := by omega
        obtain ⟨ad, B2, e2, B3, e3, BI, e4, B5, e5, B6, e6, rfl, h0, h1, h2, h3, h4', h5, h6, _, _, _⟩ := at_F45 (more_F (Kd.C_F k45_heap R3.out) HB2.out) 0 p3
        have h4 : w2.cell? ⟨ad.block, ad.off + 4, none⟩ = some (.slice BI (rd_T45 l0_3 ((0 : Nat) : Int)).f4.length e4) := by simpa [Addr.add] using h4'
        clear c3 h0 h1 h2 h3 h4' h5 h6
        by_cases c4 : (rd_T45 l0_3 ((0 : Nat) : Int)).f4.length = 0
        · rw [if_pos c4] at H1
          cases H1
          have p4 : (((rd_T45 l0_3 ((0 : Nat) : Int)).f4.length : Int) == 0) = true := beq_iff_eq.2 (by omega)
          have p5 : ((rd_T45 l0_3 ((0 : Nat) : Int)).f4.length == 0) = true := beq_iff_eq.2 c4
          generalize (rd_T45 l0_3 ((0 : Nat) : Int)).f4.length = q4 at *
          clear c4
          go_wp2
          go_ret
          exact ⟨rfl, HB2.out⟩
        · rw [if_neg c4] at H1
          have p4 : (((rd_T45 l0_3 ((0 : Nat) : Int)).f4.length : Int) == 0) = false := beq_eq_false_iff_ne.2 (by omega)
          have p5 : ((rd_T45 l0_3 ((0 : Nat) : Int)).f4.length == 0) = false := beq_eq_false_iff_ne.2 c4
          generalize (rd_T45 l0_3 ((0 : Nat) : Int)).f4.length = q4 at *
          clear c4
          by_cases c5 : a1 > 1048576
          · rw [if_pos c5] at H1
            cases H1
            have p6 : decide (a1 > 1048576) = true := decide_eq_true c5
            have p7 : decide (1048576 < a1) = true := decide_eq_true c5
            clear c5
            go_wp2
            go_ret
            exact ⟨rfl, HB2.out⟩
          · rw [if_neg c5] at H1
            have p6 : decide (a1 > 1048576) = false := decide_eq_false c5
            have p7 : decide (1048576 < a1) = false := decide_eq_false c5
            obtain ⟨n, hn, H2⟩ := Option.bind_eq_some_iff.1 H1
            obtain ⟨e0, he, H3⟩ := Option.bind_eq_some_iff.1 H2
            have N' := Aside0.mk hn
            have E' := Aside0.mk he
            have H := Aside0.mk H3
            clear c5 hn he H1 H2 H3
            go_wp2_with fail
            refine (bound_Left.calls k a0_0 A0_1 c0_1 l0_1 A0_2 c0_2 l0_2 (some ad) c0_3 l0_3 (wrap64 a1) (wrap64 a2) n w2 (Kd.C_below R1.out HB2.out) L1.out (Kd.C_below R2.out HB2.out) L2.out (Kd.C_below R3.out HB2.out) L3.out N'.out).mono ?_
            rintro e w3 ⟨rfl, hb⟩
            have HB3 := Aside0.mk (HB2.out.trans (hb.mono HB2.out.size))
            have K3 := Aside0.mk (show B4 w3 w.heap.size _ _ _ _ from (hb.block _ (blk_lt K2.out)).trans K2.out)
            clear x0 x1 x2 x3
            obtain ⟨x0, x1, x2, x3, _, _, _, _⟩ := b4_cells K3.out
            clear hb
            go_wp2_with fail
            refine (bound_Fits.calls k a0_0 A0_1 c0_1 l0_1 A0_2 c0_2 l0_2 (some ad) c0_3 l0_3 (wrap64 a1) (wrap64 a2) e0 w3 (Kd.C_below R1.out HB3.out) L1.out (Kd.C_below R2.out HB3.out) L2.out (Kd.C_below R3.out HB3.out) L3.out E'.out).mono ?_
            rintro e w4 ⟨rfl, hb⟩
            have HB4 := Aside0.mk (HB3.out.trans (hb.mono HB3.out.size))
            have K4 := Aside0.mk (show B4 w4 w.heap.size _ _ _ _ from (hb.block _ (blk_lt K3.out)).trans K3.out)
            clear x0 x1 x2 x3
            obtain ⟨x0, x1, x2, x3, _, _, _, _⟩ := b4_cells K4.out
            clear hb
            have H1 := H.out
            clear H N' E' HB2 HB3 K2 K3
            by_cases d1 : e0 = 0
            · subst d1
              rw [if_pos rfl] at H1
              by_cases d2 : 0 ≤ n
              · rw [if_pos d2] at H1
                by_cases d3 : n ≤ 2000
                · rw [if_pos d3] at H1
                  by_cases d4 : smallF l0_3 = true
                  · rw [if_pos d4] at H1
                    obtain ⟨m, rfl⟩ := Int.eq_ofNat_of_zero_le d2
                    rw [Int.toNat_natCast] at H1
                    obtain ⟨e1, he1, H2⟩ := Option.bind_eq_some_iff.1 H1
                    by_cases d5 : e1 = 0
                    · rw [if_pos d5] at H2
                      obtain ⟨e2', he2, H3⟩ := Option.bind_eq_some_iff.1 H2
                      by_cases d6 : e2' = 0
                      · rw [if_pos d6] at H3
                        cases H3
                      · rw [if_neg d6] at H3
                        cases H3
                        subst d5
                        obtain ⟨s1, s2⟩ := smallF_of d4
                        have M1 := Aside0.mk (more_calls a0_0 A0_1 l0_1.length c0_1 A0_2 l0_2.length c0_2 (some ad) c0_3 l0_3 m w4 (Kd.C_below R3.out HB4.out) L3.out s1 s2 (by omega))
                        have M2 := Aside0.mk (fun (W : World) (hB : Below w.heap.size w W) => more_calls a0_0 A0_1 l0_1.length c0_1 A0_2 l0_2.length c0_2 (some ad) c0_3 l0_3 (m + 1) W (Kd.C_below R3.out hB) L3.out s1 s2 (by omega))
                        have F1 := Aside0.mk he1
                        have F2 := Aside0.mk he2
                        have q1 : decide ((m : Int) ≥ 0) = true := decide_eq_true (by omega)
                        have q2 : decide ((m : Int) ≤ 2000) = true := decide_eq_true (by omega)
                        have q3 : (e2' == 0) = false := beq_eq_false_iff_ne.2 d6
                        have q4' : (e2' != 0) = true := by simp [d6]
                        have q5 : (m : Int) ≤ 2000 := d3
                        clear he1 he2 d3 d4 d6 s1 s2 H1 H2 d2
                        go_wp2_with fail
                        refine M1.out.mono ?_
                        rintro e w5 ⟨A, c, rfl, hc, hC, hb⟩
                        have C5 := Aside0.mk hC
                        have D5 := Aside0.mk hc
                        have HB5 := Aside0.mk (HB4.out.trans (hb.mono HB4.out.size))
                        have K5 := Aside0.mk (show B4 w5 w.heap.size _ _ _ _ from (hb.block _ (blk_lt K4.out)).trans K4.out)
                        clear x0 x1 x2 x3
                        obtain ⟨x0, x1, x2, x3, _, _, _, _⟩ := b4_cells K5.out
                        clear hb
                        clear hC hc
                        go_wp2_with fail
                        refine (fits_len k A0_1 c0_1 l0_1 A0_2 c0_2 l0_2 A c l0_3.length (moreF m l0_3) (wrap64 a1) (wrap64 a2) 0 w5 (Kd.C_below R1.out HB5.out) L1.out (Kd.C_below R2.out HB5.out) L2.out (moreF_len m l0_3) C5.out D5.out F1.out).mono ?_
                        rintro e w6 ⟨rfl, hb⟩
                        have HB6 := Aside0.mk (HB5.out.trans (hb.mono HB5.out.size))
                        have K6 := Aside0.mk (show B4 w6 w.heap.size _ _ _ _ from (hb.block _ (blk_lt K5.out)).trans K5.out)
                        clear x0 x1 x2 x3
                        obtain ⟨x0, x1, x2, x3, _, _, _, _⟩ := b4_cells K6.out
                        clear hb
                        clear C5 D5
                        go_wp2_with fail
                        have M3 := M2.out w6 HB6.out
                        rw [show ((m + 1 : Nat) : Int) = (m : Int) + 1 by omega] at M3
                        refine M3.mono ?_
                        rintro e w7 ⟨A, c, rfl, hc, hC, hb⟩
                        have C5 := Aside0.mk hC
                        have D5 := Aside0.mk hc
                        have HB7 := Aside0.mk (HB6.out.trans (hb.mono HB6.out.size))
                        have K7 := Aside0.mk (show B4 w7 w.heap.size _ _ _ _ from (hb.block _ (blk_lt K6.out)).trans K6.out)
                        clear x0 x1 x2 x3
                        obtain ⟨x0, x1, x2, x3, _, _, _, _⟩ := b4_cells K7.out
                        clear hb
                        clear hC hc M3
                        go_wp2_with fail
                        refine (fits_len k A0_1 c0_1 l0_1 A0_2 c0_2 l0_2 A c l0_3.length (moreF (m + 1) l0_3) (wrap64 a1) (wrap64 a2) e2' w7 (Kd.C_below R1.out HB7.out) L1.out (Kd.C_below R2.out HB7.out) L2.out (moreF_len (m + 1) l0_3) C5.out D5.out F2.out).mono ?_
                        rintro e w8 ⟨rfl, hb⟩
                        have HB8 := Aside0.mk (HB7.out.trans (hb.mono HB7.out.size))
                        have K8 := Aside0.mk (show B4 w8 w.heap.size _ _ _ _ from (hb.block _ (blk_lt K7.out)).trans K7.out)
                        clear x0 x1 x2 x3
                        obtain ⟨x0, x1, x2, x3, _, _, _, _⟩ := b4_cells K8.out
                        clear hb
                        go_wp2
                        go_ret
                        exact ⟨rfl, HB8.out⟩
                    · rw [if_neg d5] at H2
                      cases H2
                  · rw [if_neg d4] at H1
                    cases H1
                · rw [if_neg d3] at H1
                  cases H1
              · rw [if_neg d2] at H1
                cases H1
            · rw [if_neg d1] at H1
              have q1 : (e0 == 0) = false := beq_eq_false_iff_ne.2 d1
              have q2 : (e0 != 0) = true := by simp [d1]
              by_cases d2 : n = 0
              · rw [if_pos d2] at H1
                cases H1
                subst d2
                clear d1
                go_wp2
                go_ret
                exact ⟨rfl, HB4.out⟩
              · rw [if_neg d2] at H1
                cases H1
    · have c2' : u = false := by cases u <;> simp_all
      subst c2'
      rw [if_neg (by decide)] at H1
      cases H1
      clear c2
      go_wp2
      go_ret
      exact ⟨rfl, HB2.out⟩
  · rw [if_neg c1] at h2
    cases h2


end Go.Proofs.Ytealjhngfhlpaaa.PBoundLeft
