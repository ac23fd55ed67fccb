-- Written by drive.py of this work: the kit's print.py with contracts of this work laid in.
import Derived.Test.YtiibnfnjfmcggaaDoorPCallReadsx0
import Derived.Test.YtiibnfnjfmcggaaDoorPCallReadsx8
import Derived.Test.YtiibnfnjfmcggaaDoorPCallReadsx10
import Derived.Test.YtiibnfnjfmcggaaDoorPCallReadsx11
namespace Go.Proofs.YtiibnfnjfmcggaaDoor.PCallReads
open Go.RowKit Go.Proofs.YtiibnfnjfmcggaaDoorW.PrintWords Go.Proofs.YtiibnfnjfmcggaaDoorW.PrintLast Go.Proofs.YtiibnfnjfmcggaaDoorW.PrintMore
attribute [local go_sem] max2_int min2_int max_two min_two max_three min_three max_four min_four   -- for this text's walks alone
set_option linter.unusedVariables false
set_option linter.unusedSimpArgs false

/-! ### bastilleref30_Bytes: function 16 -/
--ALONE
set_option maxHeartbeats 4000000 in
set_option maxRecDepth 100000 in
theorem bytes30_any (kk : Nat) (k : Int) (u f n o : ByteArray) (ro ve : Int) (A7 : Option Addr) (c7 : Nat) (l7 : List Int) (bs : List Int) (w : World) (hu : u.size ≤ 9223372036854775807) (hf : f.size ≤ 9223372036854775807) (hn : n.size ≤ 9223372036854775807) (ho : o.size ≤ 9223372036854775807) (h7 : Kd.C (Kd.int .u8) w A7 l7.length l7) (l7c : l7.length ≤ c7)
  (he : bastilleref02_Bytes.f kk 3 0 [] (row8 k u f n o ro ve l7) = some bs) :
  Calls Tryd.prog 16 #[.agg #[.int .i64 k, .string u, .string f, .string n, .string o, .int .i64 ro, .int .i64 ve, .slice A7 l7.length c7]] w fun e w' => ∃ v0, e = .returned v0 ∧ Kd.R (Kd.int .u8) 5 w' w.heap.size (fun _ => True) v0 bs ∧ Below w.heap.size w w' := by
 have HU := Aside0.mk hu
 have HF := Aside0.mk hf
 have HN := Aside0.mk hn
 have HO := Aside0.mk ho
 have L7 := Aside0.mk l7c
 have HE := Aside0.mk he
 have FF0 := Aside0.mk (show WS w k u f n o ro ve A7 c7 l7 _ from ⟨(Below.refl _ w).alloc (Nat.le_refl _) (.cells #[.int .i64 k, .string u, .string f, .string n, .string o, .int .i64 ro, .int .i64 ve, .slice A7 l7.length c7] 24), Array.getElem?_push_size, Kd.C_below h7 (below_alloc (Below.refl _ _) _)⟩)
 clear hu hf hn ho l7c he h7
 have FF := Aside0.mk (FF0.out.step (below_drew (Below.refl _ _)))
 clear FF0
 go_enter Tryd.func16, Tryd.ntmps16
 go_upto_region 1 with (fail)
 refine start_ (n := 32) (S := fun w' => True) (ds := []) #[false, false, false, false, false, false, false, false, false, false, false, false, false, false, false, false, false, false, false, false, false, false, false, false, false, false, false, false, false, false, false, false] (by kernel_rfl) rfl rfl trivial (fun hHeld => ?_)
 refine with_tabW ref30_Bytes.tab1 ref30_Bytes.bits1 (fun HT_ HW_ => ?_)
 generalize World.drew _ = wd at FF ⊢
 refine pure_ (i := 0) (N := some 3) (v := ?_) (a' := ?_) #[true, false, false, false, false, false, false, false, false, false, false, false, false, false, false, false, false, false, false, false, false, false, false, false, false, false, false, false, false, false, false, false] rfl rfl (any_of HT_.out (by kernel_rfl)) (fun _ _ _ h => h) (Or.inl ⟨by rfl, ?_⟩) ?_ ?_
 rotate_left
 ·intro w'
  go_simp
  with_reducible rfl
 rotate_left
 ·simp only [Act.put, List.setIfInBounds_toArray, List.set_cons_zero, List.set_cons_succ, i64_w, i32_w]
  rfl
 refine pure_ (i := 3) (N := some 6) (v := ?_) (a' := ?_) #[true, false, false, true, false, false, false, false, false, false, false, false, false, false, false, false, false, false, false, false, false, false, false, false, false, false, false, false, false, false, false, false] rfl rfl (any_of HT_.out (by kernel_rfl)) (fun _ _ _ h => h) (Or.inl ⟨by rfl, ?_⟩) ?_ ?_
 rotate_left
 ·intro w'
  go_simp
  with_reducible rfl
 rotate_left
 ·simp only [Act.put, List.setIfInBounds_toArray, List.set_cons_zero, List.set_cons_succ, i64_w, i32_w]
  rfl
 refine pure_ (i := 7) (N := some 10) (v := ?_) (a' := ?_) #[true, false, false, true, false, false, false, true, false, false, false, false, false, false, false, false, false, false, false, false, false, false, false, false, false, false, false, false, false, false, false, false] rfl rfl (any_of HT_.out (by kernel_rfl)) (fun _ _ _ h => h) (Or.inl ⟨by rfl, ?_⟩) ?_ ?_
 rotate_left
 ·intro w'
  go_simp
  with_reducible rfl
 rotate_left
 ·simp only [Act.put, List.setIfInBounds_toArray, List.set_cons_zero, List.set_cons_succ, i64_w, i32_w]
  rfl
 refine pure_ (i := 11) (N := some 14) (v := ?_) (a' := ?_) #[true, false, false, true, false, false, false, true, false, false, false, true, false, false, false, false, false, false, false, false, false, false, false, false, false, false, false, false, false, false, false, false] rfl rfl (any_of HT_.out (by kernel_rfl)) (fun _ _ _ h => h) (Or.inl ⟨by rfl, ?_⟩) ?_ ?_
 rotate_left
 ·intro w'
  go_simp
  with_reducible rfl
 rotate_left
 ·simp only [Act.put, List.setIfInBounds_toArray, List.set_cons_zero, List.set_cons_succ, i64_w, i32_w]
  rfl
 refine pure_ (i := 15) (N := some 18) (v := ?_) (a' := ?_) #[true, false, false, true, false, false, false, true, false, false, false, true, false, false, false, true, false, false, false, false, false, false, false, false, false, false, false, false, false, false, false, false] rfl rfl (any_of HT_.out (by kernel_rfl)) (fun _ _ _ h => h) (Or.inl ⟨by rfl, ?_⟩) ?_ ?_
 rotate_left
 ·intro w'
  go_simp
  with_reducible rfl
 rotate_left
 ·simp only [Act.put, List.setIfInBounds_toArray, List.set_cons_zero, List.set_cons_succ, i64_w, i32_w]
  rfl
 refine pure_ (i := 19) (N := some 22) (v := ?_) (a' := ?_) #[true, false, false, true, false, false, false, true, false, false, false, true, false, false, false, true, false, false, false, true, false, false, false, false, false, false, false, false, false, false, false, false] rfl rfl (any_of HT_.out (by kernel_rfl)) (fun _ _ _ h => h) (Or.inl ⟨by rfl, ?_⟩) ?_ ?_
 rotate_left
 ·intro w'
  go_simp
  with_reducible rfl
 rotate_left
 ·simp only [Act.put, List.setIfInBounds_toArray, List.set_cons_zero, List.set_cons_succ, i64_w, i32_w]
  rfl
 refine pure_ (i := 22) (N := some 25) (v := ?_) (a' := ?_) #[true, false, false, true, false, false, false, true, false, false, false, true, false, false, false, true, false, false, false, true, false, false, true, false, false, false, false, false, false, false, false, false] rfl rfl (any_of HT_.out (by kernel_rfl)) (fun _ _ _ h => h) (Or.inl ⟨by rfl, ?_⟩) ?_ ?_
 rotate_left
 ·intro w'
  go_simp
  with_reducible rfl
 rotate_left
 ·simp only [Act.put, List.setIfInBounds_toArray, List.set_cons_zero, List.set_cons_succ, i64_w, i32_w]
  rfl
 refine pure_ (i := 25) (N := some 28) (v := ?_) (a' := ?_) #[true, false, false, true, false, false, false, true, false, false, false, true, false, false, false, true, false, false, false, true, false, false, true, false, false, true, false, false, false, false, false, false] rfl rfl (any_of HT_.out (by kernel_rfl)) (fun _ _ _ h => h) (Or.inl ⟨by rfl, ?_⟩) ?_ ?_
 rotate_left
 ·intro w'
  go_simp
  with_reducible rfl
 rotate_left
 ·simp only [Act.put, List.setIfInBounds_toArray, List.set_cons_zero, List.set_cons_succ, i64_w, i32_w]
  rfl
 refine inv_at [1, 2, 4, 5, 6, 8, 9, 10, 12, 13, 14, 16, 17, 18, 20, 21, 23, 24, 26, 27, 28, 29, 30, 31] (fun a0_ b a w' => ∃ (g1_ : Nat) (g2_ : Nat) (g3_ : Nat) (g4_ : Nat) (g8_ : Nat) (c1_ : Nat) (c2_ : Nat) (c3_ : Nat) (c4_ : Nat) (v0_ : Value) (m5_ : Value) (m6_ : Value) (m9_ : Value) (m10_ : Value) (m13_ : Value) (m14_ : Value) (m17_ : Value) (m18_ : Value) (m28_ : Value) (m29_ : Value) (m31_ : Value), a = putSel a0_ b [(1, 4, .int .i64 k), (2, 5, .agg #[.int .i64 1, .int .i64 k, .slice none 0 0, .slice none 0 0]), (4, 7, .string u), (5, 8, m5_), (6, 9, m6_), (8, 11, .string f), (9, 12, m9_), (10, 13, m10_), (12, 15, .string n), (13, 16, m13_), (14, 17, m14_), (16, 19, .string o), (17, 20, m17_), (18, 21, m18_), (20, 23, .int .i64 ro), (21, 24, .agg #[.int .i64 1, .int .i64 ro, .slice none 0 0, .slice none 0 0]), (23, 26, .int .i64 ve), (24, 27, .agg #[.int .i64 1, .int .i64 ve, .slice none 0 0, .slice none 0 0]), (26, 29, .slice A7 l7.length c7), (27, 30, .agg #[.int .i64 2, .int .i64 0, .slice A7 l7.length c7, .slice none 0 0]), (28, 31, m28_), (29, 32, m29_), (30, 33, v0_), (31, 2, m31_)] ∧ (WS w k u f n o ro ve A7 c7 l7 w') ∧ (b 5 = true → Kd.C (Kd.int .u8) w' (some ⟨g1_, 0, none⟩) (bytesOf u).length (bytesOf u)) ∧ (b 5 = true → (bytesOf u).length ≤ c1_) ∧ (b 9 = true → Kd.C (Kd.int .u8) w' (some ⟨g2_, 0, none⟩) (bytesOf f).length (bytesOf f)) ∧ (b 9 = true → (bytesOf f).length ≤ c2_) ∧ (b 13 = true → Kd.C (Kd.int .u8) w' (some ⟨g3_, 0, none⟩) (bytesOf n).length (bytesOf n)) ∧ (b 13 = true → (bytesOf n).length ≤ c3_) ∧ (b 17 = true → Kd.C (Kd.int .u8) w' (some ⟨g4_, 0, none⟩) (bytesOf o).length (bytesOf o)) ∧ (b 17 = true → (bytesOf o).length ≤ c4_) ∧ (b 5 = true → b 9 = true → b 13 = true → b 17 = true → b 28 = true → w'.heap[g8_]? = some (.cells #[.int .i64 1, .int .i64 k, .slice none 0 0, .slice none 0 0, .int .i64 2, .int .i64 0, .slice (some ⟨g1_, 0, none⟩) (bytesOf u).length c1_, .slice none 0 0, .int .i64 2, .int .i64 0, .slice (some ⟨g2_, 0, none⟩) (bytesOf f).length c2_, .slice none 0 0, .int .i64 2, .int .i64 0, .slice (some ⟨g3_, 0, none⟩) (bytesOf n).length c3_, .slice none 0 0, .int .i64 2, .int .i64 0, .slice (some ⟨g4_, 0, none⟩) (bytesOf o).length c4_, .slice none 0 0, .int .i64 1, .int .i64 ro, .slice none 0 0, .slice none 0 0, .int .i64 1, .int .i64 ve, .slice none 0 0, .slice none 0 0, .int .i64 2, .int .i64 0, .slice A7 l7.length c7, .slice none 0 0] 43 (0, 0))) ∧ (b 30 = true → Kd.R (Kd.int .u8) 5 w' w.heap.size (fun _ => True) v0_ bs) ∧ (b 5 = true → (m5_ : Value) = .slice (some ⟨g1_, 0, none⟩) (bytesOf u).length c1_) ∧ (b 6 = true → (m6_ : Value) = .agg #[.int .i64 2, .int .i64 0, .slice (some ⟨g1_, 0, none⟩) (bytesOf u).length c1_, .slice none 0 0]) ∧ (b 9 = true → (m9_ : Value) = .slice (some ⟨g2_, 0, none⟩) (bytesOf f).length c2_) ∧ (b 10 = true → (m10_ : Value) = .agg #[.int .i64 2, .int .i64 0, .slice (some ⟨g2_, 0, none⟩) (bytesOf f).length c2_, .slice none 0 0]) ∧ (b 13 = true → (m13_ : Value) = .slice (some ⟨g3_, 0, none⟩) (bytesOf n).length c3_) ∧ (b 14 = true → (m14_ : Value) = .agg #[.int .i64 2, .int .i64 0, .slice (some ⟨g3_, 0, none⟩) (bytesOf n).length c3_, .slice none 0 0]) ∧ (b 17 = true → (m17_ : Value) = .slice (some ⟨g4_, 0, none⟩) (bytesOf o).length c4_) ∧ (b 18 = true → (m18_ : Value) = .agg #[.int .i64 2, .int .i64 0, .slice (some ⟨g4_, 0, none⟩) (bytesOf o).length c4_, .slice none 0 0]) ∧ (b 28 = true → (m28_ : Value) = .slice (some ⟨g8_, 0, none⟩) 8 8) ∧ (b 29 = true → (m29_ : Value) = .agg #[.int .i64 3, .int .i64 0, .slice none 0 0, .slice (some ⟨g8_, 0, none⟩) 8 8]) ∧ (b 31 = true → (m31_ : Value) = v0_)) HT_.out HW_.out (by kernel_rfl) (by kernel_rfl) ?_ ?_ ?_
 ·exact ⟨0, 0, 0, 0, 0, 0, 0, 0, 0, .bool false, .bool false, .bool false, .bool false, .bool false, .bool false, .bool false, .bool false, .bool false, .bool false, .bool false, .bool false, by simp only [putSel, Bool.false_eq_true, if_false], FF.out, fun h_ => absurd h_ (by decide), fun h_ => absurd h_ (by decide), fun h_ => absurd h_ (by decide), fun h_ => absurd h_ (by decide), fun h_ => absurd h_ (by decide), fun h_ => absurd h_ (by decide), fun h_ => absurd h_ (by decide), fun h_ => absurd h_ (by decide), fun h_ => absurd h_ (by decide), fun h_ => absurd h_ (by decide), fun h_ => absurd h_ (by decide), fun h_ => absurd h_ (by decide), fun h_ => absurd h_ (by decide), fun h_ => absurd h_ (by decide), fun h_ => absurd h_ (by decide), fun h_ => absurd h_ (by decide), fun h_ => absurd h_ (by decide), fun h_ => absurd h_ (by decide), fun h_ => absurd h_ (by decide), fun h_ => absurd h_ (by decide), fun h_ => absurd h_ (by decide)⟩
 ·skip
  clear FF
  refine steps_cons ?_ ?_
  ·rintro b a w' ⟨g1_, g2_, g3_, g4_, g8_, c1_, c2_, c3_, c4_, v0_, m5_, m6_, m9_, m10_, m13_, m14_, m17_, m18_, m28_, m29_, m31_, ha, Q_FF, Q_C1, Q_S1, Q_C2, Q_S2, Q_C3, Q_S3, Q_C4, Q_S4, Q_G8, Q_HR, Q_X5_, Q_X6_, Q_X9_, Q_X10_, Q_X13_, Q_X14_, Q_X17_, Q_X18_, Q_X28_, Q_X29_, Q_X31_⟩ hb_ hon hoff
   refine ⟨_, rfl, fun K hK => ?_⟩
   have e3 : a.tmps[3]? = some (.pointer (some ⟨w.heap.size, 0, none⟩)) := by rw [ha]; exact (putSel_off rfl).trans rfl
   replace ha := Aside0.mk ha
   have FF := Aside0.mk Q_FF
   have y := (blk_cell FF.out.bx 0).trans rfl
   refine value_ (w1 := w') (v := .int .i64 k) (by rfl) rfl ?_ ?_
   ·go_simp
    (try simp only [i64_w])
    try rfl
   refine hK.out _ _ ⟨g1_, g2_, g3_, g4_, g8_, c1_, c2_, c3_, c4_, v0_, m5_, m6_, m9_, m10_, m13_, m14_, m17_, m18_, m28_, m29_, m31_, (by rw [ha.out]; exact putSel_upk 0 hb_ rfl rfl rfl), Q_FF, Q_C1, Q_S1, Q_C2, Q_S2, Q_C3, Q_S3, Q_C4, Q_S4, fun _ _ _ _ h4_ => absurd ((hoff 28 (by kernel_rfl)).symm.trans h4_) (by decide), fun h0_ => absurd ((hoff 30 (by kernel_rfl)).symm.trans h0_) (by decide), Q_X5_, fun h0_ => absurd ((hoff 6 (by kernel_rfl)).symm.trans h0_) (by decide), Q_X9_, fun h0_ => absurd ((hoff 10 (by kernel_rfl)).symm.trans h0_) (by decide), Q_X13_, fun h0_ => absurd ((hoff 14 (by kernel_rfl)).symm.trans h0_) (by decide), Q_X17_, fun h0_ => absurd ((hoff 18 (by kernel_rfl)).symm.trans h0_) (by decide), fun h0_ => absurd ((hoff 28 (by kernel_rfl)).symm.trans h0_) (by decide), fun h0_ => absurd ((hoff 29 (by kernel_rfl)).symm.trans h0_) (by decide), fun h0_ => absurd ((hoff 31 (by kernel_rfl)).symm.trans h0_) (by decide)⟩
  refine steps_cons ?_ ?_
  ·rintro b a w' ⟨g1_, g2_, g3_, g4_, g8_, c1_, c2_, c3_, c4_, v0_, m5_, m6_, m9_, m10_, m13_, m14_, m17_, m18_, m28_, m29_, m31_, ha, Q_FF, Q_C1, Q_S1, Q_C2, Q_S2, Q_C3, Q_S3, Q_C4, Q_S4, Q_G8, Q_HR, Q_X5_, Q_X6_, Q_X9_, Q_X10_, Q_X13_, Q_X14_, Q_X17_, Q_X18_, Q_X28_, Q_X29_, Q_X31_⟩ hb_ hon hoff
   refine ⟨_, rfl, fun K hK => ?_⟩
   have e4 : a.tmps[4]? = some (.int .i64 k) := by rw [ha]; exact putSel_on (e := (1, 4, .int .i64 k)) 0 rfl rfl (hon 1 (by kernel_rfl)) rfl
   replace ha := Aside0.mk ha
   have FF := Aside0.mk Q_FF
   refine goes_ Tryd.func32 (by kernel_rfl) rfl #[.int .i64 k] (by rfl) rfl rfl (by first | (simp only [List.map_toArray, List.map_cons, List.map_nil, Act.eval, Array.getD_eq_getD_getElem?, Option.getD_some, e4]; done) | (simp only [List.map_toArray, List.map_cons, List.map_nil, Act.eval, Array.getD_eq_getD_getElem?, Option.getD_some, e4]; rfl)) ?_
   with_reducible refine (num28 _ _).mono ?_
   rintro e w1_ ⟨rfl, hb⟩
   refine ⟨_, rfl, ?_⟩
   refine hK.out _ _ ⟨g1_, g2_, g3_, g4_, g8_, c1_, c2_, c3_, c4_, v0_, m5_, m6_, m9_, m10_, m13_, m14_, m17_, m18_, m28_, m29_, m31_, (by rw [ha.out]; exact putSel_upk 1 hb_ rfl rfl rfl), FF.out.step hb, fun h0_ => Kd.C_below (Q_C1 h0_) hb, Q_S1, fun h0_ => Kd.C_below (Q_C2 h0_) hb, Q_S2, fun h0_ => Kd.C_below (Q_C3 h0_) hb, Q_S3, fun h0_ => Kd.C_below (Q_C4 h0_) hb, Q_S4, fun _ _ _ _ h4_ => absurd ((hoff 28 (by kernel_rfl)).symm.trans h4_) (by decide), fun h0_ => absurd ((hoff 30 (by kernel_rfl)).symm.trans h0_) (by decide), Q_X5_, fun h0_ => absurd ((hoff 6 (by kernel_rfl)).symm.trans h0_) (by decide), Q_X9_, fun h0_ => absurd ((hoff 10 (by kernel_rfl)).symm.trans h0_) (by decide), Q_X13_, fun h0_ => absurd ((hoff 14 (by kernel_rfl)).symm.trans h0_) (by decide), Q_X17_, fun h0_ => absurd ((hoff 18 (by kernel_rfl)).symm.trans h0_) (by decide), fun h0_ => absurd ((hoff 28 (by kernel_rfl)).symm.trans h0_) (by decide), fun h0_ => absurd ((hoff 29 (by kernel_rfl)).symm.trans h0_) (by decide), fun h0_ => absurd ((hoff 31 (by kernel_rfl)).symm.trans h0_) (by decide)⟩
  refine steps_cons ?_ ?_
  ·rintro b a w' ⟨g1_, g2_, g3_, g4_, g8_, c1_, c2_, c3_, c4_, v0_, m5_, m6_, m9_, m10_, m13_, m14_, m17_, m18_, m28_, m29_, m31_, ha, Q_FF, Q_C1, Q_S1, Q_C2, Q_S2, Q_C3, Q_S3, Q_C4, Q_S4, Q_G8, Q_HR, Q_X5_, Q_X6_, Q_X9_, Q_X10_, Q_X13_, Q_X14_, Q_X17_, Q_X18_, Q_X28_, Q_X29_, Q_X31_⟩ hb_ hon hoff
   refine ⟨_, rfl, fun K hK => ?_⟩
   have e6 : a.tmps[6]? = some (.pointer (some ⟨w.heap.size, 1, none⟩)) := by rw [ha]; exact (putSel_off rfl).trans rfl
   replace ha := Aside0.mk ha
   have FF := Aside0.mk Q_FF
   have y := (blk_cell FF.out.bx 1).trans rfl
   refine value_ (w1 := w') (v := .string u) (by rfl) rfl ?_ ?_
   ·go_simp
    (try simp only [i64_w])
    try rfl
   refine hK.out _ _ ⟨g1_, g2_, g3_, g4_, g8_, c1_, c2_, c3_, c4_, v0_, m5_, m6_, m9_, m10_, m13_, m14_, m17_, m18_, m28_, m29_, m31_, (by rw [ha.out]; exact putSel_upk 2 hb_ rfl rfl rfl), Q_FF, fun h0_ => absurd ((hoff 5 (by kernel_rfl)).symm.trans h0_) (by decide), fun h0_ => absurd ((hoff 5 (by kernel_rfl)).symm.trans h0_) (by decide), Q_C2, Q_S2, Q_C3, Q_S3, Q_C4, Q_S4, fun h0_ _ _ _ _ => absurd ((hoff 5 (by kernel_rfl)).symm.trans h0_) (by decide), fun h0_ => absurd ((hoff 30 (by kernel_rfl)).symm.trans h0_) (by decide), fun h0_ => absurd ((hoff 5 (by kernel_rfl)).symm.trans h0_) (by decide), fun h0_ => absurd ((hoff 6 (by kernel_rfl)).symm.trans h0_) (by decide), Q_X9_, fun h0_ => absurd ((hoff 10 (by kernel_rfl)).symm.trans h0_) (by decide), Q_X13_, fun h0_ => absurd ((hoff 14 (by kernel_rfl)).symm.trans h0_) (by decide), Q_X17_, fun h0_ => absurd ((hoff 18 (by kernel_rfl)).symm.trans h0_) (by decide), fun h0_ => absurd ((hoff 28 (by kernel_rfl)).symm.trans h0_) (by decide), fun h0_ => absurd ((hoff 29 (by kernel_rfl)).symm.trans h0_) (by decide), fun h0_ => absurd ((hoff 31 (by kernel_rfl)).symm.trans h0_) (by decide)⟩
  refine steps_cons ?_ ?_
  ·rintro b a w' ⟨g1_, g2_, g3_, g4_, g8_, c1_, c2_, c3_, c4_, v0_, m5_, m6_, m9_, m10_, m13_, m14_, m17_, m18_, m28_, m29_, m31_, ha, Q_FF, Q_C1, Q_S1, Q_C2, Q_S2, Q_C3, Q_S3, Q_C4, Q_S4, Q_G8, Q_HR, Q_X5_, Q_X6_, Q_X9_, Q_X10_, Q_X13_, Q_X14_, Q_X17_, Q_X18_, Q_X28_, Q_X29_, Q_X31_⟩ hb_ hon hoff
   refine ⟨_, rfl, fun K hK => ?_⟩
   have e7 : a.tmps[7]? = some (.string u) := by rw [ha]; exact putSel_on (e := (4, 7, .string u)) 2 rfl rfl (hon 4 (by kernel_rfl)) rfl
   replace ha := Aside0.mk ha
   have FF := Aside0.mk Q_FF
   obtain ⟨w9, c9, hw9, hs, hc, hb⟩ := conv_any u HU.out w'
   refine event_step (w1 := w9) (v := .slice (some ⟨w'.heap.size, 0, none⟩) (bytesOf u).length c9) (by rfl) ?_ ?_
   ·first | (go_simp; done) | (go_simp; rfl)
   refine hK.out _ _ ⟨w'.heap.size, g2_, g3_, g4_, g8_, c9, c2_, c3_, c4_, v0_, (.slice (some ⟨w'.heap.size, 0, none⟩) (bytesOf u).length c9), m6_, m9_, m10_, m13_, m14_, m17_, m18_, m28_, m29_, m31_, (by rw [ha.out]; exact putSel_upk 3 hb_ rfl rfl rfl), FF.out.step hb, fun _ => hc, fun _ => hs, fun h0_ => Kd.C_below (Q_C2 h0_) hb, Q_S2, fun h0_ => Kd.C_below (Q_C3 h0_) hb, Q_S3, fun h0_ => Kd.C_below (Q_C4 h0_) hb, Q_S4, fun _ _ _ _ h4_ => absurd ((hoff 28 (by kernel_rfl)).symm.trans h4_) (by decide), fun h0_ => absurd ((hoff 30 (by kernel_rfl)).symm.trans h0_) (by decide), fun _ => rfl, fun h0_ => absurd ((hoff 6 (by kernel_rfl)).symm.trans h0_) (by decide), Q_X9_, fun h0_ => absurd ((hoff 10 (by kernel_rfl)).symm.trans h0_) (by decide), Q_X13_, fun h0_ => absurd ((hoff 14 (by kernel_rfl)).symm.trans h0_) (by decide), Q_X17_, fun h0_ => absurd ((hoff 18 (by kernel_rfl)).symm.trans h0_) (by decide), fun h0_ => absurd ((hoff 28 (by kernel_rfl)).symm.trans h0_) (by decide), fun h0_ => absurd ((hoff 29 (by kernel_rfl)).symm.trans h0_) (by decide), fun h0_ => absurd ((hoff 31 (by kernel_rfl)).symm.trans h0_) (by decide)⟩
  refine steps_cons ?_ ?_
  ·rintro b a w' ⟨g1_, g2_, g3_, g4_, g8_, c1_, c2_, c3_, c4_, v0_, m5_, m6_, m9_, m10_, m13_, m14_, m17_, m18_, m28_, m29_, m31_, ha, Q_FF, Q_C1, Q_S1, Q_C2, Q_S2, Q_C3, Q_S3, Q_C4, Q_S4, Q_G8, Q_HR, Q_X5_, Q_X6_, Q_X9_, Q_X10_, Q_X13_, Q_X14_, Q_X17_, Q_X18_, Q_X28_, Q_X29_, Q_X31_⟩ hb_ hon hoff
   refine ⟨_, rfl, fun K hK => ?_⟩
   have e8 : a.tmps[8]? = some (m5_) := by rw [ha]; exact putSel_on (e := (5, 8, m5_)) 3 rfl rfl (hon 5 (by kernel_rfl)) rfl
   rw [Q_X5_ (hon 5 (by kernel_rfl))] at e8
   replace ha := Aside0.mk ha
   have FF := Aside0.mk Q_FF
   have C1 := Aside0.mk (Q_C1 (hon 5 (by kernel_rfl)))
   have S1 := Aside0.mk (Q_S1 (hon 5 (by kernel_rfl)))
   refine goes_ Tryd.func33 (by kernel_rfl) rfl #[.slice (some ⟨g1_, 0, none⟩) (bytesOf u).length c1_] (by rfl) rfl rfl (by first | (simp only [List.map_toArray, List.map_cons, List.map_nil, Act.eval, Array.getD_eq_getD_getElem?, Option.getD_some, e8]; done) | (simp only [List.map_toArray, List.map_cons, List.map_nil, Act.eval, Array.getD_eq_getD_getElem?, Option.getD_some, e8]; rfl)) ?_
   with_reducible refine (raw28 _ _ _ _).mono ?_
   rintro e w1_ ⟨rfl, hb⟩
   refine ⟨_, rfl, ?_⟩
   refine hK.out _ _ ⟨g1_, g2_, g3_, g4_, g8_, c1_, c2_, c3_, c4_, v0_, m5_, (.agg #[.int .i64 2, .int .i64 0, .slice (some ⟨g1_, 0, none⟩) (bytesOf u).length c1_, .slice none 0 0]), m9_, m10_, m13_, m14_, m17_, m18_, m28_, m29_, m31_, (by rw [ha.out]; exact putSel_upk 4 hb_ rfl rfl rfl), FF.out.step hb, fun _ => Kd.C_below C1.out hb, Q_S1, fun h0_ => Kd.C_below (Q_C2 h0_) hb, Q_S2, fun h0_ => Kd.C_below (Q_C3 h0_) hb, Q_S3, fun h0_ => Kd.C_below (Q_C4 h0_) hb, Q_S4, fun _ _ _ _ h4_ => absurd ((hoff 28 (by kernel_rfl)).symm.trans h4_) (by decide), fun h0_ => absurd ((hoff 30 (by kernel_rfl)).symm.trans h0_) (by decide), Q_X5_, fun _ => rfl, Q_X9_, fun h0_ => absurd ((hoff 10 (by kernel_rfl)).symm.trans h0_) (by decide), Q_X13_, fun h0_ => absurd ((hoff 14 (by kernel_rfl)).symm.trans h0_) (by decide), Q_X17_, fun h0_ => absurd ((hoff 18 (by kernel_rfl)).symm.trans h0_) (by decide), fun h0_ => absurd ((hoff 28 (by kernel_rfl)).symm.trans h0_) (by decide), fun h0_ => absurd ((hoff 29 (by kernel_rfl)).symm.trans h0_) (by decide), fun h0_ => absurd ((hoff 31 (by kernel_rfl)).symm.trans h0_) (by decide)⟩
  refine steps_cons ?_ ?_
  ·rintro b a w' ⟨g1_, g2_, g3_, g4_, g8_, c1_, c2_, c3_, c4_, v0_, m5_, m6_, m9_, m10_, m13_, m14_, m17_, m18_, m28_, m29_, m31_, ha, Q_FF, Q_C1, Q_S1, Q_C2, Q_S2, Q_C3, Q_S3, Q_C4, Q_S4, Q_G8, Q_HR, Q_X5_, Q_X6_, Q_X9_, Q_X10_, Q_X13_, Q_X14_, Q_X17_, Q_X18_, Q_X28_, Q_X29_, Q_X31_⟩ hb_ hon hoff
   refine ⟨_, rfl, fun K hK => ?_⟩
   have e10 : a.tmps[10]? = some (.pointer (some ⟨w.heap.size, 2, none⟩)) := by rw [ha]; exact (putSel_off rfl).trans rfl
   replace ha := Aside0.mk ha
   have FF := Aside0.mk Q_FF
   have y := (blk_cell FF.out.bx 2).trans rfl
   refine value_ (w1 := w') (v := .string f) (by rfl) rfl ?_ ?_
   ·go_simp
    (try simp only [i64_w])
    try rfl
   refine hK.out _ _ ⟨g1_, g2_, g3_, g4_, g8_, c1_, c2_, c3_, c4_, v0_, m5_, m6_, m9_, m10_, m13_, m14_, m17_, m18_, m28_, m29_, m31_, (by rw [ha.out]; exact putSel_upk 5 hb_ rfl rfl rfl), Q_FF, Q_C1, Q_S1, fun h0_ => absurd ((hoff 9 (by kernel_rfl)).symm.trans h0_) (by decide), fun h0_ => absurd ((hoff 9 (by kernel_rfl)).symm.trans h0_) (by decide), Q_C3, Q_S3, Q_C4, Q_S4, fun _ h1_ _ _ _ => absurd ((hoff 9 (by kernel_rfl)).symm.trans h1_) (by decide), fun h0_ => absurd ((hoff 30 (by kernel_rfl)).symm.trans h0_) (by decide), Q_X5_, Q_X6_, fun h0_ => absurd ((hoff 9 (by kernel_rfl)).symm.trans h0_) (by decide), fun h0_ => absurd ((hoff 10 (by kernel_rfl)).symm.trans h0_) (by decide), Q_X13_, fun h0_ => absurd ((hoff 14 (by kernel_rfl)).symm.trans h0_) (by decide), Q_X17_, fun h0_ => absurd ((hoff 18 (by kernel_rfl)).symm.trans h0_) (by decide), fun h0_ => absurd ((hoff 28 (by kernel_rfl)).symm.trans h0_) (by decide), fun h0_ => absurd ((hoff 29 (by kernel_rfl)).symm.trans h0_) (by decide), fun h0_ => absurd ((hoff 31 (by kernel_rfl)).symm.trans h0_) (by decide)⟩
  refine steps_cons ?_ ?_
  ·rintro b a w' ⟨g1_, g2_, g3_, g4_, g8_, c1_, c2_, c3_, c4_, v0_, m5_, m6_, m9_, m10_, m13_, m14_, m17_, m18_, m28_, m29_, m31_, ha, Q_FF, Q_C1, Q_S1, Q_C2, Q_S2, Q_C3, Q_S3, Q_C4, Q_S4, Q_G8, Q_HR, Q_X5_, Q_X6_, Q_X9_, Q_X10_, Q_X13_, Q_X14_, Q_X17_, Q_X18_, Q_X28_, Q_X29_, Q_X31_⟩ hb_ hon hoff
   refine ⟨_, rfl, fun K hK => ?_⟩
   have e11 : a.tmps[11]? = some (.string f) := by rw [ha]; exact putSel_on (e := (8, 11, .string f)) 5 rfl rfl (hon 8 (by kernel_rfl)) rfl
   replace ha := Aside0.mk ha
   have FF := Aside0.mk Q_FF
   obtain ⟨w9, c9, hw9, hs, hc, hb⟩ := conv_any f HF.out w'
   refine event_step (w1 := w9) (v := .slice (some ⟨w'.heap.size, 0, none⟩) (bytesOf f).length c9) (by rfl) ?_ ?_
   ·first | (go_simp; done) | (go_simp; rfl)
   refine hK.out _ _ ⟨g1_, w'.heap.size, g3_, g4_, g8_, c1_, c9, c3_, c4_, v0_, m5_, m6_, (.slice (some ⟨w'.heap.size, 0, none⟩) (bytesOf f).length c9), m10_, m13_, m14_, m17_, m18_, m28_, m29_, m31_, (by rw [ha.out]; exact putSel_upk 6 hb_ rfl rfl rfl), FF.out.step hb, fun h0_ => Kd.C_below (Q_C1 h0_) hb, Q_S1, fun _ => hc, fun _ => hs, fun h0_ => Kd.C_below (Q_C3 h0_) hb, Q_S3, fun h0_ => Kd.C_below (Q_C4 h0_) hb, Q_S4, fun _ _ _ _ h4_ => absurd ((hoff 28 (by kernel_rfl)).symm.trans h4_) (by decide), fun h0_ => absurd ((hoff 30 (by kernel_rfl)).symm.trans h0_) (by decide), Q_X5_, Q_X6_, fun _ => rfl, fun h0_ => absurd ((hoff 10 (by kernel_rfl)).symm.trans h0_) (by decide), Q_X13_, fun h0_ => absurd ((hoff 14 (by kernel_rfl)).symm.trans h0_) (by decide), Q_X17_, fun h0_ => absurd ((hoff 18 (by kernel_rfl)).symm.trans h0_) (by decide), fun h0_ => absurd ((hoff 28 (by kernel_rfl)).symm.trans h0_) (by decide), fun h0_ => absurd ((hoff 29 (by kernel_rfl)).symm.trans h0_) (by decide), fun h0_ => absurd ((hoff 31 (by kernel_rfl)).symm.trans h0_) (by decide)⟩
  refine steps_cons ?_ ?_
  ·rintro b a w' ⟨g1_, g2_, g3_, g4_, g8_, c1_, c2_, c3_, c4_, v0_, m5_, m6_, m9_, m10_, m13_, m14_, m17_, m18_, m28_, m29_, m31_, ha, Q_FF, Q_C1, Q_S1, Q_C2, Q_S2, Q_C3, Q_S3, Q_C4, Q_S4, Q_G8, Q_HR, Q_X5_, Q_X6_, Q_X9_, Q_X10_, Q_X13_, Q_X14_, Q_X17_, Q_X18_, Q_X28_, Q_X29_, Q_X31_⟩ hb_ hon hoff
   refine ⟨_, rfl, fun K hK => ?_⟩
   have e12 : a.tmps[12]? = some (m9_) := by rw [ha]; exact putSel_on (e := (9, 12, m9_)) 6 rfl rfl (hon 9 (by kernel_rfl)) rfl
   rw [Q_X9_ (hon 9 (by kernel_rfl))] at e12
   replace ha := Aside0.mk ha
   have FF := Aside0.mk Q_FF
   have C1 := Aside0.mk (Q_C1 (hon 5 (by kernel_rfl)))
   have S1 := Aside0.mk (Q_S1 (hon 5 (by kernel_rfl)))
   have C2 := Aside0.mk (Q_C2 (hon 9 (by kernel_rfl)))
   have S2 := Aside0.mk (Q_S2 (hon 9 (by kernel_rfl)))
   refine goes_ Tryd.func33 (by kernel_rfl) rfl #[.slice (some ⟨g2_, 0, none⟩) (bytesOf f).length c2_] (by rfl) rfl rfl (by first | (simp only [List.map_toArray, List.map_cons, List.map_nil, Act.eval, Array.getD_eq_getD_getElem?, Option.getD_some, e12]; done) | (simp only [List.map_toArray, List.map_cons, List.map_nil, Act.eval, Array.getD_eq_getD_getElem?, Option.getD_some, e12]; rfl)) ?_
   with_reducible refine (raw28 _ _ _ _).mono ?_
   rintro e w1_ ⟨rfl, hb⟩
   refine ⟨_, rfl, ?_⟩
   refine hK.out _ _ ⟨g1_, g2_, g3_, g4_, g8_, c1_, c2_, c3_, c4_, v0_, m5_, m6_, m9_, (.agg #[.int .i64 2, .int .i64 0, .slice (some ⟨g2_, 0, none⟩) (bytesOf f).length c2_, .slice none 0 0]), m13_, m14_, m17_, m18_, m28_, m29_, m31_, (by rw [ha.out]; exact putSel_upk 7 hb_ rfl rfl rfl), FF.out.step hb, fun _ => Kd.C_below C1.out hb, Q_S1, fun _ => Kd.C_below C2.out hb, Q_S2, fun h0_ => Kd.C_below (Q_C3 h0_) hb, Q_S3, fun h0_ => Kd.C_below (Q_C4 h0_) hb, Q_S4, fun _ _ _ _ h4_ => absurd ((hoff 28 (by kernel_rfl)).symm.trans h4_) (by decide), fun h0_ => absurd ((hoff 30 (by kernel_rfl)).symm.trans h0_) (by decide), Q_X5_, Q_X6_, Q_X9_, fun _ => rfl, Q_X13_, fun h0_ => absurd ((hoff 14 (by kernel_rfl)).symm.trans h0_) (by decide), Q_X17_, fun h0_ => absurd ((hoff 18 (by kernel_rfl)).symm.trans h0_) (by decide), fun h0_ => absurd ((hoff 28 (by kernel_rfl)).symm.trans h0_) (by decide), fun h0_ => absurd ((hoff 29 (by kernel_rfl)).symm.trans h0_) (by decide), fun h0_ => absurd ((hoff 31 (by kernel_rfl)).symm.trans h0_) (by decide)⟩
  refine steps_cons ?_ ?_
  ·rintro b a w' ⟨g1_, g2_, g3_, g4_, g8_, c1_, c2_, c3_, c4_, v0_, m5_, m6_, m9_, m10_, m13_, m14_, m17_, m18_, m28_, m29_, m31_, ha, Q_FF, Q_C1, Q_S1, Q_C2, Q_S2, Q_C3, Q_S3, Q_C4, Q_S4, Q_G8, Q_HR, Q_X5_, Q_X6_, Q_X9_, Q_X10_, Q_X13_, Q_X14_, Q_X17_, Q_X18_, Q_X28_, Q_X29_, Q_X31_⟩ hb_ hon hoff
   refine ⟨_, rfl, fun K hK => ?_⟩
   have e14 : a.tmps[14]? = some (.pointer (some ⟨w.heap.size, 3, none⟩)) := by rw [ha]; exact (putSel_off rfl).trans rfl
   replace ha := Aside0.mk ha
   have FF := Aside0.mk Q_FF
   have y := (blk_cell FF.out.bx 3).trans rfl
   refine value_ (w1 := w') (v := .string n) (by rfl) rfl ?_ ?_
   ·go_simp
    (try simp only [i64_w])
    try rfl
   refine hK.out _ _ ⟨g1_, g2_, g3_, g4_, g8_, c1_, c2_, c3_, c4_, v0_, m5_, m6_, m9_, m10_, m13_, m14_, m17_, m18_, m28_, m29_, m31_, (by rw [ha.out]; exact putSel_upk 8 hb_ rfl rfl rfl), Q_FF, Q_C1, Q_S1, Q_C2, Q_S2, fun h0_ => absurd ((hoff 13 (by kernel_rfl)).symm.trans h0_) (by decide), fun h0_ => absurd ((hoff 13 (by kernel_rfl)).symm.trans h0_) (by decide), Q_C4, Q_S4, fun _ _ h2_ _ _ => absurd ((hoff 13 (by kernel_rfl)).symm.trans h2_) (by decide), fun h0_ => absurd ((hoff 30 (by kernel_rfl)).symm.trans h0_) (by decide), Q_X5_, Q_X6_, Q_X9_, Q_X10_, fun h0_ => absurd ((hoff 13 (by kernel_rfl)).symm.trans h0_) (by decide), fun h0_ => absurd ((hoff 14 (by kernel_rfl)).symm.trans h0_) (by decide), Q_X17_, fun h0_ => absurd ((hoff 18 (by kernel_rfl)).symm.trans h0_) (by decide), fun h0_ => absurd ((hoff 28 (by kernel_rfl)).symm.trans h0_) (by decide), fun h0_ => absurd ((hoff 29 (by kernel_rfl)).symm.trans h0_) (by decide), fun h0_ => absurd ((hoff 31 (by kernel_rfl)).symm.trans h0_) (by decide)⟩
  refine steps_cons ?_ ?_
  ·rintro b a w' ⟨g1_, g2_, g3_, g4_, g8_, c1_, c2_, c3_, c4_, v0_, m5_, m6_, m9_, m10_, m13_, m14_, m17_, m18_, m28_, m29_, m31_, ha, Q_FF, Q_C1, Q_S1, Q_C2, Q_S2, Q_C3, Q_S3, Q_C4, Q_S4, Q_G8, Q_HR, Q_X5_, Q_X6_, Q_X9_, Q_X10_, Q_X13_, Q_X14_, Q_X17_, Q_X18_, Q_X28_, Q_X29_, Q_X31_⟩ hb_ hon hoff
   refine ⟨_, rfl, fun K hK => ?_⟩
   have e15 : a.tmps[15]? = some (.string n) := by rw [ha]; exact putSel_on (e := (12, 15, .string n)) 8 rfl rfl (hon 12 (by kernel_rfl)) rfl
   replace ha := Aside0.mk ha
   have FF := Aside0.mk Q_FF
   obtain ⟨w9, c9, hw9, hs, hc, hb⟩ := conv_any n HN.out w'
   refine event_step (w1 := w9) (v := .slice (some ⟨w'.heap.size, 0, none⟩) (bytesOf n).length c9) (by rfl) ?_ ?_
   ·first | (go_simp; done) | (go_simp; rfl)
   refine hK.out _ _ ⟨g1_, g2_, w'.heap.size, g4_, g8_, c1_, c2_, c9, c4_, v0_, m5_, m6_, m9_, m10_, (.slice (some ⟨w'.heap.size, 0, none⟩) (bytesOf n).length c9), m14_, m17_, m18_, m28_, m29_, m31_, (by rw [ha.out]; exact putSel_upk 9 hb_ rfl rfl rfl), FF.out.step hb, fun h0_ => Kd.C_below (Q_C1 h0_) hb, Q_S1, fun h0_ => Kd.C_below (Q_C2 h0_) hb, Q_S2, fun _ => hc, fun _ => hs, fun h0_ => Kd.C_below (Q_C4 h0_) hb, Q_S4, fun _ _ _ _ h4_ => absurd ((hoff 28 (by kernel_rfl)).symm.trans h4_) (by decide), fun h0_ => absurd ((hoff 30 (by kernel_rfl)).symm.trans h0_) (by decide), Q_X5_, Q_X6_, Q_X9_, Q_X10_, fun _ => rfl, fun h0_ => absurd ((hoff 14 (by kernel_rfl)).symm.trans h0_) (by decide), Q_X17_, fun h0_ => absurd ((hoff 18 (by kernel_rfl)).symm.trans h0_) (by decide), fun h0_ => absurd ((hoff 28 (by kernel_rfl)).symm.trans h0_) (by decide), fun h0_ => absurd ((hoff 29 (by kernel_rfl)).symm.trans h0_) (by decide), fun h0_ => absurd ((hoff 31 (by kernel_rfl)).symm.trans h0_) (by decide)⟩
  refine steps_cons ?_ ?_
  ·rintro b a w' ⟨g1_, g2_, g3_, g4_, g8_, c1_, c2_, c3_, c4_, v0_, m5_, m6_, m9_, m10_, m13_, m14_, m17_, m18_, m28_, m29_, m31_, ha, Q_FF, Q_C1, Q_S1, Q_C2, Q_S2, Q_C3, Q_S3, Q_C4, Q_S4, Q_G8, Q_HR, Q_X5_, Q_X6_, Q_X9_, Q_X10_, Q_X13_, Q_X14_, Q_X17_, Q_X18_, Q_X28_, Q_X29_, Q_X31_⟩ hb_ hon hoff
   refine ⟨_, rfl, fun K hK => ?_⟩
   have e16 : a.tmps[16]? = some (m13_) := by rw [ha]; exact putSel_on (e := (13, 16, m13_)) 9 rfl rfl (hon 13 (by kernel_rfl)) rfl
   rw [Q_X13_ (hon 13 (by kernel_rfl))] at e16
   replace ha := Aside0.mk ha
   have FF := Aside0.mk Q_FF
   have C1 := Aside0.mk (Q_C1 (hon 5 (by kernel_rfl)))
   have S1 := Aside0.mk (Q_S1 (hon 5 (by kernel_rfl)))
   have C2 := Aside0.mk (Q_C2 (hon 9 (by kernel_rfl)))
   have S2 := Aside0.mk (Q_S2 (hon 9 (by kernel_rfl)))
   have C3 := Aside0.mk (Q_C3 (hon 13 (by kernel_rfl)))
   have S3 := Aside0.mk (Q_S3 (hon 13 (by kernel_rfl)))
   refine goes_ Tryd.func33 (by kernel_rfl) rfl #[.slice (some ⟨g3_, 0, none⟩) (bytesOf n).length c3_] (by rfl) rfl rfl (by first | (simp only [List.map_toArray, List.map_cons, List.map_nil, Act.eval, Array.getD_eq_getD_getElem?, Option.getD_some, e16]; done) | (simp only [List.map_toArray, List.map_cons, List.map_nil, Act.eval, Array.getD_eq_getD_getElem?, Option.getD_some, e16]; rfl)) ?_
   with_reducible refine (raw28 _ _ _ _).mono ?_
   rintro e w1_ ⟨rfl, hb⟩
   refine ⟨_, rfl, ?_⟩
   refine hK.out _ _ ⟨g1_, g2_, g3_, g4_, g8_, c1_, c2_, c3_, c4_, v0_, m5_, m6_, m9_, m10_, m13_, (.agg #[.int .i64 2, .int .i64 0, .slice (some ⟨g3_, 0, none⟩) (bytesOf n).length c3_, .slice none 0 0]), m17_, m18_, m28_, m29_, m31_, (by rw [ha.out]; exact putSel_upk 10 hb_ rfl rfl rfl), FF.out.step hb, fun _ => Kd.C_below C1.out hb, Q_S1, fun _ => Kd.C_below C2.out hb, Q_S2, fun _ => Kd.C_below C3.out hb, Q_S3, fun h0_ => Kd.C_below (Q_C4 h0_) hb, Q_S4, fun _ _ _ _ h4_ => absurd ((hoff 28 (by kernel_rfl)).symm.trans h4_) (by decide), fun h0_ => absurd ((hoff 30 (by kernel_rfl)).symm.trans h0_) (by decide), Q_X5_, Q_X6_, Q_X9_, Q_X10_, Q_X13_, fun _ => rfl, Q_X17_, fun h0_ => absurd ((hoff 18 (by kernel_rfl)).symm.trans h0_) (by decide), fun h0_ => absurd ((hoff 28 (by kernel_rfl)).symm.trans h0_) (by decide), fun h0_ => absurd ((hoff 29 (by kernel_rfl)).symm.trans h0_) (by decide), fun h0_ => absurd ((hoff 31 (by kernel_rfl)).symm.trans h0_) (by decide)⟩
  refine steps_cons ?_ ?_
  ·rintro b a w' ⟨g1_, g2_, g3_, g4_, g8_, c1_, c2_, c3_, c4_, v0_, m5_, m6_, m9_, m10_, m13_, m14_, m17_, m18_, m28_, m29_, m31_, ha, Q_FF, Q_C1, Q_S1, Q_C2, Q_S2, Q_C3, Q_S3, Q_C4, Q_S4, Q_G8, Q_HR, Q_X5_, Q_X6_, Q_X9_, Q_X10_, Q_X13_, Q_X14_, Q_X17_, Q_X18_, Q_X28_, Q_X29_, Q_X31_⟩ hb_ hon hoff
   refine ⟨_, rfl, fun K hK => ?_⟩
   have e18 : a.tmps[18]? = some (.pointer (some ⟨w.heap.size, 4, none⟩)) := by rw [ha]; exact (putSel_off rfl).trans rfl
   replace ha := Aside0.mk ha
   have FF := Aside0.mk Q_FF
   have y := (blk_cell FF.out.bx 4).trans rfl
   refine value_ (w1 := w') (v := .string o) (by rfl) rfl ?_ ?_
   ·go_simp
    (try simp only [i64_w])
    try rfl
   refine hK.out _ _ ⟨g1_, g2_, g3_, g4_, g8_, c1_, c2_, c3_, c4_, v0_, m5_, m6_, m9_, m10_, m13_, m14_, m17_, m18_, m28_, m29_, m31_, (by rw [ha.out]; exact putSel_upk 11 hb_ rfl rfl rfl), Q_FF, Q_C1, Q_S1, Q_C2, Q_S2, Q_C3, Q_S3, fun h0_ => absurd ((hoff 17 (by kernel_rfl)).symm.trans h0_) (by decide), fun h0_ => absurd ((hoff 17 (by kernel_rfl)).symm.trans h0_) (by decide), fun _ _ _ h3_ _ => absurd ((hoff 17 (by kernel_rfl)).symm.trans h3_) (by decide), fun h0_ => absurd ((hoff 30 (by kernel_rfl)).symm.trans h0_) (by decide), Q_X5_, Q_X6_, Q_X9_, Q_X10_, Q_X13_, Q_X14_, fun h0_ => absurd ((hoff 17 (by kernel_rfl)).symm.trans h0_) (by decide), fun h0_ => absurd ((hoff 18 (by kernel_rfl)).symm.trans h0_) (by decide), fun h0_ => absurd ((hoff 28 (by kernel_rfl)).symm.trans h0_) (by decide), fun h0_ => absurd ((hoff 29 (by kernel_rfl)).symm.trans h0_) (by decide), fun h0_ => absurd ((hoff 31 (by kernel_rfl)).symm.trans h0_) (by decide)⟩
  refine steps_cons ?_ ?_
  ·rintro b a w' ⟨g1_, g2_, g3_, g4_, g8_, c1_, c2_, c3_, c4_, v0_, m5_, m6_, m9_, m10_, m13_, m14_, m17_, m18_, m28_, m29_, m31_, ha, Q_FF, Q_C1, Q_S1, Q_C2, Q_S2, Q_C3, Q_S3, Q_C4, Q_S4, Q_G8, Q_HR, Q_X5_, Q_X6_, Q_X9_, Q_X10_, Q_X13_, Q_X14_, Q_X17_, Q_X18_, Q_X28_, Q_X29_, Q_X31_⟩ hb_ hon hoff
   refine ⟨_, rfl, fun K hK => ?_⟩
   have e19 : a.tmps[19]? = some (.string o) := by rw [ha]; exact putSel_on (e := (16, 19, .string o)) 11 rfl rfl (hon 16 (by kernel_rfl)) rfl
   replace ha := Aside0.mk ha
   have FF := Aside0.mk Q_FF
   obtain ⟨w9, c9, hw9, hs, hc, hb⟩ := conv_any o HO.out w'
   refine event_step (w1 := w9) (v := .slice (some ⟨w'.heap.size, 0, none⟩) (bytesOf o).length c9) (by rfl) ?_ ?_
   ·first | (go_simp; done) | (go_simp; rfl)
   refine hK.out _ _ ⟨g1_, g2_, g3_, w'.heap.size, g8_, c1_, c2_, c3_, c9, v0_, m5_, m6_, m9_, m10_, m13_, m14_, (.slice (some ⟨w'.heap.size, 0, none⟩) (bytesOf o).length c9), m18_, m28_, m29_, m31_, (by rw [ha.out]; exact putSel_upk 12 hb_ rfl rfl rfl), FF.out.step hb, fun h0_ => Kd.C_below (Q_C1 h0_) hb, Q_S1, fun h0_ => Kd.C_below (Q_C2 h0_) hb, Q_S2, fun h0_ => Kd.C_below (Q_C3 h0_) hb, Q_S3, fun _ => hc, fun _ => hs, fun _ _ _ _ h4_ => absurd ((hoff 28 (by kernel_rfl)).symm.trans h4_) (by decide), fun h0_ => absurd ((hoff 30 (by kernel_rfl)).symm.trans h0_) (by decide), Q_X5_, Q_X6_, Q_X9_, Q_X10_, Q_X13_, Q_X14_, fun _ => rfl, fun h0_ => absurd ((hoff 18 (by kernel_rfl)).symm.trans h0_) (by decide), fun h0_ => absurd ((hoff 28 (by kernel_rfl)).symm.trans h0_) (by decide), fun h0_ => absurd ((hoff 29 (by kernel_rfl)).symm.trans h0_) (by decide), fun h0_ => absurd ((hoff 31 (by kernel_rfl)).symm.trans h0_) (by decide)⟩
  refine steps_cons ?_ ?_
  ·rintro b a w' ⟨g1_, g2_, g3_, g4_, g8_, c1_, c2_, c3_, c4_, v0_, m5_, m6_, m9_, m10_, m13_, m14_, m17_, m18_, m28_, m29_, m31_, ha, Q_FF, Q_C1, Q_S1, Q_C2, Q_S2, Q_C3, Q_S3, Q_C4, Q_S4, Q_G8, Q_HR, Q_X5_, Q_X6_, Q_X9_, Q_X10_, Q_X13_, Q_X14_, Q_X17_, Q_X18_, Q_X28_, Q_X29_, Q_X31_⟩ hb_ hon hoff
   refine ⟨_, rfl, fun K hK => ?_⟩
   have e20 : a.tmps[20]? = some (m17_) := by rw [ha]; exact putSel_on (e := (17, 20, m17_)) 12 rfl rfl (hon 17 (by kernel_rfl)) rfl
   rw [Q_X17_ (hon 17 (by kernel_rfl))] at e20
   replace ha := Aside0.mk ha
   have FF := Aside0.mk Q_FF
   have C1 := Aside0.mk (Q_C1 (hon 5 (by kernel_rfl)))
   have S1 := Aside0.mk (Q_S1 (hon 5 (by kernel_rfl)))
   have C2 := Aside0.mk (Q_C2 (hon 9 (by kernel_rfl)))
   have S2 := Aside0.mk (Q_S2 (hon 9 (by kernel_rfl)))
   have C3 := Aside0.mk (Q_C3 (hon 13 (by kernel_rfl)))
   have S3 := Aside0.mk (Q_S3 (hon 13 (by kernel_rfl)))
   have C4 := Aside0.mk (Q_C4 (hon 17 (by kernel_rfl)))
   have S4 := Aside0.mk (Q_S4 (hon 17 (by kernel_rfl)))
   refine goes_ Tryd.func33 (by kernel_rfl) rfl #[.slice (some ⟨g4_, 0, none⟩) (bytesOf o).length c4_] (by rfl) rfl rfl (by first | (simp only [List.map_toArray, List.map_cons, List.map_nil, Act.eval, Array.getD_eq_getD_getElem?, Option.getD_some, e20]; done) | (simp only [List.map_toArray, List.map_cons, List.map_nil, Act.eval, Array.getD_eq_getD_getElem?, Option.getD_some, e20]; rfl)) ?_
   with_reducible refine (raw28 _ _ _ _).mono ?_
   rintro e w1_ ⟨rfl, hb⟩
   refine ⟨_, rfl, ?_⟩
   refine hK.out _ _ ⟨g1_, g2_, g3_, g4_, g8_, c1_, c2_, c3_, c4_, v0_, m5_, m6_, m9_, m10_, m13_, m14_, m17_, (.agg #[.int .i64 2, .int .i64 0, .slice (some ⟨g4_, 0, none⟩) (bytesOf o).length c4_, .slice none 0 0]), m28_, m29_, m31_, (by rw [ha.out]; exact putSel_upk 13 hb_ rfl rfl rfl), FF.out.step hb, fun _ => Kd.C_below C1.out hb, Q_S1, fun _ => Kd.C_below C2.out hb, Q_S2, fun _ => Kd.C_below C3.out hb, Q_S3, fun _ => Kd.C_below C4.out hb, Q_S4, fun _ _ _ _ h4_ => absurd ((hoff 28 (by kernel_rfl)).symm.trans h4_) (by decide), fun h0_ => absurd ((hoff 30 (by kernel_rfl)).symm.trans h0_) (by decide), Q_X5_, Q_X6_, Q_X9_, Q_X10_, Q_X13_, Q_X14_, Q_X17_, fun _ => rfl, fun h0_ => absurd ((hoff 28 (by kernel_rfl)).symm.trans h0_) (by decide), fun h0_ => absurd ((hoff 29 (by kernel_rfl)).symm.trans h0_) (by decide), fun h0_ => absurd ((hoff 31 (by kernel_rfl)).symm.trans h0_) (by decide)⟩
  refine steps_cons ?_ ?_
  ·rintro b a w' ⟨g1_, g2_, g3_, g4_, g8_, c1_, c2_, c3_, c4_, v0_, m5_, m6_, m9_, m10_, m13_, m14_, m17_, m18_, m28_, m29_, m31_, ha, Q_FF, Q_C1, Q_S1, Q_C2, Q_S2, Q_C3, Q_S3, Q_C4, Q_S4, Q_G8, Q_HR, Q_X5_, Q_X6_, Q_X9_, Q_X10_, Q_X13_, Q_X14_, Q_X17_, Q_X18_, Q_X28_, Q_X29_, Q_X31_⟩ hb_ hon hoff
   refine ⟨_, rfl, fun K hK => ?_⟩
   have e22 : a.tmps[22]? = some (.pointer (some ⟨w.heap.size, 5, none⟩)) := by rw [ha]; exact (putSel_off rfl).trans rfl
   replace ha := Aside0.mk ha
   have FF := Aside0.mk Q_FF
   have y := (blk_cell FF.out.bx 5).trans rfl
   refine value_ (w1 := w') (v := .int .i64 ro) (by rfl) rfl ?_ ?_
   ·go_simp
    (try simp only [i64_w])
    try rfl
   refine hK.out _ _ ⟨g1_, g2_, g3_, g4_, g8_, c1_, c2_, c3_, c4_, v0_, m5_, m6_, m9_, m10_, m13_, m14_, m17_, m18_, m28_, m29_, m31_, (by rw [ha.out]; exact putSel_upk 14 hb_ rfl rfl rfl), Q_FF, Q_C1, Q_S1, Q_C2, Q_S2, Q_C3, Q_S3, Q_C4, Q_S4, fun _ _ _ _ h4_ => absurd ((hoff 28 (by kernel_rfl)).symm.trans h4_) (by decide), fun h0_ => absurd ((hoff 30 (by kernel_rfl)).symm.trans h0_) (by decide), Q_X5_, Q_X6_, Q_X9_, Q_X10_, Q_X13_, Q_X14_, Q_X17_, Q_X18_, fun h0_ => absurd ((hoff 28 (by kernel_rfl)).symm.trans h0_) (by decide), fun h0_ => absurd ((hoff 29 (by kernel_rfl)).symm.trans h0_) (by decide), fun h0_ => absurd ((hoff 31 (by kernel_rfl)).symm.trans h0_) (by decide)⟩
  refine steps_cons ?_ ?_
  ·rintro b a w' ⟨g1_, g2_, g3_, g4_, g8_, c1_, c2_, c3_, c4_, v0_, m5_, m6_, m9_, m10_, m13_, m14_, m17_, m18_, m28_, m29_, m31_, ha, Q_FF, Q_C1, Q_S1, Q_C2, Q_S2, Q_C3, Q_S3, Q_C4, Q_S4, Q_G8, Q_HR, Q_X5_, Q_X6_, Q_X9_, Q_X10_, Q_X13_, Q_X14_, Q_X17_, Q_X18_, Q_X28_, Q_X29_, Q_X31_⟩ hb_ hon hoff
   refine ⟨_, rfl, fun K hK => ?_⟩
   have e23 : a.tmps[23]? = some (.int .i64 ro) := by rw [ha]; exact putSel_on (e := (20, 23, .int .i64 ro)) 14 rfl rfl (hon 20 (by kernel_rfl)) rfl
   replace ha := Aside0.mk ha
   have FF := Aside0.mk Q_FF
   have C1 := Aside0.mk (Q_C1 (hon 5 (by kernel_rfl)))
   have S1 := Aside0.mk (Q_S1 (hon 5 (by kernel_rfl)))
   have C2 := Aside0.mk (Q_C2 (hon 9 (by kernel_rfl)))
   have S2 := Aside0.mk (Q_S2 (hon 9 (by kernel_rfl)))
   have C3 := Aside0.mk (Q_C3 (hon 13 (by kernel_rfl)))
   have S3 := Aside0.mk (Q_S3 (hon 13 (by kernel_rfl)))
   have C4 := Aside0.mk (Q_C4 (hon 17 (by kernel_rfl)))
   have S4 := Aside0.mk (Q_S4 (hon 17 (by kernel_rfl)))
   refine goes_ Tryd.func32 (by kernel_rfl) rfl #[.int .i64 ro] (by rfl) rfl rfl (by first | (simp only [List.map_toArray, List.map_cons, List.map_nil, Act.eval, Array.getD_eq_getD_getElem?, Option.getD_some, e23]; done) | (simp only [List.map_toArray, List.map_cons, List.map_nil, Act.eval, Array.getD_eq_getD_getElem?, Option.getD_some, e23]; rfl)) ?_
   with_reducible refine (num28 _ _).mono ?_
   rintro e w1_ ⟨rfl, hb⟩
   refine ⟨_, rfl, ?_⟩
   refine hK.out _ _ ⟨g1_, g2_, g3_, g4_, g8_, c1_, c2_, c3_, c4_, v0_, m5_, m6_, m9_, m10_, m13_, m14_, m17_, m18_, m28_, m29_, m31_, (by rw [ha.out]; exact putSel_upk 15 hb_ rfl rfl rfl), FF.out.step hb, fun _ => Kd.C_below C1.out hb, Q_S1, fun _ => Kd.C_below C2.out hb, Q_S2, fun _ => Kd.C_below C3.out hb, Q_S3, fun _ => Kd.C_below C4.out hb, Q_S4, fun _ _ _ _ h4_ => absurd ((hoff 28 (by kernel_rfl)).symm.trans h4_) (by decide), fun h0_ => absurd ((hoff 30 (by kernel_rfl)).symm.trans h0_) (by decide), Q_X5_, Q_X6_, Q_X9_, Q_X10_, Q_X13_, Q_X14_, Q_X17_, Q_X18_, fun h0_ => absurd ((hoff 28 (by kernel_rfl)).symm.trans h0_) (by decide), fun h0_ => absurd ((hoff 29 (by kernel_rfl)).symm.trans h0_) (by decide), fun h0_ => absurd ((hoff 31 (by kernel_rfl)).symm.trans h0_) (by decide)⟩
  refine steps_cons ?_ ?_
  ·rintro b a w' ⟨g1_, g2_, g3_, g4_, g8_, c1_, c2_, c3_, c4_, v0_, m5_, m6_, m9_, m10_, m13_, m14_, m17_, m18_, m28_, m29_, m31_, ha, Q_FF, Q_C1, Q_S1, Q_C2, Q_S2, Q_C3, Q_S3, Q_C4, Q_S4, Q_G8, Q_HR, Q_X5_, Q_X6_, Q_X9_, Q_X10_, Q_X13_, Q_X14_, Q_X17_, Q_X18_, Q_X28_, Q_X29_, Q_X31_⟩ hb_ hon hoff
   refine ⟨_, rfl, fun K hK => ?_⟩
   have e25 : a.tmps[25]? = some (.pointer (some ⟨w.heap.size, 6, none⟩)) := by rw [ha]; exact (putSel_off rfl).trans rfl
   replace ha := Aside0.mk ha
   have FF := Aside0.mk Q_FF
   have y := (blk_cell FF.out.bx 6).trans rfl
   refine value_ (w1 := w') (v := .int .i64 ve) (by rfl) rfl ?_ ?_
   ·go_simp
    (try simp only [i64_w])
    try rfl
   refine hK.out _ _ ⟨g1_, g2_, g3_, g4_, g8_, c1_, c2_, c3_, c4_, v0_, m5_, m6_, m9_, m10_, m13_, m14_, m17_, m18_, m28_, m29_, m31_, (by rw [ha.out]; exact putSel_upk 16 hb_ rfl rfl rfl), Q_FF, Q_C1, Q_S1, Q_C2, Q_S2, Q_C3, Q_S3, Q_C4, Q_S4, fun _ _ _ _ h4_ => absurd ((hoff 28 (by kernel_rfl)).symm.trans h4_) (by decide), fun h0_ => absurd ((hoff 30 (by kernel_rfl)).symm.trans h0_) (by decide), Q_X5_, Q_X6_, Q_X9_, Q_X10_, Q_X13_, Q_X14_, Q_X17_, Q_X18_, fun h0_ => absurd ((hoff 28 (by kernel_rfl)).symm.trans h0_) (by decide), fun h0_ => absurd ((hoff 29 (by kernel_rfl)).symm.trans h0_) (by decide), fun h0_ => absurd ((hoff 31 (by kernel_rfl)).symm.trans h0_) (by decide)⟩
  refine steps_cons ?_ ?_
  ·rintro b a w' ⟨g1_, g2_, g3_, g4_, g8_, c1_, c2_, c3_, c4_, v0_, m5_, m6_, m9_, m10_, m13_, m14_, m17_, m18_, m28_, m29_, m31_, ha, Q_FF, Q_C1, Q_S1, Q_C2, Q_S2, Q_C3, Q_S3, Q_C4, Q_S4, Q_G8, Q_HR, Q_X5_, Q_X6_, Q_X9_, Q_X10_, Q_X13_, Q_X14_, Q_X17_, Q_X18_, Q_X28_, Q_X29_, Q_X31_⟩ hb_ hon hoff
   refine ⟨_, rfl, fun K hK => ?_⟩
   have e26 : a.tmps[26]? = some (.int .i64 ve) := by rw [ha]; exact putSel_on (e := (23, 26, .int .i64 ve)) 16 rfl rfl (hon 23 (by kernel_rfl)) rfl
   replace ha := Aside0.mk ha
   have FF := Aside0.mk Q_FF
   have C1 := Aside0.mk (Q_C1 (hon 5 (by kernel_rfl)))
   have S1 := Aside0.mk (Q_S1 (hon 5 (by kernel_rfl)))
   have C2 := Aside0.mk (Q_C2 (hon 9 (by kernel_rfl)))
   have S2 := Aside0.mk (Q_S2 (hon 9 (by kernel_rfl)))
   have C3 := Aside0.mk (Q_C3 (hon 13 (by kernel_rfl)))
   have S3 := Aside0.mk (Q_S3 (hon 13 (by kernel_rfl)))
   have C4 := Aside0.mk (Q_C4 (hon 17 (by kernel_rfl)))
   have S4 := Aside0.mk (Q_S4 (hon 17 (by kernel_rfl)))
   refine goes_ Tryd.func32 (by kernel_rfl) rfl #[.int .i64 ve] (by rfl) rfl rfl (by first | (simp only [List.map_toArray, List.map_cons, List.map_nil, Act.eval, Array.getD_eq_getD_getElem?, Option.getD_some, e26]; done) | (simp only [List.map_toArray, List.map_cons, List.map_nil, Act.eval, Array.getD_eq_getD_getElem?, Option.getD_some, e26]; rfl)) ?_
   with_reducible refine (num28 _ _).mono ?_
   rintro e w1_ ⟨rfl, hb⟩
   refine ⟨_, rfl, ?_⟩
   refine hK.out _ _ ⟨g1_, g2_, g3_, g4_, g8_, c1_, c2_, c3_, c4_, v0_, m5_, m6_, m9_, m10_, m13_, m14_, m17_, m18_, m28_, m29_, m31_, (by rw [ha.out]; exact putSel_upk 17 hb_ rfl rfl rfl), FF.out.step hb, fun _ => Kd.C_below C1.out hb, Q_S1, fun _ => Kd.C_below C2.out hb, Q_S2, fun _ => Kd.C_below C3.out hb, Q_S3, fun _ => Kd.C_below C4.out hb, Q_S4, fun _ _ _ _ h4_ => absurd ((hoff 28 (by kernel_rfl)).symm.trans h4_) (by decide), fun h0_ => absurd ((hoff 30 (by kernel_rfl)).symm.trans h0_) (by decide), Q_X5_, Q_X6_, Q_X9_, Q_X10_, Q_X13_, Q_X14_, Q_X17_, Q_X18_, fun h0_ => absurd ((hoff 28 (by kernel_rfl)).symm.trans h0_) (by decide), fun h0_ => absurd ((hoff 29 (by kernel_rfl)).symm.trans h0_) (by decide), fun h0_ => absurd ((hoff 31 (by kernel_rfl)).symm.trans h0_) (by decide)⟩
  refine steps_cons ?_ ?_
  ·rintro b a w' ⟨g1_, g2_, g3_, g4_, g8_, c1_, c2_, c3_, c4_, v0_, m5_, m6_, m9_, m10_, m13_, m14_, m17_, m18_, m28_, m29_, m31_, ha, Q_FF, Q_C1, Q_S1, Q_C2, Q_S2, Q_C3, Q_S3, Q_C4, Q_S4, Q_G8, Q_HR, Q_X5_, Q_X6_, Q_X9_, Q_X10_, Q_X13_, Q_X14_, Q_X17_, Q_X18_, Q_X28_, Q_X29_, Q_X31_⟩ hb_ hon hoff
   refine ⟨_, rfl, fun K hK => ?_⟩
   have e28 : a.tmps[28]? = some (.pointer (some ⟨w.heap.size, 7, none⟩)) := by rw [ha]; exact (putSel_off rfl).trans rfl
   replace ha := Aside0.mk ha
   have FF := Aside0.mk Q_FF
   have y := (blk_cell FF.out.bx 7).trans rfl
   refine value_ (w1 := w') (v := .slice A7 l7.length c7) (by rfl) rfl ?_ ?_
   ·go_simp
    (try simp only [i64_w])
    try rfl
   refine hK.out _ _ ⟨g1_, g2_, g3_, g4_, g8_, c1_, c2_, c3_, c4_, v0_, m5_, m6_, m9_, m10_, m13_, m14_, m17_, m18_, m28_, m29_, m31_, (by rw [ha.out]; exact putSel_upk 18 hb_ rfl rfl rfl), Q_FF, Q_C1, Q_S1, Q_C2, Q_S2, Q_C3, Q_S3, Q_C4, Q_S4, fun _ _ _ _ h4_ => absurd ((hoff 28 (by kernel_rfl)).symm.trans h4_) (by decide), fun h0_ => absurd ((hoff 30 (by kernel_rfl)).symm.trans h0_) (by decide), Q_X5_, Q_X6_, Q_X9_, Q_X10_, Q_X13_, Q_X14_, Q_X17_, Q_X18_, fun h0_ => absurd ((hoff 28 (by kernel_rfl)).symm.trans h0_) (by decide), fun h0_ => absurd ((hoff 29 (by kernel_rfl)).symm.trans h0_) (by decide), fun h0_ => absurd ((hoff 31 (by kernel_rfl)).symm.trans h0_) (by decide)⟩
  refine steps_cons ?_ ?_
  ·rintro b a w' ⟨g1_, g2_, g3_, g4_, g8_, c1_, c2_, c3_, c4_, v0_, m5_, m6_, m9_, m10_, m13_, m14_, m17_, m18_, m28_, m29_, m31_, ha, Q_FF, Q_C1, Q_S1, Q_C2, Q_S2, Q_C3, Q_S3, Q_C4, Q_S4, Q_G8, Q_HR, Q_X5_, Q_X6_, Q_X9_, Q_X10_, Q_X13_, Q_X14_, Q_X17_, Q_X18_, Q_X28_, Q_X29_, Q_X31_⟩ hb_ hon hoff
   refine ⟨_, rfl, fun K hK => ?_⟩
   have e29 : a.tmps[29]? = some (.slice A7 l7.length c7) := by rw [ha]; exact putSel_on (e := (26, 29, .slice A7 l7.length c7)) 18 rfl rfl (hon 26 (by kernel_rfl)) rfl
   replace ha := Aside0.mk ha
   have FF := Aside0.mk Q_FF
   have C1 := Aside0.mk (Q_C1 (hon 5 (by kernel_rfl)))
   have S1 := Aside0.mk (Q_S1 (hon 5 (by kernel_rfl)))
   have C2 := Aside0.mk (Q_C2 (hon 9 (by kernel_rfl)))
   have S2 := Aside0.mk (Q_S2 (hon 9 (by kernel_rfl)))
   have C3 := Aside0.mk (Q_C3 (hon 13 (by kernel_rfl)))
   have S3 := Aside0.mk (Q_S3 (hon 13 (by kernel_rfl)))
   have C4 := Aside0.mk (Q_C4 (hon 17 (by kernel_rfl)))
   have S4 := Aside0.mk (Q_S4 (hon 17 (by kernel_rfl)))
   refine goes_ Tryd.func33 (by kernel_rfl) rfl #[.slice A7 l7.length c7] (by rfl) rfl rfl (by first | (simp only [List.map_toArray, List.map_cons, List.map_nil, Act.eval, Array.getD_eq_getD_getElem?, Option.getD_some, e29]; done) | (simp only [List.map_toArray, List.map_cons, List.map_nil, Act.eval, Array.getD_eq_getD_getElem?, Option.getD_some, e29]; rfl)) ?_
   with_reducible refine (raw28 _ _ _ _).mono ?_
   rintro e w1_ ⟨rfl, hb⟩
   refine ⟨_, rfl, ?_⟩
   refine hK.out _ _ ⟨g1_, g2_, g3_, g4_, g8_, c1_, c2_, c3_, c4_, v0_, m5_, m6_, m9_, m10_, m13_, m14_, m17_, m18_, m28_, m29_, m31_, (by rw [ha.out]; exact putSel_upk 19 hb_ rfl rfl rfl), FF.out.step hb, fun _ => Kd.C_below C1.out hb, Q_S1, fun _ => Kd.C_below C2.out hb, Q_S2, fun _ => Kd.C_below C3.out hb, Q_S3, fun _ => Kd.C_below C4.out hb, Q_S4, fun _ _ _ _ h4_ => absurd ((hoff 28 (by kernel_rfl)).symm.trans h4_) (by decide), fun h0_ => absurd ((hoff 30 (by kernel_rfl)).symm.trans h0_) (by decide), Q_X5_, Q_X6_, Q_X9_, Q_X10_, Q_X13_, Q_X14_, Q_X17_, Q_X18_, fun h0_ => absurd ((hoff 28 (by kernel_rfl)).symm.trans h0_) (by decide), fun h0_ => absurd ((hoff 29 (by kernel_rfl)).symm.trans h0_) (by decide), fun h0_ => absurd ((hoff 31 (by kernel_rfl)).symm.trans h0_) (by decide)⟩
  refine steps_cons ?_ ?_
  ·rintro b a w' ⟨g1_, g2_, g3_, g4_, g8_, c1_, c2_, c3_, c4_, v0_, m5_, m6_, m9_, m10_, m13_, m14_, m17_, m18_, m28_, m29_, m31_, ha, Q_FF, Q_C1, Q_S1, Q_C2, Q_S2, Q_C3, Q_S3, Q_C4, Q_S4, Q_G8, Q_HR, Q_X5_, Q_X6_, Q_X9_, Q_X10_, Q_X13_, Q_X14_, Q_X17_, Q_X18_, Q_X28_, Q_X29_, Q_X31_⟩ hb_ hon hoff
   refine ⟨_, rfl, fun K hK => ?_⟩
   have e5 : a.tmps[5]? = some (.agg #[.int .i64 1, .int .i64 k, .slice none 0 0, .slice none 0 0]) := by rw [ha]; exact putSel_on (e := (2, 5, .agg #[.int .i64 1, .int .i64 k, .slice none 0 0, .slice none 0 0])) 1 rfl rfl (hon 2 (by kernel_rfl)) rfl
   have e9 : a.tmps[9]? = some (m6_) := by rw [ha]; exact putSel_on (e := (6, 9, m6_)) 4 rfl rfl (hon 6 (by kernel_rfl)) rfl
   rw [Q_X6_ (hon 6 (by kernel_rfl))] at e9
   have e13 : a.tmps[13]? = some (m10_) := by rw [ha]; exact putSel_on (e := (10, 13, m10_)) 7 rfl rfl (hon 10 (by kernel_rfl)) rfl
   rw [Q_X10_ (hon 10 (by kernel_rfl))] at e13
   have e17 : a.tmps[17]? = some (m14_) := by rw [ha]; exact putSel_on (e := (14, 17, m14_)) 10 rfl rfl (hon 14 (by kernel_rfl)) rfl
   rw [Q_X14_ (hon 14 (by kernel_rfl))] at e17
   have e21 : a.tmps[21]? = some (m18_) := by rw [ha]; exact putSel_on (e := (18, 21, m18_)) 13 rfl rfl (hon 18 (by kernel_rfl)) rfl
   rw [Q_X18_ (hon 18 (by kernel_rfl))] at e21
   have e24 : a.tmps[24]? = some (.agg #[.int .i64 1, .int .i64 ro, .slice none 0 0, .slice none 0 0]) := by rw [ha]; exact putSel_on (e := (21, 24, .agg #[.int .i64 1, .int .i64 ro, .slice none 0 0, .slice none 0 0])) 15 rfl rfl (hon 21 (by kernel_rfl)) rfl
   have e27 : a.tmps[27]? = some (.agg #[.int .i64 1, .int .i64 ve, .slice none 0 0, .slice none 0 0]) := by rw [ha]; exact putSel_on (e := (24, 27, .agg #[.int .i64 1, .int .i64 ve, .slice none 0 0, .slice none 0 0])) 17 rfl rfl (hon 24 (by kernel_rfl)) rfl
   have e30 : a.tmps[30]? = some (.agg #[.int .i64 2, .int .i64 0, .slice A7 l7.length c7, .slice none 0 0]) := by rw [ha]; exact putSel_on (e := (27, 30, .agg #[.int .i64 2, .int .i64 0, .slice A7 l7.length c7, .slice none 0 0])) 19 rfl rfl (hon 27 (by kernel_rfl)) rfl
   replace ha := Aside0.mk ha
   have FF := Aside0.mk Q_FF
   have C1 := Aside0.mk (Q_C1 (hon 5 (by kernel_rfl)))
   have S1 := Aside0.mk (Q_S1 (hon 5 (by kernel_rfl)))
   have C2 := Aside0.mk (Q_C2 (hon 9 (by kernel_rfl)))
   have S2 := Aside0.mk (Q_S2 (hon 9 (by kernel_rfl)))
   have C3 := Aside0.mk (Q_C3 (hon 13 (by kernel_rfl)))
   have S3 := Aside0.mk (Q_S3 (hon 13 (by kernel_rfl)))
   have C4 := Aside0.mk (Q_C4 (hon 17 (by kernel_rfl)))
   have S4 := Aside0.mk (Q_S4 (hon 17 (by kernel_rfl)))
   refine event_step (w1 := w'.alloc (.cells #[.int .i64 1, .int .i64 k, .slice none 0 0, .slice none 0 0, .int .i64 2, .int .i64 0, .slice (some ⟨g1_, 0, none⟩) (bytesOf u).length c1_, .slice none 0 0, .int .i64 2, .int .i64 0, .slice (some ⟨g2_, 0, none⟩) (bytesOf f).length c2_, .slice none 0 0, .int .i64 2, .int .i64 0, .slice (some ⟨g3_, 0, none⟩) (bytesOf n).length c3_, .slice none 0 0, .int .i64 2, .int .i64 0, .slice (some ⟨g4_, 0, none⟩) (bytesOf o).length c4_, .slice none 0 0, .int .i64 1, .int .i64 ro, .slice none 0 0, .slice none 0 0, .int .i64 1, .int .i64 ve, .slice none 0 0, .slice none 0 0, .int .i64 2, .int .i64 0, .slice A7 l7.length c7, .slice none 0 0] 43)) (v := .slice (some ⟨w'.heap.size, 0, none⟩) 8 8) (by rfl) ?_ ?_
   ·first | (go_simp; done) | (go_simp; rfl)
   have hb := below_alloc (Below.refl w'.heap.size w') (.cells #[.int .i64 1, .int .i64 k, .slice none 0 0, .slice none 0 0, .int .i64 2, .int .i64 0, .slice (some ⟨g1_, 0, none⟩) (bytesOf u).length c1_, .slice none 0 0, .int .i64 2, .int .i64 0, .slice (some ⟨g2_, 0, none⟩) (bytesOf f).length c2_, .slice none 0 0, .int .i64 2, .int .i64 0, .slice (some ⟨g3_, 0, none⟩) (bytesOf n).length c3_, .slice none 0 0, .int .i64 2, .int .i64 0, .slice (some ⟨g4_, 0, none⟩) (bytesOf o).length c4_, .slice none 0 0, .int .i64 1, .int .i64 ro, .slice none 0 0, .slice none 0 0, .int .i64 1, .int .i64 ve, .slice none 0 0, .slice none 0 0, .int .i64 2, .int .i64 0, .slice A7 l7.length c7, .slice none 0 0] 43)
   refine hK.out _ _ ⟨g1_, g2_, g3_, g4_, w'.heap.size, c1_, c2_, c3_, c4_, v0_, m5_, m6_, m9_, m10_, m13_, m14_, m17_, m18_, (.slice (some ⟨w'.heap.size, 0, none⟩) 8 8), m29_, m31_, (by rw [ha.out]; exact putSel_upk 20 hb_ rfl rfl rfl), FF.out.step hb, fun _ => Kd.C_below C1.out hb, Q_S1, fun _ => Kd.C_below C2.out hb, Q_S2, fun _ => Kd.C_below C3.out hb, Q_S3, fun _ => Kd.C_below C4.out hb, Q_S4, fun _ _ _ _ _ => blk_new w' _, fun h0_ => absurd ((hoff 30 (by kernel_rfl)).symm.trans h0_) (by decide), Q_X5_, Q_X6_, Q_X9_, Q_X10_, Q_X13_, Q_X14_, Q_X17_, Q_X18_, fun _ => rfl, fun h0_ => absurd ((hoff 29 (by kernel_rfl)).symm.trans h0_) (by decide), fun h0_ => absurd ((hoff 31 (by kernel_rfl)).symm.trans h0_) (by decide)⟩
  refine steps_cons ?_ ?_
  ·rintro b a w' ⟨g1_, g2_, g3_, g4_, g8_, c1_, c2_, c3_, c4_, v0_, m5_, m6_, m9_, m10_, m13_, m14_, m17_, m18_, m28_, m29_, m31_, ha, Q_FF, Q_C1, Q_S1, Q_C2, Q_S2, Q_C3, Q_S3, Q_C4, Q_S4, Q_G8, Q_HR, Q_X5_, Q_X6_, Q_X9_, Q_X10_, Q_X13_, Q_X14_, Q_X17_, Q_X18_, Q_X28_, Q_X29_, Q_X31_⟩ hb_ hon hoff
   refine ⟨_, rfl, fun K hK => ?_⟩
   have e31 : a.tmps[31]? = some (m28_) := by rw [ha]; exact putSel_on (e := (28, 31, m28_)) 20 rfl rfl (hon 28 (by kernel_rfl)) rfl
   rw [Q_X28_ (hon 28 (by kernel_rfl))] at e31
   replace ha := Aside0.mk ha
   have FF := Aside0.mk Q_FF
   have C1 := Aside0.mk (Q_C1 (hon 5 (by kernel_rfl)))
   have S1 := Aside0.mk (Q_S1 (hon 5 (by kernel_rfl)))
   have C2 := Aside0.mk (Q_C2 (hon 9 (by kernel_rfl)))
   have S2 := Aside0.mk (Q_S2 (hon 9 (by kernel_rfl)))
   have C3 := Aside0.mk (Q_C3 (hon 13 (by kernel_rfl)))
   have S3 := Aside0.mk (Q_S3 (hon 13 (by kernel_rfl)))
   have C4 := Aside0.mk (Q_C4 (hon 17 (by kernel_rfl)))
   have S4 := Aside0.mk (Q_S4 (hon 17 (by kernel_rfl)))
   have G8 := Aside0.mk (Q_G8 (hon 5 (by kernel_rfl)) (hon 9 (by kernel_rfl)) (hon 13 (by kernel_rfl)) (hon 17 (by kernel_rfl)) (hon 28 (by kernel_rfl)))
   refine goes_ Tryd.func31 (by kernel_rfl) rfl #[.slice (some ⟨g8_, 0, none⟩) 8 8] (by rfl) rfl rfl (by first | (simp only [List.map_toArray, List.map_cons, List.map_nil, Act.eval, Array.getD_eq_getD_getElem?, Option.getD_some, e31]; done) | (simp only [List.map_toArray, List.map_cons, List.map_nil, Act.eval, Array.getD_eq_getD_getElem?, Option.getD_some, e31]; rfl)) ?_
   with_reducible refine (of28 _ _ _ _).mono ?_
   rintro e w1_ ⟨rfl, hb⟩
   refine ⟨_, rfl, ?_⟩
   refine hK.out _ _ ⟨g1_, g2_, g3_, g4_, g8_, c1_, c2_, c3_, c4_, v0_, m5_, m6_, m9_, m10_, m13_, m14_, m17_, m18_, m28_, (.agg #[.int .i64 3, .int .i64 0, .slice none 0 0, .slice (some ⟨g8_, 0, none⟩) 8 8]), m31_, (by rw [ha.out]; exact putSel_upk 21 hb_ rfl rfl rfl), FF.out.step hb, fun _ => Kd.C_below C1.out hb, Q_S1, fun _ => Kd.C_below C2.out hb, Q_S2, fun _ => Kd.C_below C3.out hb, Q_S3, fun _ => Kd.C_below C4.out hb, Q_S4, fun _ _ _ _ _ => (hb.block _ (blk_lt G8.out)).trans G8.out, fun h0_ => absurd ((hoff 30 (by kernel_rfl)).symm.trans h0_) (by decide), Q_X5_, Q_X6_, Q_X9_, Q_X10_, Q_X13_, Q_X14_, Q_X17_, Q_X18_, Q_X28_, fun _ => rfl, fun h0_ => absurd ((hoff 31 (by kernel_rfl)).symm.trans h0_) (by decide)⟩
  refine steps_cons ?_ ?_
  ·rintro b a w' ⟨g1_, g2_, g3_, g4_, g8_, c1_, c2_, c3_, c4_, v0_, m5_, m6_, m9_, m10_, m13_, m14_, m17_, m18_, m28_, m29_, m31_, ha, Q_FF, Q_C1, Q_S1, Q_C2, Q_S2, Q_C3, Q_S3, Q_C4, Q_S4, Q_G8, Q_HR, Q_X5_, Q_X6_, Q_X9_, Q_X10_, Q_X13_, Q_X14_, Q_X17_, Q_X18_, Q_X28_, Q_X29_, Q_X31_⟩ hb_ hon hoff
   refine ⟨_, rfl, fun K hK => ?_⟩
   have e32 : a.tmps[32]? = some (m29_) := by rw [ha]; exact putSel_on (e := (29, 32, m29_)) 21 rfl rfl (hon 29 (by kernel_rfl)) rfl
   rw [Q_X29_ (hon 29 (by kernel_rfl))] at e32
   replace ha := Aside0.mk ha
   have FF := Aside0.mk Q_FF
   have C1 := Aside0.mk (Q_C1 (hon 5 (by kernel_rfl)))
   have S1 := Aside0.mk (Q_S1 (hon 5 (by kernel_rfl)))
   have C2 := Aside0.mk (Q_C2 (hon 9 (by kernel_rfl)))
   have S2 := Aside0.mk (Q_S2 (hon 9 (by kernel_rfl)))
   have C3 := Aside0.mk (Q_C3 (hon 13 (by kernel_rfl)))
   have S3 := Aside0.mk (Q_S3 (hon 13 (by kernel_rfl)))
   have C4 := Aside0.mk (Q_C4 (hon 17 (by kernel_rfl)))
   have S4 := Aside0.mk (Q_S4 (hon 17 (by kernel_rfl)))
   have G8 := Aside0.mk (Q_G8 (hon 5 (by kernel_rfl)) (hon 9 (by kernel_rfl)) (hon 13 (by kernel_rfl)) (hon 17 (by kernel_rfl)) (hon 28 (by kernel_rfl)))
   refine goes_ Tryd.func30 (by kernel_rfl) rfl #[.agg #[.int .i64 3, .int .i64 0, .slice none 0 0, .slice (some ⟨g8_, 0, none⟩) 8 8]] (by rfl) rfl rfl (by first | (simp only [List.map_toArray, List.map_cons, List.map_nil, Act.eval, Array.getD_eq_getD_getElem?, Option.getD_some, e32]; done) | (simp only [List.map_toArray, List.map_cons, List.map_nil, Act.eval, Array.getD_eq_getD_getElem?, Option.getD_some, e32]; rfl)) ?_
   with_reducible refine (bytes_lit kk g8_ (row8 k u f n o ro ve l7) rfl bs _ (C_row8 G8.out C1.out S1.out C2.out S2.out C3.out S3.out C4.out S4.out FF.out.c7 L7.out) HE.out).mono ?_
   rintro e w1_ ⟨v0, rfl, hr, hb⟩
   refine ⟨_, rfl, ?_⟩
   refine hK.out _ _ ⟨g1_, g2_, g3_, g4_, g8_, c1_, c2_, c3_, c4_, v0, m5_, m6_, m9_, m10_, m13_, m14_, m17_, m18_, m28_, m29_, m31_, (by rw [ha.out]; exact putSel_upk 22 hb_ rfl rfl rfl), FF.out.step hb, fun _ => Kd.C_below C1.out hb, Q_S1, fun _ => Kd.C_below C2.out hb, Q_S2, fun _ => Kd.C_below C3.out hb, Q_S3, fun _ => Kd.C_below C4.out hb, Q_S4, fun _ _ _ _ _ => (hb.block _ (blk_lt G8.out)).trans G8.out, fun _ => Kd.R_lower hr FF.out.hb.size, Q_X5_, Q_X6_, Q_X9_, Q_X10_, Q_X13_, Q_X14_, Q_X17_, Q_X18_, Q_X28_, Q_X29_, fun h0_ => absurd ((hoff 31 (by kernel_rfl)).symm.trans h0_) (by decide)⟩
  refine steps_cons ?_ ?_
  ·rintro b a w' ⟨g1_, g2_, g3_, g4_, g8_, c1_, c2_, c3_, c4_, v0_, m5_, m6_, m9_, m10_, m13_, m14_, m17_, m18_, m28_, m29_, m31_, ha, Q_FF, Q_C1, Q_S1, Q_C2, Q_S2, Q_C3, Q_S3, Q_C4, Q_S4, Q_G8, Q_HR, Q_X5_, Q_X6_, Q_X9_, Q_X10_, Q_X13_, Q_X14_, Q_X17_, Q_X18_, Q_X28_, Q_X29_, Q_X31_⟩ hb_ hon hoff
   refine ⟨_, rfl, fun K hK => ?_⟩
   have e33 : a.tmps[33]? = some (v0_) := by rw [ha]; exact putSel_on (e := (30, 33, v0_)) 22 rfl rfl (hon 30 (by kernel_rfl)) rfl
   replace ha := Aside0.mk ha
   have FF := Aside0.mk Q_FF
   have C1 := Aside0.mk (Q_C1 (hon 5 (by kernel_rfl)))
   have S1 := Aside0.mk (Q_S1 (hon 5 (by kernel_rfl)))
   have C2 := Aside0.mk (Q_C2 (hon 9 (by kernel_rfl)))
   have S2 := Aside0.mk (Q_S2 (hon 9 (by kernel_rfl)))
   have C3 := Aside0.mk (Q_C3 (hon 13 (by kernel_rfl)))
   have S3 := Aside0.mk (Q_S3 (hon 13 (by kernel_rfl)))
   have C4 := Aside0.mk (Q_C4 (hon 17 (by kernel_rfl)))
   have S4 := Aside0.mk (Q_S4 (hon 17 (by kernel_rfl)))
   have G8 := Aside0.mk (Q_G8 (hon 5 (by kernel_rfl)) (hon 9 (by kernel_rfl)) (hon 13 (by kernel_rfl)) (hon 17 (by kernel_rfl)) (hon 28 (by kernel_rfl)))
   have HR := Aside0.mk (Q_HR (hon 30 (by kernel_rfl)))
   refine value_ (w1 := w') (v := v0_) (by rfl) rfl ?_ ?_
   ·go_simp
    (try simp only [i64_w])
    try rfl
   refine hK.out _ _ ⟨g1_, g2_, g3_, g4_, g8_, c1_, c2_, c3_, c4_, v0_, m5_, m6_, m9_, m10_, m13_, m14_, m17_, m18_, m28_, m29_, (v0_), (by rw [ha.out]; exact putSel_upk 23 hb_ rfl rfl rfl), Q_FF, Q_C1, Q_S1, Q_C2, Q_S2, Q_C3, Q_S3, Q_C4, Q_S4, Q_G8, Q_HR, Q_X5_, Q_X6_, Q_X9_, Q_X10_, Q_X13_, Q_X14_, Q_X17_, Q_X18_, Q_X28_, Q_X29_, fun _ => rfl⟩
  exact steps_nil
 ·rintro b a w' hall ⟨g1_, g2_, g3_, g4_, g8_, c1_, c2_, c3_, c4_, v0_, m5_, m6_, m9_, m10_, m13_, m14_, m17_, m18_, m28_, m29_, m31_, ha, Q_FF, Q_C1, Q_S1, Q_C2, Q_S2, Q_C3, Q_S3, Q_C4, Q_S4, Q_G8, Q_HR, Q_X5_, Q_X6_, Q_X9_, Q_X10_, Q_X13_, Q_X14_, Q_X17_, Q_X18_, Q_X28_, Q_X29_, Q_X31_⟩
  clear FF
  have hb1_ := hall 1 (by kernel_rfl)
  have hb2_ := hall 2 (by kernel_rfl)
  have hb4_ := hall 4 (by kernel_rfl)
  have hb5_ := hall 5 (by kernel_rfl)
  have hb6_ := hall 6 (by kernel_rfl)
  have hb8_ := hall 8 (by kernel_rfl)
  have hb9_ := hall 9 (by kernel_rfl)
  have hb10_ := hall 10 (by kernel_rfl)
  have hb12_ := hall 12 (by kernel_rfl)
  have hb13_ := hall 13 (by kernel_rfl)
  have hb14_ := hall 14 (by kernel_rfl)
  have hb16_ := hall 16 (by kernel_rfl)
  have hb17_ := hall 17 (by kernel_rfl)
  have hb18_ := hall 18 (by kernel_rfl)
  have hb20_ := hall 20 (by kernel_rfl)
  have hb21_ := hall 21 (by kernel_rfl)
  have hb23_ := hall 23 (by kernel_rfl)
  have hb24_ := hall 24 (by kernel_rfl)
  have hb26_ := hall 26 (by kernel_rfl)
  have hb27_ := hall 27 (by kernel_rfl)
  have hb28_ := hall 28 (by kernel_rfl)
  have hb29_ := hall 29 (by kernel_rfl)
  have hb30_ := hall 30 (by kernel_rfl)
  have hb31_ := hall 31 (by kernel_rfl)
  subst ha
  obtain rfl := Q_X5_ hb5_
  obtain rfl := Q_X6_ hb6_
  obtain rfl := Q_X9_ hb9_
  obtain rfl := Q_X10_ hb10_
  obtain rfl := Q_X13_ hb13_
  obtain rfl := Q_X14_ hb14_
  obtain rfl := Q_X17_ hb17_
  obtain rfl := Q_X18_ hb18_
  obtain rfl := Q_X28_ hb28_
  obtain rfl := Q_X29_ hb29_
  obtain rfl := Q_X31_ hb31_
  simp only [putSel, hb1_, hb2_, hb4_, hb5_, hb6_, hb8_, hb9_, hb10_, hb12_, hb13_, hb14_, hb16_, hb17_, hb18_, hb20_, hb21_, hb23_, hb24_, hb26_, hb27_, hb28_, hb29_, hb30_, hb31_, if_true, Act.put, List.setIfInBounds_toArray, List.set_cons_zero, List.set_cons_succ]
  have FF := Aside0.mk Q_FF
  clear Q_FF
  have C1 := Aside0.mk (Q_C1 hb5_)
  clear Q_C1
  have S1 := Aside0.mk (Q_S1 hb5_)
  clear Q_S1
  have C2 := Aside0.mk (Q_C2 hb9_)
  clear Q_C2
  have S2 := Aside0.mk (Q_S2 hb9_)
  clear Q_S2
  have C3 := Aside0.mk (Q_C3 hb13_)
  clear Q_C3
  have S3 := Aside0.mk (Q_S3 hb13_)
  clear Q_S3
  have C4 := Aside0.mk (Q_C4 hb17_)
  clear Q_C4
  have S4 := Aside0.mk (Q_S4 hb17_)
  clear Q_S4
  have G8 := Aside0.mk (Q_G8 hb5_ hb9_ hb13_ hb17_ hb28_)
  clear Q_G8
  have HR := Aside0.mk (Q_HR hb30_)
  clear Q_HR
  clear hall hb1_ hb2_ hb4_ hb5_ hb6_ hb8_ hb9_ hb10_ hb12_ hb13_ hb14_ hb16_ hb17_ hb18_ hb20_ hb21_ hb23_ hb24_ hb26_ hb27_ hb28_ hb29_ hb30_ hb31_
  go_wp2
  go_ret
  exact ⟨_, rfl, HR.out, FF.out.hb⟩
def bastilleref30_Bytes.f (kk : Nat) (k : Int) (u f n o : ByteArray) (ro ve : Int) (l7 : List Int) : Option (List Int) := if szOk u f n o = true then bastilleref02_Bytes.f kk 3 0 [] (row8 k u f n o ro ve l7) else none
theorem bastilleref30_Bytes.mono : ∀ k u f n o ro ve l7 kk, LeO (bastilleref30_Bytes.f kk k u f n o ro ve l7) (bastilleref30_Bytes.f (kk + 1) k u f n o ro ve l7) := by
 intro k u f n o ro ve l7 kk
 unfold bastilleref30_Bytes.f
 exact LeO.ite (bastilleref02_Bytes.mono _ _ _ _ _) (LeO.refl _)
theorem bastilleref30_Bytes.calls (kk : Nat) (k : Int) (u f n o : ByteArray) (ro ve : Int) (A7 : Option Addr) (c7 : Nat) (l7 : List Int) (r : List Int) (w : World) (hr0_7 : Kd.C (Kd.int .u8) w A7 l7.length l7) (hc0_7 : l7.length ≤ c7) (h : bastilleref30_Bytes.f kk k u f n o ro ve l7 = some r) :
  Calls Tryd.prog 16 #[.agg #[.int .i64 k, .string u, .string f, .string n, .string o, .int .i64 ro, .int .i64 ve, .slice A7 l7.length c7]] w fun e w' => ∃ v0_ : Value, e = .returned v0_ ∧ Kd.R (Kd.int .u8) 5 w' w.heap.size (fun _ => True) v0_ r ∧ Below w.heap.size w w' := by
 unfold bastilleref30_Bytes.f at h
 by_cases hs : szOk u f n o = true
 ·rw [if_pos hs] at h
  obtain ⟨hu, hf, hn, ho⟩ := szOk_iff hs
  exact bytes30_any kk k u f n o ro ve A7 c7 l7 r w hu hf hn ho hr0_7 hc0_7 h
 ·rw [if_neg hs] at h
  cases h

end Go.Proofs.YtiibnfnjfmcggaaDoor.PCallReads
