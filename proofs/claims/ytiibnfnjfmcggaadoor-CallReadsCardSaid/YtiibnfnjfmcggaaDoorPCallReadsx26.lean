-- Written by drive.py of this work: the kit's print.py with contracts of this work laid in.
import Derived.Test.YtiibnfnjfmcggaaDoorPCallReadsx0
import Derived.Test.YtiibnfnjfmcggaaDoorPCallReadsx10
import Derived.Test.YtiibnfnjfmcggaaDoorPCallReadsx17
import Derived.Test.YtiibnfnjfmcggaaDoorPCallReadsx20
import Derived.Test.YtiibnfnjfmcggaaDoorPCallReadsx22
import Derived.Test.YtiibnfnjfmcggaaDoorPCallReadsx25
namespace Go.Proofs.YtiibnfnjfmcggaaDoor.PCallReads
open Go.RowKit Go.Proofs.YtiibnfnjfmcggaaDoorW.PrintWords Go.Proofs.YtiibnfnjfmcggaaDoorW.PrintLast Go.Proofs.YtiibnfnjfmcggaaDoorW.PrintMore
attribute [local go_sem] max2_int min2_int max_two min_two max_three min_three max_four min_four   -- for this text's walks alone
set_option linter.unusedVariables false
set_option linter.unusedSimpArgs false

/-! ### bastilleref30_Read: function 17 -/
--ALONE
def ref30_Read.T5 : Bool × List (List Nat × List Nat) := (true, [([], []), ([0], [0]), ([1], [1]), ([2], [2]), ([], []), ([4], [4]), ([5], [5]), ([6], [6]), ([7], [7]), ([], []), ([9], [9]), ([10], [10]), ([11], [11]), ([12], [12]), ([], []), ([14], [14]), ([15], [15]), ([16], [16]), ([17], [17]), ([], []), ([19], [19]), ([20], [20]), ([21], [21]), ([22], [22]), ([], []), ([24], [24]), ([25], [25]), ([26], [26]), ([], []), ([28], [28]), ([29], [29]), ([30], [30]), ([], []), ([32], [32]), ([33], [33]), ([34], [34]), ([3, 8, 13, 18, 23, 27, 31, 35], [3, 8, 13, 18, 23, 27, 31, 35]), ([], []), ([37, 36, 0, 1, 2, 3, 4, 5, 6, 7, 8, 9, 10, 11, 12, 13, 14, 15, 16, 17, 18, 19, 20, 21, 22, 23, 24, 25, 26, 27, 28, 29, 30, 31, 32, 33, 34, 35, 36, 37], [36, 37])])
def ref30_Read.B5 : List Nat := [0, 1, 3, 7, 0, 16, 48, 112, 240, 0, 512, 1536, 3584, 7680, 0, 16384, 49152, 114688, 245760, 0, 524288, 1572864, 3670016, 7864320, 0, 16777216, 50331648, 117440512, 0, 268435456, 805306368, 1879048192, 0, 4294967296, 12884901888, 30064771072, 68719476735, 0, 274877906943]
theorem ref30_Read.tab5 : rtab .any (opsOf Tryd.f17 5) = ref30_Read.T5 := by kernel_rfl
theorem ref30_Read.bits5 : waitsOk ref30_Read.T5.2 ref30_Read.B5 = true := by kernel_rfl
theorem kinds_lit (k : Nat) (d0 d1 : Int) (A2 : Option Addr) (c2 : Nat) (d2 : List Int) (A3 : Option Addr) (c3 : Nat) (d3 : List S43) (g t : Nat) (q : Bool) (w : World) (h2 : Kd.C (Kd.int .u8) w A2 d2.length d2) (l2 : d2.length ≤ c2) (h3 : Kd.C k43 w A3 d3.length d3) (l3 : d3.length ≤ c3)
  (hg : w.heap[g]? = some (.cells (([1, 2, 2, 2, 2, 1, 1, 2] : List Int).map (Value.int .i64)).toArray t (0, 0))) (h : bastilleref28_Kinds.f k d0 d1 d2 d3 [1, 2, 2, 2, 2, 1, 1, 2] = some q) :
  Calls Tryd.prog 35 #[.agg #[.int .i64 d0, .int .i64 d1, .slice A2 d2.length c2, .slice A3 d3.length c3], .slice (some ⟨g, 0, none⟩) 8 8] w fun e w' => e = .returned (.bool q) ∧ Below w.heap.size w w' :=
 bastilleref28_Kinds.calls k d0 d1 A2 c2 d2 A3 c3 d3 (some ⟨g, 0, none⟩) 8 [1, 2, 2, 2, 2, 1, 1, 2] q w h2 l2 h3 l3 (C_i64 [1, 2, 2, 2, 2, 1, 1, 2] (by decide) hg) (Nat.le_refl 8) h
theorem C_V8 {W w1 : World} {A : Option Addr} {c : Nat} {xs : List Int} (h : Kd.C (Kd.int .u8) W A xs.length xs) (hc : xs.length ≤ c) (hb : Below W.heap.size W w1) : Kd.V (Kd.int .u8) 5 w1 0 (fun k_ => k_ < W.heap.size) (.slice A xs.length c) xs :=
 Kd.V_mk hc (Kd.F_below (Kd.C_F (Kd.heap_int .u8) h) hb)
def mayR (k : Nat) (c : Int × ByteArray × ByteArray × ByteArray × ByteArray × Int × Int × List Int) : Option Bool := bastilleref30_May.f k c.1 c.2.1 c.2.2.1 c.2.2.2.1 c.2.2.2.2.1 c.2.2.2.2.2.1 c.2.2.2.2.2.2.1 c.2.2.2.2.2.2.2
def bastilleref30_Read.f (k : Nat) (l0 : List Int) : Option ((Int × ByteArray × ByteArray × ByteArray × ByteArray × Int × Int × List Int) × Int) :=
 (bastilleref02_Decode.f k l0).bind fun d => if d.2.2.2.2 = 0 then (bastilleref28_Kinds.f k d.1 d.2.1 d.2.2.1 d.2.2.2.1 [1, 2, 2, 2, 2, 1, 1, 2]).bind fun q => if q = true then (if d.2.2.2.1.length = 8 then (mayR k (rd8 d.2.2.2.1)).bind fun m => if m = true then some (rd8 d.2.2.2.1, 0) else some (zCall, 13) else none) else some (zCall, 13) else some (zCall, 13)
theorem bastilleref30_Read.mono : ∀ l0 k, LeO (bastilleref30_Read.f k l0) (bastilleref30_Read.f (k + 1) l0) := by
 intro l0 k
 unfold bastilleref30_Read.f
 exact LeO.bind (bastilleref02_Decode.mono _ _) fun _ => LeO.ite (LeO.bind (bastilleref28_Kinds.mono _ _ _ _ _ _) fun _ => LeO.ite (LeO.ite (LeO.bind (bastilleref30_May.mono _ _ _ _ _ _ _ _ _) fun _ => LeO.refl _) (LeO.refl _)) (LeO.refl _)) (LeO.refl _)
set_option maxHeartbeats 4000000 in
set_option maxRecDepth 100000 in
theorem bastilleref30_Read.calls (k : Nat) (A0 : Option Addr) (c0 : Nat) (l0 : List Int) (r : Int × ByteArray × ByteArray × ByteArray × ByteArray × Int × Int × List Int) (e : Int) (w : World) (hr0 : Kd.C (Kd.int .u8) w A0 l0.length l0) (hc0 : l0.length ≤ c0) (h : bastilleref30_Read.f k l0 = some (r, e)) :
  Calls Tryd.prog 17 #[.slice A0 l0.length c0] w fun en w' => ∃ A7 c7, en = .returned (.tuple #[callV r A7 c7, .int .i64 e]) ∧ r.2.2.2.2.2.2.2.length ≤ c7 ∧ Kd.C (Kd.int .u8) w' A7 r.2.2.2.2.2.2.2.length r.2.2.2.2.2.2.2 ∧ Below w.heap.size w w' := by
 have H0 := Aside0.mk hr0
 have D0 := Aside0.mk hc0
 clear hr0 hc0
 have FF := Aside0.mk (show TS w (w.alloc (.cells #[.int .i64 0, .string ByteArray.empty, .string ByteArray.empty, .string ByteArray.empty, .string ByteArray.empty, .int .i64 0, .int .i64 0, .slice none 0 0] 24)) from ⟨(Below.refl _ w).alloc (Nat.le_refl _) _, Array.getElem?_push_size⟩)
 unfold bastilleref30_Read.f at h
 obtain ⟨⟨d0, d1, d2, d3, d4⟩, hd, h1⟩ := Option.bind_eq_some_iff.1 h
 simp only at h1
 have HD := Aside0.mk hd
 have H := Aside0.mk h1
 clear hd h1
 go_enter Tryd.func17, Tryd.ntmps17
 go_wp2_with fail
 refine (bastilleref02_Decode.calls k (fun k_ => k_ < w.heap.size) A0 c0 l0 d0 d1 d2 d3 d4 _ (C_V8 H0.out D0.out (below_alloc (Below.refl _ _) _)) HD.out).mono ?_
 rintro en w1 ⟨v2, v3, rfl, hv2, hv3, hb⟩
 obtain ⟨A2, c2, rfl⟩ := Kd.V_slice hv2
 obtain ⟨A3, c3, rfl⟩ := Kd.N_slice hv3
 have FN_ := Aside0.mk (FF.out.step hb)
 have R2 := Aside0.mk hv2
 have R3 := Aside0.mk hv3
 clear FF hb H0 D0 HD hv2 hv3
 have FF := FN_
 clear FN_
 go_upto_region 2 with (fail)
 have FV := Aside0.mk (show VB w1.heap.size (w1.alloc (.cells #[.int .i64 d0, .int .i64 d1, .slice A2 d2.length c2, .slice A3 d3.length c3] 43)) (.int .i64 d0) (.int .i64 d1) (.slice A2 d2.length c2) (.slice A3 d3.length c3) from Array.getElem?_push_size)
 have hb := below_alloc (Below.refl w1.heap.size w1) (.cells #[.int .i64 d0, .int .i64 d1, .slice A2 d2.length c2, .slice A3 d3.length c3] 43)
 have LT := Aside0.mk (show w.heap.size < w1.heap.size from blk_lt FF.out.z)
 have FN_ := Aside0.mk (FF.out.step hb)
 have S2 := Aside0.mk (Kd.C_below (Kd.V_reads' R2.out).2.2 hb)
 have L2 := Aside0.mk (Kd.V_reads' R2.out).2.1
 have S3 := Aside0.mk (show Kd.V k43 43 _ w1.heap.size (fun k_ => k_ ≠ w.heap.size) _ _ from Kd.V_below (Kd.V_mono (Kd.N_V R3.out) (fun k hk => hk.elim Nat.ne_of_lt (fun h_ => Nat.ne_of_gt (Nat.lt_of_lt_of_le (by rw [fsz]; exact Nat.lt_succ_self _) h_)))) hb)
 clear FF R2 R3 hb
 have FF := FN_
 clear FN_
 generalize w1.alloc (.cells #[.int .i64 d0, .int .i64 d1, .slice A2 d2.length c2, .slice A3 d3.length c3] 43) = w2 at FF FV S2 S3 ⊢
 generalize w1.heap.size = gd at FV LT S3 ⊢
 by_cases hd4 : d4 = 0
 rotate_left
 ·have t1 : (d4 == 0) = false := beq_eq_false_iff_ne.2 hd4
  have t2 : (d4 != 0) = true := by simp [hd4]
  have h1 := H.out
  rw [if_neg hd4] at h1
  cases h1
  clear H FV S2 S3 L2 LT
  obtain ⟨z0, z1, z2, z3, z4, z5, z6, z7⟩ := cb_cells FF.out.z
  have f0 := blk_frozen FF.out.z 0
  have f1 := blk_frozen FF.out.z 1
  have f2 := blk_frozen FF.out.z 2
  have f3 := blk_frozen FF.out.z 3
  have f4 := blk_frozen FF.out.z 4
  have f5 := blk_frozen FF.out.z 5
  have f6 := blk_frozen FF.out.z 6
  have f7 := blk_frozen FF.out.z 7
  go_wp2
  refine bodyPost_ret (results_ct rfl _ _ w.heap.size 24 #[.int .i64 0, .string ByteArray.empty, .string ByteArray.empty, .string ByteArray.empty, .string ByteArray.empty, .int .i64 0, .int .i64 0, .slice none 0 0] (0, 0) _ rfl (cb_put8 FF.out.z _ _ _ _ _ _ _ _) Tryd.underlying24 rfl (by kernel_rfl)) rfl ?_
  exact zfin FF.out _ rfl
 subst hd4
 have h1 := H.out
 clear H
 simp only [if_true] at h1
 obtain ⟨qb, hq, h2⟩ := Option.bind_eq_some_iff.1 h1
 have HQ := Aside0.mk hq
 have H := Aside0.mk h2
 clear hq h2 h1
 obtain ⟨y0, y1, y2, y3⟩ := (show _ from vb_cells FV.out)
 go_wp2_with fail
 have hb := below_alloc (Below.refl w2.heap.size w2) (.cells #[.int .i64 1, .int .i64 2, .int .i64 2, .int .i64 2, .int .i64 2, .int .i64 1, .int .i64 1, .int .i64 2] 3)
 have S3b := Aside0.mk (show Kd.V k43 43 (w2.alloc (.cells #[.int .i64 1, .int .i64 2, .int .i64 2, .int .i64 2, .int .i64 2, .int .i64 1, .int .i64 1, .int .i64 2] 3)) gd _ _ _ from Kd.V_below S3.out hb)
 refine (kinds_lit k d0 d1 A2 c2 d2 A3 c3 d3 w2.heap.size 3 qb _ (Kd.C_below S2.out hb) L2.out (Kd.V_reads' S3b.out).2.2 (Kd.V_reads' S3b.out).2.1 Array.getElem?_push_size HQ.out).mono ?_
 rintro en w3 ⟨rfl, hc⟩
 have FN_ := Aside0.mk ((FF.out.step hb).step hc)
 have V4 := Aside0.mk (Kd.V_below S3b.out hc)
 have VN_ := Aside0.mk (vb_below (vb_below FV.out hb) hc)
 clear y0 y1 y2 y3 HQ S2 S3 S3b L2 FV FF hb hc
 have FF := FN_
 have FV := VN_
 clear FN_ VN_
 have h1 := H.out
 clear H
 cases qb
 ·simp only [Bool.false_eq_true, if_false] at h1
  cases h1
  clear V4 FV
  obtain ⟨z0, z1, z2, z3, z4, z5, z6, z7⟩ := cb_cells FF.out.z
  have f0 := blk_frozen FF.out.z 0
  have f1 := blk_frozen FF.out.z 1
  have f2 := blk_frozen FF.out.z 2
  have f3 := blk_frozen FF.out.z 3
  have f4 := blk_frozen FF.out.z 4
  have f5 := blk_frozen FF.out.z 5
  have f6 := blk_frozen FF.out.z 6
  have f7 := blk_frozen FF.out.z 7
  go_wp2
  refine bodyPost_ret (results_ct rfl _ _ w.heap.size 24 #[.int .i64 0, .string ByteArray.empty, .string ByteArray.empty, .string ByteArray.empty, .string ByteArray.empty, .int .i64 0, .int .i64 0, .slice none 0 0] (0, 0) _ rfl (cb_put8 FF.out.z _ _ _ _ _ _ _ _) Tryd.underlying24 rfl (by kernel_rfl)) rfl ?_
  exact zfin FF.out _ rfl
 simp only [if_true] at h1
 by_cases hl : d3.length = 8
 rotate_left
 ·rw [if_neg hl] at h1
  cases h1
 rw [if_pos hl] at h1
 obtain ⟨m, hm, h2⟩ := Option.bind_eq_some_iff.1 h1
 have HM := Aside0.mk hm
 have H := Aside0.mk h2
 clear hm h2 h1
 obtain ⟨y0, y1, y2, y3⟩ := (show _ from vb_cells FV.out)
 go_upto_region 5 with (fail)
 clear y0 y1 y2 y3 FV
 have F8 := Aside0.mk (show Kd.F k43 w3 (fun k_ => k_ ≠ w.heap.size) A3 8 d3 from by have h_ := Kd.V_F V4.out; rw [hl] at h_; exact h_)
 try rw [hl]
 clear V4 LT
 obtain ⟨ad, B1, B2, B3, B4, B7, b1, b2, b3, b4, b7, hA, E_⟩ := els8 (Kd.F_bound (Kd.F_drew F8.out))
 subst hA
 have E := Aside0.mk E_
 clear E_ F8
 have FN_ := Aside0.mk FF.out.drew
 clear FF
 have FF := FN_
 clear FN_
 refine start_ (n := 39) (S := fun w' => w'.cell? ⟨ad.block, ad.off + 1, none⟩ = some (.int .i64 (rd_T43 d3 0).f1) ∧ w'.cell? ⟨ad.block, ad.off + 4 + 2, none⟩ = some (.slice B1 (rd_T43 d3 1).f2.length b1) ∧ (convert 22 9 (.slice B1 (rd_T43 d3 1).f2.length b1)).run Tryd.prog w' = .ok (.string (strOfNums (rd_T43 d3 1).f2)) w' ∧ w'.cell? ⟨ad.block, ad.off + 8 + 2, none⟩ = some (.slice B2 (rd_T43 d3 2).f2.length b2) ∧ (convert 22 9 (.slice B2 (rd_T43 d3 2).f2.length b2)).run Tryd.prog w' = .ok (.string (strOfNums (rd_T43 d3 2).f2)) w' ∧ w'.cell? ⟨ad.block, ad.off + 12 + 2, none⟩ = some (.slice B3 (rd_T43 d3 3).f2.length b3) ∧ (convert 22 9 (.slice B3 (rd_T43 d3 3).f2.length b3)).run Tryd.prog w' = .ok (.string (strOfNums (rd_T43 d3 3).f2)) w' ∧ w'.cell? ⟨ad.block, ad.off + 16 + 2, none⟩ = some (.slice B4 (rd_T43 d3 4).f2.length b4) ∧ (convert 22 9 (.slice B4 (rd_T43 d3 4).f2.length b4)).run Tryd.prog w' = .ok (.string (strOfNums (rd_T43 d3 4).f2)) w' ∧ w'.cell? ⟨ad.block, ad.off + 20 + 1, none⟩ = some (.int .i64 (rd_T43 d3 5).f1) ∧ w'.cell? ⟨ad.block, ad.off + 24 + 1, none⟩ = some (.int .i64 (rd_T43 d3 6).f1) ∧ w'.cell? ⟨ad.block, ad.off + 28 + 2, none⟩ = some (.slice B7 (rd_T43 d3 7).f2.length b7)) (ds := [38]) #[false, false, false, false, false, false, false, false, false, false, false, false, false, false, false, false, false, false, false, false, false, false, false, false, false, false, false, false, false, false, false, false, false, false, false, false, false, false, false] (by kernel_rfl) rfl rfl ⟨E.out.y0, E.out.y1, Kd.C_string Tryd.underlying22 Tryd.underlying5 Tryd.underlying9 (Kd.F_now E.out.g1), E.out.y2, Kd.C_string Tryd.underlying22 Tryd.underlying5 Tryd.underlying9 (Kd.F_now E.out.g2), E.out.y3, Kd.C_string Tryd.underlying22 Tryd.underlying5 Tryd.underlying9 (Kd.F_now E.out.g3), E.out.y4, Kd.C_string Tryd.underlying22 Tryd.underlying5 Tryd.underlying9 (Kd.F_now E.out.g4), E.out.y5, E.out.y6, E.out.y7⟩ (fun hHeld => ?_)
 refine with_tabW ref30_Read.tab5 ref30_Read.bits5 (fun HT_ HW_ => ?_)
 generalize World.drew _ = wd at FF E hHeld ⊢
 refine pure_ (i := 0) (N := some 24) (v := ?_) (a' := ?_) #[true, false, false, false, false, false, false, false, false, false, false, false, false, false, false, false, false, false, false, false, false, false, false, false, false, false, false, false, false, false, false, false, false, false, false, false, false, false, false] rfl rfl (any_of HT_.out (by kernel_rfl)) (fun _ _ _ h => h) (Or.inl ⟨by rfl, ?_⟩) ?_ ?_
 rotate_left
 ·intro w'
  go_simp
  with_reducible rfl
 rotate_left
 ·simp only [Act.put, List.setIfInBounds_toArray, List.set_cons_zero, List.set_cons_succ, i64_w, i32_w]
  rfl
 refine pure_ (i := 1) (N := some 25) (v := ?_) (a' := ?_) #[true, true, false, false, false, false, false, false, false, false, false, false, false, false, false, false, false, false, false, false, false, false, false, false, false, false, false, false, false, false, false, false, false, false, false, false, false, false, false] rfl rfl (any_of HT_.out (by kernel_rfl)) (fun _ _ _ h => h) (Or.inl ⟨by rfl, ?_⟩) ?_ ?_
 rotate_left
 ·intro w'
  go_simp
  with_reducible rfl
 rotate_left
 ·simp only [Act.put, List.setIfInBounds_toArray, List.set_cons_zero, List.set_cons_succ, i64_w, i32_w]
  rfl
 refine pure_ (i := 2) (N := some 26) (v := ?_) (a' := ?_) #[true, true, true, false, false, false, false, false, false, false, false, false, false, false, false, false, false, false, false, false, false, false, false, false, false, false, false, false, false, false, false, false, false, false, false, false, false, false, false] rfl rfl (any_of HT_.out (by kernel_rfl)) (fun _ _ _ h => h) (Or.inl ⟨by rfl, ?_⟩) ?_ ?_
 rotate_left
 ·intro w'
  go_simp
  with_reducible rfl
 rotate_left
 ·simp only [Act.put, List.setIfInBounds_toArray, List.set_cons_zero, List.set_cons_succ, i64_w, i32_w]
  rfl
 refine pure_ (i := 4) (N := some 28) (v := ?_) (a' := ?_) #[true, true, true, false, true, false, false, false, false, false, false, false, false, false, false, false, false, false, false, false, false, false, false, false, false, false, false, false, false, false, false, false, false, false, false, false, false, false, false] rfl rfl (any_of HT_.out (by kernel_rfl)) (fun _ _ _ h => h) (Or.inl ⟨by rfl, ?_⟩) ?_ ?_
 rotate_left
 ·intro w'
  go_simp
  with_reducible rfl
 rotate_left
 ·simp only [Act.put, List.setIfInBounds_toArray, List.set_cons_zero, List.set_cons_succ, i64_w, i32_w]
  rfl
 refine pure_ (i := 5) (N := some 29) (v := ?_) (a' := ?_) #[true, true, true, false, true, true, false, false, false, false, false, false, false, false, false, false, false, false, false, false, false, false, false, false, false, false, false, false, false, false, false, false, false, false, false, false, false, false, false] rfl rfl (any_of HT_.out (by kernel_rfl)) (fun _ _ _ h => h) (Or.inl ⟨by rfl, ?_⟩) ?_ ?_
 rotate_left
 ·intro w'
  go_simp
  with_reducible rfl
 rotate_left
 ·simp only [Act.put, List.setIfInBounds_toArray, List.set_cons_zero, List.set_cons_succ, i64_w, i32_w]
  rfl
 refine pure_ (i := 6) (N := some 30) (v := ?_) (a' := ?_) #[true, true, true, false, true, true, true, false, false, false, false, false, false, false, false, false, false, false, false, false, false, false, false, false, false, false, false, false, false, false, false, false, false, false, false, false, false, false, false] rfl rfl (any_of HT_.out (by kernel_rfl)) (fun _ _ _ h => h) (Or.inl ⟨by rfl, ?_⟩) ?_ ?_
 rotate_left
 ·intro w'
  go_simp
  with_reducible rfl
 rotate_left
 ·simp only [Act.put, List.setIfInBounds_toArray, List.set_cons_zero, List.set_cons_succ, i64_w, i32_w]
  rfl
 refine pure_ (i := 9) (N := some 33) (v := ?_) (a' := ?_) #[true, true, true, false, true, true, true, false, false, true, false, false, false, false, false, false, false, false, false, false, false, false, false, false, false, false, false, false, false, false, false, false, false, false, false, false, false, false, false] rfl rfl (any_of HT_.out (by kernel_rfl)) (fun _ _ _ h => h) (Or.inl ⟨by rfl, ?_⟩) ?_ ?_
 rotate_left
 ·intro w'
  go_simp
  with_reducible rfl
 rotate_left
 ·simp only [Act.put, List.setIfInBounds_toArray, List.set_cons_zero, List.set_cons_succ, i64_w, i32_w]
  rfl
 refine pure_ (i := 10) (N := some 34) (v := ?_) (a' := ?_) #[true, true, true, false, true, true, true, false, false, true, true, false, false, false, false, false, false, false, false, false, false, false, false, false, false, false, false, false, false, false, false, false, false, false, false, false, false, false, false] rfl rfl (any_of HT_.out (by kernel_rfl)) (fun _ _ _ h => h) (Or.inl ⟨by rfl, ?_⟩) ?_ ?_
 rotate_left
 ·intro w'
  go_simp
  with_reducible rfl
 rotate_left
 ·simp only [Act.put, List.setIfInBounds_toArray, List.set_cons_zero, List.set_cons_succ, i64_w, i32_w]
  rfl
 refine pure_ (i := 11) (N := some 35) (v := ?_) (a' := ?_) #[true, true, true, false, true, true, true, false, false, true, true, true, false, false, false, false, false, false, false, false, false, false, false, false, false, false, false, false, false, false, false, false, false, false, false, false, false, false, false] rfl rfl (any_of HT_.out (by kernel_rfl)) (fun _ _ _ h => h) (Or.inl ⟨by rfl, ?_⟩) ?_ ?_
 rotate_left
 ·intro w'
  go_simp
  with_reducible rfl
 rotate_left
 ·simp only [Act.put, List.setIfInBounds_toArray, List.set_cons_zero, List.set_cons_succ, i64_w, i32_w]
  rfl
 refine pure_ (i := 14) (N := some 38) (v := ?_) (a' := ?_) #[true, true, true, false, true, true, true, false, false, true, true, true, false, false, true, false, false, false, false, false, false, false, false, false, false, false, false, false, false, false, false, false, false, false, false, false, false, false, false] rfl rfl (any_of HT_.out (by kernel_rfl)) (fun _ _ _ h => h) (Or.inl ⟨by rfl, ?_⟩) ?_ ?_
 rotate_left
 ·intro w'
  go_simp
  with_reducible rfl
 rotate_left
 ·simp only [Act.put, List.setIfInBounds_toArray, List.set_cons_zero, List.set_cons_succ, i64_w, i32_w]
  rfl
 refine pure_ (i := 15) (N := some 39) (v := ?_) (a' := ?_) #[true, true, true, false, true, true, true, false, false, true, true, true, false, false, true, true, false, false, false, false, false, false, false, false, false, false, false, false, false, false, false, false, false, false, false, false, false, false, false] rfl rfl (any_of HT_.out (by kernel_rfl)) (fun _ _ _ h => h) (Or.inl ⟨by rfl, ?_⟩) ?_ ?_
 rotate_left
 ·intro w'
  go_simp
  with_reducible rfl
 rotate_left
 ·simp only [Act.put, List.setIfInBounds_toArray, List.set_cons_zero, List.set_cons_succ, i64_w, i32_w]
  rfl
 refine pure_ (i := 16) (N := some 40) (v := ?_) (a' := ?_) #[true, true, true, false, true, true, true, false, false, true, true, true, false, false, true, true, true, false, false, false, false, false, false, false, false, false, false, false, false, false, false, false, false, false, false, false, false, false, false] rfl rfl (any_of HT_.out (by kernel_rfl)) (fun _ _ _ h => h) (Or.inl ⟨by rfl, ?_⟩) ?_ ?_
 rotate_left
 ·intro w'
  go_simp
  with_reducible rfl
 rotate_left
 ·simp only [Act.put, List.setIfInBounds_toArray, List.set_cons_zero, List.set_cons_succ, i64_w, i32_w]
  rfl
 refine pure_ (i := 19) (N := some 43) (v := ?_) (a' := ?_) #[true, true, true, false, true, true, true, false, false, true, true, true, false, false, true, true, true, false, false, true, false, false, false, false, false, false, false, false, false, false, false, false, false, false, false, false, false, false, false] rfl rfl (any_of HT_.out (by kernel_rfl)) (fun _ _ _ h => h) (Or.inl ⟨by rfl, ?_⟩) ?_ ?_
 rotate_left
 ·intro w'
  go_simp
  with_reducible rfl
 rotate_left
 ·simp only [Act.put, List.setIfInBounds_toArray, List.set_cons_zero, List.set_cons_succ, i64_w, i32_w]
  rfl
 refine pure_ (i := 20) (N := some 44) (v := ?_) (a' := ?_) #[true, true, true, false, true, true, true, false, false, true, true, true, false, false, true, true, true, false, false, true, true, false, false, false, false, false, false, false, false, false, false, false, false, false, false, false, false, false, false] rfl rfl (any_of HT_.out (by kernel_rfl)) (fun _ _ _ h => h) (Or.inl ⟨by rfl, ?_⟩) ?_ ?_
 rotate_left
 ·intro w'
  go_simp
  with_reducible rfl
 rotate_left
 ·simp only [Act.put, List.setIfInBounds_toArray, List.set_cons_zero, List.set_cons_succ, i64_w, i32_w]
  rfl
 refine pure_ (i := 21) (N := some 45) (v := ?_) (a' := ?_) #[true, true, true, false, true, true, true, false, false, true, true, true, false, false, true, true, true, false, false, true, true, true, false, false, false, false, false, false, false, false, false, false, false, false, false, false, false, false, false] rfl rfl (any_of HT_.out (by kernel_rfl)) (fun _ _ _ h => h) (Or.inl ⟨by rfl, ?_⟩) ?_ ?_
 rotate_left
 ·intro w'
  go_simp
  with_reducible rfl
 rotate_left
 ·simp only [Act.put, List.setIfInBounds_toArray, List.set_cons_zero, List.set_cons_succ, i64_w, i32_w]
  rfl
 refine pure_ (i := 24) (N := some 48) (v := ?_) (a' := ?_) #[true, true, true, false, true, true, true, false, false, true, true, true, false, false, true, true, true, false, false, true, true, true, false, false, true, false, false, false, false, false, false, false, false, false, false, false, false, false, false] rfl rfl (any_of HT_.out (by kernel_rfl)) (fun _ _ _ h => h) (Or.inl ⟨by rfl, ?_⟩) ?_ ?_
 rotate_left
 ·intro w'
  go_simp
  with_reducible rfl
 rotate_left
 ·simp only [Act.put, List.setIfInBounds_toArray, List.set_cons_zero, List.set_cons_succ, i64_w, i32_w]
  rfl
 refine pure_ (i := 25) (N := some 49) (v := ?_) (a' := ?_) #[true, true, true, false, true, true, true, false, false, true, true, true, false, false, true, true, true, false, false, true, true, true, false, false, true, true, false, false, false, false, false, false, false, false, false, false, false, false, false] rfl rfl (any_of HT_.out (by kernel_rfl)) (fun _ _ _ h => h) (Or.inl ⟨by rfl, ?_⟩) ?_ ?_
 rotate_left
 ·intro w'
  go_simp
  with_reducible rfl
 rotate_left
 ·simp only [Act.put, List.setIfInBounds_toArray, List.set_cons_zero, List.set_cons_succ, i64_w, i32_w]
  rfl
 refine pure_ (i := 26) (N := some 50) (v := ?_) (a' := ?_) #[true, true, true, false, true, true, true, false, false, true, true, true, false, false, true, true, true, false, false, true, true, true, false, false, true, true, true, false, false, false, false, false, false, false, false, false, false, false, false] rfl rfl (any_of HT_.out (by kernel_rfl)) (fun _ _ _ h => h) (Or.inl ⟨by rfl, ?_⟩) ?_ ?_
 rotate_left
 ·intro w'
  go_simp
  with_reducible rfl
 rotate_left
 ·simp only [Act.put, List.setIfInBounds_toArray, List.set_cons_zero, List.set_cons_succ, i64_w, i32_w]
  rfl
 refine pure_ (i := 28) (N := some 52) (v := ?_) (a' := ?_) #[true, true, true, false, true, true, true, false, false, true, true, true, false, false, true, true, true, false, false, true, true, true, false, false, true, true, true, false, true, false, false, false, false, false, false, false, false, false, false] rfl rfl (any_of HT_.out (by kernel_rfl)) (fun _ _ _ h => h) (Or.inl ⟨by rfl, ?_⟩) ?_ ?_
 rotate_left
 ·intro w'
  go_simp
  with_reducible rfl
 rotate_left
 ·simp only [Act.put, List.setIfInBounds_toArray, List.set_cons_zero, List.set_cons_succ, i64_w, i32_w]
  rfl
 refine pure_ (i := 29) (N := some 53) (v := ?_) (a' := ?_) #[true, true, true, false, true, true, true, false, false, true, true, true, false, false, true, true, true, false, false, true, true, true, false, false, true, true, true, false, true, true, false, false, false, false, false, false, false, false, false] rfl rfl (any_of HT_.out (by kernel_rfl)) (fun _ _ _ h => h) (Or.inl ⟨by rfl, ?_⟩) ?_ ?_
 rotate_left
 ·intro w'
  go_simp
  with_reducible rfl
 rotate_left
 ·simp only [Act.put, List.setIfInBounds_toArray, List.set_cons_zero, List.set_cons_succ, i64_w, i32_w]
  rfl
 refine pure_ (i := 30) (N := some 54) (v := ?_) (a' := ?_) #[true, true, true, false, true, true, true, false, false, true, true, true, false, false, true, true, true, false, false, true, true, true, false, false, true, true, true, false, true, true, true, false, false, false, false, false, false, false, false] rfl rfl (any_of HT_.out (by kernel_rfl)) (fun _ _ _ h => h) (Or.inl ⟨by rfl, ?_⟩) ?_ ?_
 rotate_left
 ·intro w'
  go_simp
  with_reducible rfl
 rotate_left
 ·simp only [Act.put, List.setIfInBounds_toArray, List.set_cons_zero, List.set_cons_succ, i64_w, i32_w]
  rfl
 refine pure_ (i := 32) (N := some 56) (v := ?_) (a' := ?_) #[true, true, true, false, true, true, true, false, false, true, true, true, false, false, true, true, true, false, false, true, true, true, false, false, true, true, true, false, true, true, true, false, true, false, false, false, false, false, false] rfl rfl (any_of HT_.out (by kernel_rfl)) (fun _ _ _ h => h) (Or.inl ⟨by rfl, ?_⟩) ?_ ?_
 rotate_left
 ·intro w'
  go_simp
  with_reducible rfl
 rotate_left
 ·simp only [Act.put, List.setIfInBounds_toArray, List.set_cons_zero, List.set_cons_succ, i64_w, i32_w]
  rfl
 refine pure_ (i := 33) (N := some 57) (v := ?_) (a' := ?_) #[true, true, true, false, true, true, true, false, false, true, true, true, false, false, true, true, true, false, false, true, true, true, false, false, true, true, true, false, true, true, true, false, true, true, false, false, false, false, false] rfl rfl (any_of HT_.out (by kernel_rfl)) (fun _ _ _ h => h) (Or.inl ⟨by rfl, ?_⟩) ?_ ?_
 rotate_left
 ·intro w'
  go_simp
  with_reducible rfl
 rotate_left
 ·simp only [Act.put, List.setIfInBounds_toArray, List.set_cons_zero, List.set_cons_succ, i64_w, i32_w]
  rfl
 refine pure_ (i := 34) (N := some 58) (v := ?_) (a' := ?_) #[true, true, true, false, true, true, true, false, false, true, true, true, false, false, true, true, true, false, false, true, true, true, false, false, true, true, true, false, true, true, true, false, true, true, true, false, false, false, false] rfl rfl (any_of HT_.out (by kernel_rfl)) (fun _ _ _ h => h) (Or.inl ⟨by rfl, ?_⟩) ?_ ?_
 rotate_left
 ·intro w'
  go_simp
  with_reducible rfl
 rotate_left
 ·simp only [Act.put, List.setIfInBounds_toArray, List.set_cons_zero, List.set_cons_succ, i64_w, i32_w]
  rfl
 refine take_ (i := 3) (N := some 27) (v := ?_) (a' := ?_) #[true, true, true, true, true, true, true, false, false, true, true, true, false, false, true, true, true, false, false, true, true, true, false, false, true, true, true, false, true, true, true, false, true, true, true, false, false, false, false] rfl rfl (take_ofW HT_.out HW_.out (by kernel_rfl)) (fun _ _ _ h => h) (Or.inl ⟨by rfl, ?_⟩) hHeld ?_ ?_
 rotate_left
 ·rintro w' ⟨s0, s1, s2, s3, s4, s5, s6, s7, s8, s9, s10, s11⟩
  go_simp
  with_reducible rfl
 rotate_left
 ·simp only [Act.put, List.setIfInBounds_toArray, List.set_cons_zero, List.set_cons_succ, i64_w, i32_w]
  rfl
 refine take_ (i := 7) (N := some 31) (v := ?_) (a' := ?_) #[true, true, true, true, true, true, true, true, false, true, true, true, false, false, true, true, true, false, false, true, true, true, false, false, true, true, true, false, true, true, true, false, true, true, true, false, false, false, false] rfl rfl (take_ofW HT_.out HW_.out (by kernel_rfl)) (fun _ _ _ h => h) (Or.inl ⟨by rfl, ?_⟩) hHeld ?_ ?_
 rotate_left
 ·rintro w' ⟨s0, s1, s2, s3, s4, s5, s6, s7, s8, s9, s10, s11⟩
  go_simp
  with_reducible rfl
 rotate_left
 ·simp only [Act.put, List.setIfInBounds_toArray, List.set_cons_zero, List.set_cons_succ, i64_w, i32_w]
  rfl
 refine take_ (i := 8) (N := some 32) (v := ?_) (a' := ?_) #[true, true, true, true, true, true, true, true, true, true, true, true, false, false, true, true, true, false, false, true, true, true, false, false, true, true, true, false, true, true, true, false, true, true, true, false, false, false, false] rfl rfl (take_ofW HT_.out HW_.out (by kernel_rfl)) (fun _ _ _ h => h) (Or.inl ⟨by rfl, ?_⟩) hHeld ?_ ?_
 rotate_left
 ·rintro w' ⟨s0, s1, s2, s3, s4, s5, s6, s7, s8, s9, s10, s11⟩
  go_simp
  with_reducible rfl
 rotate_left
 ·simp only [Act.put, List.setIfInBounds_toArray, List.set_cons_zero, List.set_cons_succ, i64_w, i32_w]
  rfl
 refine take_ (i := 12) (N := some 36) (v := ?_) (a' := ?_) #[true, true, true, true, true, true, true, true, true, true, true, true, true, false, true, true, true, false, false, true, true, true, false, false, true, true, true, false, true, true, true, false, true, true, true, false, false, false, false] rfl rfl (take_ofW HT_.out HW_.out (by kernel_rfl)) (fun _ _ _ h => h) (Or.inl ⟨by rfl, ?_⟩) hHeld ?_ ?_
 rotate_left
 ·rintro w' ⟨s0, s1, s2, s3, s4, s5, s6, s7, s8, s9, s10, s11⟩
  go_simp
  with_reducible rfl
 rotate_left
 ·simp only [Act.put, List.setIfInBounds_toArray, List.set_cons_zero, List.set_cons_succ, i64_w, i32_w]
  rfl
 refine take_ (i := 13) (N := some 37) (v := ?_) (a' := ?_) #[true, true, true, true, true, true, true, true, true, true, true, true, true, true, true, true, true, false, false, true, true, true, false, false, true, true, true, false, true, true, true, false, true, true, true, false, false, false, false] rfl rfl (take_ofW HT_.out HW_.out (by kernel_rfl)) (fun _ _ _ h => h) (Or.inl ⟨by rfl, ?_⟩) hHeld ?_ ?_
 rotate_left
 ·rintro w' ⟨s0, s1, s2, s3, s4, s5, s6, s7, s8, s9, s10, s11⟩
  go_simp
  with_reducible rfl
 rotate_left
 ·simp only [Act.put, List.setIfInBounds_toArray, List.set_cons_zero, List.set_cons_succ, i64_w, i32_w]
  rfl
 refine take_ (i := 17) (N := some 41) (v := ?_) (a' := ?_) #[true, true, true, true, true, true, true, true, true, true, true, true, true, true, true, true, true, true, false, true, true, true, false, false, true, true, true, false, true, true, true, false, true, true, true, false, false, false, false] rfl rfl (take_ofW HT_.out HW_.out (by kernel_rfl)) (fun _ _ _ h => h) (Or.inl ⟨by rfl, ?_⟩) hHeld ?_ ?_
 rotate_left
 ·rintro w' ⟨s0, s1, s2, s3, s4, s5, s6, s7, s8, s9, s10, s11⟩
  go_simp
  with_reducible rfl
 rotate_left
 ·simp only [Act.put, List.setIfInBounds_toArray, List.set_cons_zero, List.set_cons_succ, i64_w, i32_w]
  rfl
 refine take_ (i := 18) (N := some 42) (v := ?_) (a' := ?_) #[true, true, true, true, true, true, true, true, true, true, true, true, true, true, true, true, true, true, true, true, true, true, false, false, true, true, true, false, true, true, true, false, true, true, true, false, false, false, false] rfl rfl (take_ofW HT_.out HW_.out (by kernel_rfl)) (fun _ _ _ h => h) (Or.inl ⟨by rfl, ?_⟩) hHeld ?_ ?_
 rotate_left
 ·rintro w' ⟨s0, s1, s2, s3, s4, s5, s6, s7, s8, s9, s10, s11⟩
  go_simp
  with_reducible rfl
 rotate_left
 ·simp only [Act.put, List.setIfInBounds_toArray, List.set_cons_zero, List.set_cons_succ, i64_w, i32_w]
  rfl
 refine take_ (i := 22) (N := some 46) (v := ?_) (a' := ?_) #[true, true, true, true, true, true, true, true, true, true, true, true, true, true, true, true, true, true, true, true, true, true, true, false, true, true, true, false, true, true, true, false, true, true, true, false, false, false, false] rfl rfl (take_ofW HT_.out HW_.out (by kernel_rfl)) (fun _ _ _ h => h) (Or.inl ⟨by rfl, ?_⟩) hHeld ?_ ?_
 rotate_left
 ·rintro w' ⟨s0, s1, s2, s3, s4, s5, s6, s7, s8, s9, s10, s11⟩
  go_simp
  with_reducible rfl
 rotate_left
 ·simp only [Act.put, List.setIfInBounds_toArray, List.set_cons_zero, List.set_cons_succ, i64_w, i32_w]
  rfl
 refine take_ (i := 23) (N := some 47) (v := ?_) (a' := ?_) #[true, true, true, true, true, true, true, true, true, true, true, true, true, true, true, true, true, true, true, true, true, true, true, true, true, true, true, false, true, true, true, false, true, true, true, false, false, false, false] rfl rfl (take_ofW HT_.out HW_.out (by kernel_rfl)) (fun _ _ _ h => h) (Or.inl ⟨by rfl, ?_⟩) hHeld ?_ ?_
 rotate_left
 ·rintro w' ⟨s0, s1, s2, s3, s4, s5, s6, s7, s8, s9, s10, s11⟩
  go_simp
  with_reducible rfl
 rotate_left
 ·simp only [Act.put, List.setIfInBounds_toArray, List.set_cons_zero, List.set_cons_succ, i64_w, i32_w]
  rfl
 refine take_ (i := 27) (N := some 51) (v := ?_) (a' := ?_) #[true, true, true, true, true, true, true, true, true, true, true, true, true, true, true, true, true, true, true, true, true, true, true, true, true, true, true, true, true, true, true, false, true, true, true, false, false, false, false] rfl rfl (take_ofW HT_.out HW_.out (by kernel_rfl)) (fun _ _ _ h => h) (Or.inl ⟨by rfl, ?_⟩) hHeld ?_ ?_
 rotate_left
 ·rintro w' ⟨s0, s1, s2, s3, s4, s5, s6, s7, s8, s9, s10, s11⟩
  go_simp
  with_reducible rfl
 rotate_left
 ·simp only [Act.put, List.setIfInBounds_toArray, List.set_cons_zero, List.set_cons_succ, i64_w, i32_w]
  rfl
 refine take_ (i := 31) (N := some 55) (v := ?_) (a' := ?_) #[true, true, true, true, true, true, true, true, true, true, true, true, true, true, true, true, true, true, true, true, true, true, true, true, true, true, true, true, true, true, true, true, true, true, true, false, false, false, false] rfl rfl (take_ofW HT_.out HW_.out (by kernel_rfl)) (fun _ _ _ h => h) (Or.inl ⟨by rfl, ?_⟩) hHeld ?_ ?_
 rotate_left
 ·rintro w' ⟨s0, s1, s2, s3, s4, s5, s6, s7, s8, s9, s10, s11⟩
  go_simp
  with_reducible rfl
 rotate_left
 ·simp only [Act.put, List.setIfInBounds_toArray, List.set_cons_zero, List.set_cons_succ, i64_w, i32_w]
  rfl
 refine take_ (i := 35) (N := some 59) (v := ?_) (a' := ?_) #[true, true, true, true, true, true, true, true, true, true, true, true, true, true, true, true, true, true, true, true, true, true, true, true, true, true, true, true, true, true, true, true, true, true, true, true, false, false, false] rfl rfl (take_ofW HT_.out HW_.out (by kernel_rfl)) (fun _ _ _ h => h) (Or.inl ⟨by rfl, ?_⟩) hHeld ?_ ?_
 rotate_left
 ·rintro w' ⟨s0, s1, s2, s3, s4, s5, s6, s7, s8, s9, s10, s11⟩
  go_simp
  with_reducible rfl
 rotate_left
 ·simp only [Act.put, List.setIfInBounds_toArray, List.set_cons_zero, List.set_cons_succ, i64_w, i32_w]
  rfl
 refine pure_ (i := 36) (N := some 60) (v := ?_) (a' := ?_) #[true, true, true, true, true, true, true, true, true, true, true, true, true, true, true, true, true, true, true, true, true, true, true, true, true, true, true, true, true, true, true, true, true, true, true, true, true, false, false] rfl rfl (any_of HT_.out (by kernel_rfl)) (fun _ _ _ h => h) (Or.inl ⟨by rfl, ?_⟩) ?_ ?_
 rotate_left
 ·intro w'
  go_simp
  with_reducible rfl
 rotate_left
 ·simp only [Act.put, List.setIfInBounds_toArray, List.set_cons_zero, List.set_cons_succ, i64_w, i32_w]
  rfl
 refine one_ (i := 37) (N := some 7) #[true, true, true, true, true, true, true, true, true, true, true, true, true, true, true, true, true, true, true, true, true, true, true, true, true, true, true, true, true, true, true, true, true, true, true, true, true, true, false] rfl rfl (one_of HT_.out (by kernel_rfl)) (by decide) (fun K hK => ?_)
 refine box_step ?hg (N := 7) ?hd (cs := #[.int .i64 0, .string ByteArray.empty, .string ByteArray.empty, .string ByteArray.empty, .string ByteArray.empty, .int .i64 0, .int .i64 0, .slice none 0 0]) (t := 24) ?hr ?_; (case hd => rfl); (case hg => rfl); (case hr => first | (go_simp; done) | (go_simp; rfl))
 intro g_ hg w4 hbox hb4
 have LT := Aside0.mk (show w.heap.size < g_ by rw [hg]; exact blk_lt FF.out.z)
 have BX := Aside0.mk (show CB g_ w4 (.int .i64 0) (.string ByteArray.empty) (.string ByteArray.empty) (.string ByteArray.empty) (.string ByteArray.empty) (.int .i64 0) (.int .i64 0) (.slice none 0 0) from hbox)
 have F4 := Aside0.mk (FF.out.step hb4)
 have E4 := Aside0.mk (E.out.below hb4)
 have HG := Aside0.mk (show wd.heap.size ≤ g_ by rw [hg]; exact Nat.le_refl _)
 clear hb4 hbox hg FF E
 have E := E4
 clear E4
 refine hK.out _ _ ⟨E.out.y0, E.out.y1, Kd.C_string Tryd.underlying22 Tryd.underlying5 Tryd.underlying9 (Kd.F_now E.out.g1), E.out.y2, Kd.C_string Tryd.underlying22 Tryd.underlying5 Tryd.underlying9 (Kd.F_now E.out.g2), E.out.y3, Kd.C_string Tryd.underlying22 Tryd.underlying5 Tryd.underlying9 (Kd.F_now E.out.g3), E.out.y4, Kd.C_string Tryd.underlying22 Tryd.underlying5 Tryd.underlying9 (Kd.F_now E.out.g4), E.out.y5, E.out.y6, E.out.y7⟩ (fun hHeld => ?_)
 clear hK K
 refine norm_ (a' := ?_) ?_ ?_
 rotate_left
 ·show Act.put _ (some 7) _ = _
  simp only [Act.put, List.setIfInBounds_toArray, List.set_cons_zero, List.set_cons_succ, i64_w, i32_w]
  rfl
 refine last_ (i := 38) (N := none) #[true, true, true, true, true, true, true, true, true, true, true, true, true, true, true, true, true, true, true, true, true, true, true, true, true, true, true, true, true, true, true, true, true, true, true, true, true, true, true] rfl rfl (one_of HT_.out (by kernel_rfl)) (by decide) (fun K hK => ?_)
 obtain ⟨z0, z1, z2, z3, z4, z5, z6, z7⟩ := cb_cells BX.out
 have f0 := blk_frozen BX.out 0
 have f1 := blk_frozen BX.out 1
 have f2 := blk_frozen BX.out 2
 have f3 := blk_frozen BX.out 3
 have f4 := blk_frozen BX.out 4
 have f5 := blk_frozen BX.out 5
 have f6 := blk_frozen BX.out 6
 have f7 := blk_frozen BX.out 7
 refine skip_ (w1 := ((((((((w4.setCell ⟨g_, 0, none⟩ (.int .i64 (rd_T43 d3 0).f1)).setCell ⟨g_, 1, none⟩ (.string (strOfNums (rd_T43 d3 1).f2))).setCell ⟨g_, 2, none⟩ (.string (strOfNums (rd_T43 d3 2).f2))).setCell ⟨g_, 3, none⟩ (.string (strOfNums (rd_T43 d3 3).f2))).setCell ⟨g_, 4, none⟩ (.string (strOfNums (rd_T43 d3 4).f2))).setCell ⟨g_, 5, none⟩ (.int .i64 (rd_T43 d3 5).f1)).setCell ⟨g_, 6, none⟩ (.int .i64 (rd_T43 d3 6).f1)).setCell ⟨g_, 7, none⟩ (.slice B7 (rd_T43 d3 7).f2.length b7))) (by rfl) rfl ?_ ?_
 ·first | (go_simp; done) | (go_simp; rfl)
 refine hK.out _ _ ?_
 clear hK K
 refine done_ (done_of HT_.out (by kernel_rfl)) ?_
 have FA := Aside0.mk (show TS w ((((((((w4.setCell ⟨g_, 0, none⟩ (.int .i64 (rd_T43 d3 0).f1)).setCell ⟨g_, 1, none⟩ (.string (strOfNums (rd_T43 d3 1).f2))).setCell ⟨g_, 2, none⟩ (.string (strOfNums (rd_T43 d3 2).f2))).setCell ⟨g_, 3, none⟩ (.string (strOfNums (rd_T43 d3 3).f2))).setCell ⟨g_, 4, none⟩ (.string (strOfNums (rd_T43 d3 4).f2))).setCell ⟨g_, 5, none⟩ (.int .i64 (rd_T43 d3 5).f1)).setCell ⟨g_, 6, none⟩ (.int .i64 (rd_T43 d3 6).f1)).setCell ⟨g_, 7, none⟩ (.slice B7 (rd_T43 d3 7).f2.length b7)) from F4.out.putE LT.out _ _ _ _ _ _ _ _)
 have BB := Aside0.mk (show CB g_ ((((((((w4.setCell ⟨g_, 0, none⟩ (.int .i64 (rd_T43 d3 0).f1)).setCell ⟨g_, 1, none⟩ (.string (strOfNums (rd_T43 d3 1).f2))).setCell ⟨g_, 2, none⟩ (.string (strOfNums (rd_T43 d3 2).f2))).setCell ⟨g_, 3, none⟩ (.string (strOfNums (rd_T43 d3 3).f2))).setCell ⟨g_, 4, none⟩ (.string (strOfNums (rd_T43 d3 4).f2))).setCell ⟨g_, 5, none⟩ (.int .i64 (rd_T43 d3 5).f1)).setCell ⟨g_, 6, none⟩ (.int .i64 (rd_T43 d3 6).f1)).setCell ⟨g_, 7, none⟩ (.slice B7 (rd_T43 d3 7).f2.length b7)) (.int .i64 (rd_T43 d3 0).f1) (.string (strOfNums (rd_T43 d3 1).f2)) (.string (strOfNums (rd_T43 d3 2).f2)) (.string (strOfNums (rd_T43 d3 3).f2)) (.string (strOfNums (rd_T43 d3 4).f2)) (.int .i64 (rd_T43 d3 5).f1) (.int .i64 (rd_T43 d3 6).f1) (.slice B7 (rd_T43 d3 7).f2.length b7) from cb_put8 BX.out _ _ _ _ _ _ _ _)
 have EA := Aside0.mk (show Kd.F (Kd.int .u8) ((((((((w4.setCell ⟨g_, 0, none⟩ (.int .i64 (rd_T43 d3 0).f1)).setCell ⟨g_, 1, none⟩ (.string (strOfNums (rd_T43 d3 1).f2))).setCell ⟨g_, 2, none⟩ (.string (strOfNums (rd_T43 d3 2).f2))).setCell ⟨g_, 3, none⟩ (.string (strOfNums (rd_T43 d3 3).f2))).setCell ⟨g_, 4, none⟩ (.string (strOfNums (rd_T43 d3 4).f2))).setCell ⟨g_, 5, none⟩ (.int .i64 (rd_T43 d3 5).f1)).setCell ⟨g_, 6, none⟩ (.int .i64 (rd_T43 d3 6).f1)).setCell ⟨g_, 7, none⟩ (.slice B7 (rd_T43 d3 7).f2.length b7)) (fun k_ => k_ ≠ w.heap.size ∧ k_ < wd.heap.size) B7 (rd_T43 d3 7).f2.length (rd_T43 d3 7).f2 from F_put8 E.out.g7 (fun k hk => Nat.ne_of_lt (Nat.lt_of_lt_of_le hk.2 HG.out)) _ _ _ _ _ _ _ _)
 have L7 := Aside0.mk E.out.l7
 clear z0 z1 z2 z3 z4 z5 z6 z7 f0 f1 f2 f3 f4 f5 f6 f7 E F4 BX hHeld HG
 generalize ((((((((w4.setCell ⟨g_, 0, none⟩ (.int .i64 (rd_T43 d3 0).f1)).setCell ⟨g_, 1, none⟩ (.string (strOfNums (rd_T43 d3 1).f2))).setCell ⟨g_, 2, none⟩ (.string (strOfNums (rd_T43 d3 2).f2))).setCell ⟨g_, 3, none⟩ (.string (strOfNums (rd_T43 d3 3).f2))).setCell ⟨g_, 4, none⟩ (.string (strOfNums (rd_T43 d3 4).f2))).setCell ⟨g_, 5, none⟩ (.int .i64 (rd_T43 d3 5).f1)).setCell ⟨g_, 6, none⟩ (.int .i64 (rd_T43 d3 6).f1)).setCell ⟨g_, 7, none⟩ (.slice B7 (rd_T43 d3 7).f2.length b7)) = w5 at FA BB EA ⊢
 obtain ⟨x0, x1, x2, x3, x4, x5, x6, x7⟩ := cb_cells BB.out
 go_wp2_with fail
 refine (bastilleref30_May.calls k (rd_T43 d3 0).f1 (strOfNums (rd_T43 d3 1).f2) (strOfNums (rd_T43 d3 2).f2) (strOfNums (rd_T43 d3 3).f2) (strOfNums (rd_T43 d3 4).f2) (rd_T43 d3 5).f1 (rd_T43 d3 6).f1 B7 b7 (rd_T43 d3 7).f2 m _ (Kd.F_now EA.out) L7.out HM.out).mono ?_
 rintro en w6 ⟨rfl, hb⟩
 have FF := Aside0.mk (FA.out.step hb)
 have BN_ := Aside0.mk (cb_below BB.out hb)
 have EN_ := Aside0.mk (Kd.F_below EA.out hb)
 clear x0 x1 x2 x3 x4 x5 x6 x7 FA BB EA hb HM
 have BB := BN_
 have EA := EN_
 clear BN_ EN_
 have h1 := H.out
 clear H
 cases m
 ·simp only [Bool.false_eq_true, if_false] at h1
  cases h1
  clear BB EA L7
  obtain ⟨z0, z1, z2, z3, z4, z5, z6, z7⟩ := cb_cells FF.out.z
  have f0 := blk_frozen FF.out.z 0
  have f1 := blk_frozen FF.out.z 1
  have f2 := blk_frozen FF.out.z 2
  have f3 := blk_frozen FF.out.z 3
  have f4 := blk_frozen FF.out.z 4
  have f5 := blk_frozen FF.out.z 5
  have f6 := blk_frozen FF.out.z 6
  have f7 := blk_frozen FF.out.z 7
  go_wp2
  refine bodyPost_ret (results_ct rfl _ _ w.heap.size 24 #[.int .i64 0, .string ByteArray.empty, .string ByteArray.empty, .string ByteArray.empty, .string ByteArray.empty, .int .i64 0, .int .i64 0, .slice none 0 0] (0, 0) _ rfl (cb_put8 FF.out.z _ _ _ _ _ _ _ _) Tryd.underlying24 rfl (by kernel_rfl)) rfl ?_
  exact zfin FF.out _ rfl
 ·simp only [if_true] at h1
  cases h1
  obtain ⟨z0, z1, z2, z3, z4, z5, z6, z7⟩ := cb_cells FF.out.z
  have f0 := blk_frozen FF.out.z 0
  have f1 := blk_frozen FF.out.z 1
  have f2 := blk_frozen FF.out.z 2
  have f3 := blk_frozen FF.out.z 3
  have f4 := blk_frozen FF.out.z 4
  have f5 := blk_frozen FF.out.z 5
  have f6 := blk_frozen FF.out.z 6
  have f7 := blk_frozen FF.out.z 7
  obtain ⟨x0, x1, x2, x3, x4, x5, x6, x7⟩ := cb_cells BB.out
  go_wp2
  refine bodyPost_ret (results_ct rfl _ _ w.heap.size 24 #[.int .i64 (rd_T43 d3 0).f1, .string (strOfNums (rd_T43 d3 1).f2), .string (strOfNums (rd_T43 d3 2).f2), .string (strOfNums (rd_T43 d3 3).f2), .string (strOfNums (rd_T43 d3 4).f2), .int .i64 (rd_T43 d3 5).f1, .int .i64 (rd_T43 d3 6).f1, .slice B7 (rd_T43 d3 7).f2.length b7] (0, 0) _ rfl (cb_put8 FF.out.z _ _ _ _ _ _ _ _) Tryd.underlying24 rfl (by kernel_rfl)) rfl ?_
  exact ⟨B7, b7, rfl, L7.out, Kd.F_now (F_put8 EA.out (fun k hk => hk.1) _ _ _ _ _ _ _ _), below_put8 FF.out.hb (Nat.le_refl _) _ _ _ _ _ _ _ _⟩


end Go.Proofs.YtiibnfnjfmcggaaDoor.PCallReads
