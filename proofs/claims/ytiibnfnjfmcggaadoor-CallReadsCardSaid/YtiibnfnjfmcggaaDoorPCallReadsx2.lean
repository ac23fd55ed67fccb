-- Written by drive.py of this work: the kit's print.py with contracts of this work laid in.
import Derived.Test.YtiibnfnjfmcggaaDoorPCallReadsx0
import Derived.Test.YtiibnfnjfmcggaaDoorPCallReadsx1
namespace Go.Proofs.YtiibnfnjfmcggaaDoor.PCallReads
open Go.RowKit Go.Proofs.YtiibnfnjfmcggaaDoorW.PrintWords Go.Proofs.YtiibnfnjfmcggaaDoorW.PrintLast Go.Proofs.YtiibnfnjfmcggaaDoorW.PrintMore
attribute [local go_sem] max2_int min2_int max_two min_two max_three min_three max_four min_four   -- for this text's walks alone
set_option linter.unusedVariables false
set_option linter.unusedSimpArgs false

/-! ### call_May: function 13 -/
--ALONE
def fieldsT : List Int := [0, 0, 9, 9, 1, 21, 21, 5, 67, 35, 1, 3, 3, 1, 4, 0, 4]
/-- The table of the kinds' fields reads as the program's text lays it. -/
def GT (w : World) : Prop := ∀ j x, fieldsT[j]? = some x → w.cell? ⟨0, j, none⟩ = some (.int .i64 x)
theorem cell_lt {w : World} {a : Addr} {v : Value} (h : w.cell? a = some v) : a.block < w.heap.size := by
 unfold World.cell? at h
 split at h
 ·rename_i hq
  exact (Array.getElem?_eq_some_iff.1 hq).1
 ·cases h
theorem gt_below {w w' : World} (h : GT w) (hb : Below w.heap.size w w') : GT w' := fun j x hj => (hb.cell (p := ⟨0, j, none⟩) (cell_lt (h j x hj))).trans (h j x hj)
def bitB (ff m : Int) : Bool := (Go.bits .and .i64 ff m != 0)
structure MS (w : World) (kd : Int) (u f n o : ByteArray) (ro ve : Int) (A7 : Option Addr) (c7 : Nat) (l7 : List Int) (W : World) : Prop where
 hb : Below w.heap.size w W
 bx : W.heap[w.heap.size]? = some (.cells #[.int .i64 kd, .string u, .string f, .string n, .string o, .int .i64 ro, .int .i64 ve, .slice A7 l7.length c7] 24 (0, 0))
 gt : GT W
theorem MS.step {w : World} {kd : Int} {u f n o : ByteArray} {ro ve : Int} {A7 : Option Addr} {c7 : Nat} {l7 : List Int} {W W' : World} (h : MS w kd u f n o ro ve A7 c7 l7 W) (hb : Below W.heap.size W W') : MS w kd u f n o ro ve A7 c7 l7 W' := ⟨h.hb.trans (hb.mono h.hb.size), (hb.block _ (blk_lt h.bx)).trans h.bx, gt_below h.gt hb⟩
def mayT (k : Nat) (kd : Int) (u f o : ByteArray) (ro ve : Int) (l7 : List Int) : Option Bool :=
 if ((Go.bits .and .i64 (rd fieldsT kd) 1 == 0) && (o.toList == u.toList) || (kd == 2) && (o.toList == f.toList)) = true then some false else
  (call_number.f ro 1 4 (Go.bits .and .i64 (rd fieldsT kd) 16 != 0)).bind fun t4 => if t4 = true then (call_number.f ve 0 1099511627776 (Go.bits .and .i64 (rd fieldsT kd) 32 != 0)).bind fun t5 => if t5 = true then call_number.f (l7.length : Int) 0 512 (Go.bits .and .i64 (rd fieldsT kd) 64 != 0) else some false else some false
def call_May.f (k : Nat) (kd : Int) (u f n o : ByteArray) (ro ve : Int) (l7 : List Int) : Option Bool :=
 if kd < 1 then some false else if kd > 16 then some false else (tree_Name.f k u).bind fun t => if t = true then (call_text.f k f (Go.bits .and .i64 (rd fieldsT kd) 1 != 0)).bind fun t1 => if t1 = true then (call_text.f k n (Go.bits .and .i64 (rd fieldsT kd) 2 != 0)).bind fun t2 => if t2 = true then
  (call_text.f k o ((Go.bits .and .i64 (rd fieldsT kd) 4 != 0) || ((Go.bits .and .i64 (rd fieldsT kd) 8 != 0) && (o.toList != [])))).bind fun t3 => if t3 = true then mayT k kd u f o ro ve l7 else some false else some false else some false else some false
theorem call_May.mono : ∀ kd u f n o ro ve l7 k, LeO (call_May.f k kd u f n o ro ve l7) (call_May.f (k + 1) kd u f n o ro ve l7) := by
 intro kd u f n o ro ve l7 k
 unfold call_May.f mayT
 exact LeO.ite (LeO.refl _) (LeO.ite (LeO.refl _) (LeO.bind (tree_Name.mono _ _) fun _ => LeO.ite (LeO.bind (call_text.mono _ _ _) fun _ => LeO.ite (LeO.bind (call_text.mono _ _ _) fun _ => LeO.ite (LeO.bind (call_text.mono _ _ _) fun _ => LeO.ite (LeO.refl _) (LeO.refl _)) (LeO.refl _)) (LeO.refl _)) (LeO.refl _)))
theorem gt_at {w : World} (h : GT w) (kd : Int) (h1 : 1 ≤ kd) (h2 : kd ≤ 16) : w.cell? ⟨0, kd.toNat, none⟩ = some (.int .i64 (rd fieldsT kd)) := by
 refine h kd.toNat _ ?_
 have hl : kd.toNat < fieldsT.length := by show kd.toNat < 17; omega
 unfold rd
 rw [List.getD_eq_getElem?_getD, List.getElem?_eq_getElem hl]
 rfl
set_option maxHeartbeats 4000000 in
set_option maxRecDepth 100000 in
theorem call_May.calls (k : Nat) (kd : Int) (u f n o : ByteArray) (ro ve : Int) (A7 : Option Addr) (c7 : Nat) (l7 : List Int) (r : Bool) (w : World) (hr0_7 : Kd.C (Kd.int .u8) w A7 l7.length l7) (hc0_7 : l7.length ≤ c7) (hgt : GT w) (h : call_May.f k kd u f n o ro ve l7 = some r) :
  Calls Tryd.prog 13 #[.agg #[.int .i64 kd, .string u, .string f, .string n, .string o, .int .i64 ro, .int .i64 ve, .slice A7 l7.length c7]] w fun e w' => e = .returned (.bool r) ∧ Below w.heap.size w w' := by
 have FF := Aside0.mk (show MS w kd u f n o ro ve A7 c7 l7 _ from ⟨(Below.refl _ w).alloc (Nat.le_refl _) (.cells #[.int .i64 kd, .string u, .string f, .string n, .string o, .int .i64 ro, .int .i64 ve, .slice A7 l7.length c7] 24), Array.getElem?_push_size, gt_below hgt (below_alloc (Below.refl _ _) _)⟩)
 clear hgt
 have x0 := (blk_cell FF.out.bx 0).trans rfl
 have x1 := (blk_cell FF.out.bx 1).trans rfl
 have x2 := (blk_cell FF.out.bx 2).trans rfl
 have x3 := (blk_cell FF.out.bx 3).trans rfl
 have x4 := (blk_cell FF.out.bx 4).trans rfl
 have x5 := (blk_cell FF.out.bx 5).trans rfl
 have x6 := (blk_cell FF.out.bx 6).trans rfl
 have x7 := (blk_cell FF.out.bx 7).trans rfl
 unfold call_May.f at h
 by_cases h1 : kd < 1
 ·rw [if_pos h1] at h
  cases h
  have p1 : decide (kd < 1) = true := decide_eq_true h1
  go_enter Tryd.func13, Tryd.ntmps13
  go_wp2
  go_ret
  exact ⟨rfl, FF.out.hb⟩
 rw [if_neg h1] at h
 have p1 : decide (kd < 1) = false := decide_eq_false h1
 by_cases h2 : kd > 16
 ·rw [if_pos h2] at h
  cases h
  have p2 : decide (kd > 16) = true := decide_eq_true h2
  have p3 : decide (16 < kd) = true := decide_eq_true h2
  go_enter Tryd.func13, Tryd.ntmps13
  go_wp2
  go_ret
  exact ⟨rfl, FF.out.hb⟩
 rw [if_neg h2] at h
 have p2 : decide (kd > 16) = false := decide_eq_false h2
 have p3 : decide (16 < kd) = false := decide_eq_false h2
 have p4 : 0 ≤ kd := by omega
 have p5 : kd < 17 := by omega
 have GY := Aside0.mk (fun (W : World) (hW : GT W) => gt_at hW kd (by omega) (by omega))
 clear h1 h2
 obtain ⟨t, ht, h⟩ := Option.bind_eq_some_iff.1 h
 have HT := Aside0.mk ht
 clear ht
 have H := Aside0.mk h
 clear h
 go_enter Tryd.func13, Tryd.ntmps13
 go_wp2_with fail
 refine (tree_Name.calls k u t _ HT.out).mono ?_
 rintro e w1 ⟨rfl, hd⟩
 have hb := hd.below
 have FN_ := Aside0.mk (FF.out.step hb)
 clear FF hb hd x0 x1 x2 x3 x4 x5 x6 x7
 have FF := FN_
 clear FN_
 have x0 := (blk_cell FF.out.bx 0).trans rfl
 have x1 := (blk_cell FF.out.bx 1).trans rfl
 have x2 := (blk_cell FF.out.bx 2).trans rfl
 have x3 := (blk_cell FF.out.bx 3).trans rfl
 have x4 := (blk_cell FF.out.bx 4).trans rfl
 have x5 := (blk_cell FF.out.bx 5).trans rfl
 have x6 := (blk_cell FF.out.bx 6).trans rfl
 have x7 := (blk_cell FF.out.bx 7).trans rfl
 have h := H.out
 clear H
 by_cases q : t = true
 rotate_left
 ·rw [if_neg q] at h
  cases h
  have q0 : t = false := by cases t <;> simp_all
  subst q0
  clear q
  go_wp2
  go_ret
  exact ⟨rfl, FF.out.hb⟩
 subst q
 rw [if_pos rfl] at h
 have y0 := GY.out _ FF.out.gt
 obtain ⟨t1, ht1, h⟩ := Option.bind_eq_some_iff.1 h
 have HT1 := Aside0.mk ht1
 clear ht1
 have H := Aside0.mk h
 clear h
 go_wp2_with fail
 refine (call_text.calls k f _ t1 _ HT1.out).mono ?_
 rintro e w2 ⟨rfl, hd⟩
 clear y0
 have hb := hd.below
 have FN_ := Aside0.mk (FF.out.step hb)
 clear FF hb hd x0 x1 x2 x3 x4 x5 x6 x7
 have FF := FN_
 clear FN_
 have x0 := (blk_cell FF.out.bx 0).trans rfl
 have x1 := (blk_cell FF.out.bx 1).trans rfl
 have x2 := (blk_cell FF.out.bx 2).trans rfl
 have x3 := (blk_cell FF.out.bx 3).trans rfl
 have x4 := (blk_cell FF.out.bx 4).trans rfl
 have x5 := (blk_cell FF.out.bx 5).trans rfl
 have x6 := (blk_cell FF.out.bx 6).trans rfl
 have x7 := (blk_cell FF.out.bx 7).trans rfl
 have h := H.out
 clear H
 by_cases q : t1 = true
 rotate_left
 ·rw [if_neg q] at h
  cases h
  have q0 : t1 = false := by cases t1 <;> simp_all
  subst q0
  clear q
  go_wp2
  go_ret
  exact ⟨rfl, FF.out.hb⟩
 subst q
 rw [if_pos rfl] at h
 obtain ⟨t2, ht2, h⟩ := Option.bind_eq_some_iff.1 h
 have HT2 := Aside0.mk ht2
 clear ht2
 have H := Aside0.mk h
 clear h
 go_wp2_with fail
 refine (call_text.calls k n _ t2 _ HT2.out).mono ?_
 rintro e w3 ⟨rfl, hd⟩
 have hb := hd.below
 have FN_ := Aside0.mk (FF.out.step hb)
 clear FF hb hd x0 x1 x2 x3 x4 x5 x6 x7
 have FF := FN_
 clear FN_
 have x0 := (blk_cell FF.out.bx 0).trans rfl
 have x1 := (blk_cell FF.out.bx 1).trans rfl
 have x2 := (blk_cell FF.out.bx 2).trans rfl
 have x3 := (blk_cell FF.out.bx 3).trans rfl
 have x4 := (blk_cell FF.out.bx 4).trans rfl
 have x5 := (blk_cell FF.out.bx 5).trans rfl
 have x6 := (blk_cell FF.out.bx 6).trans rfl
 have x7 := (blk_cell FF.out.bx 7).trans rfl
 have h := H.out
 clear H
 by_cases q : t2 = true
 rotate_left
 ·rw [if_neg q] at h
  cases h
  have q0 : t2 = false := by cases t2 <;> simp_all
  subst q0
  clear q
  go_wp2
  go_ret
  exact ⟨rfl, FF.out.hb⟩
 subst q
 rw [if_pos rfl] at h
 obtain ⟨t3, ht3, h⟩ := Option.bind_eq_some_iff.1 h
 have HT3 := Aside0.mk ht3
 clear ht3
 have H := Aside0.mk h
 clear h
 go_upto_region 6 with (fail)
 go_cut [39] (fun v39 wc => v39 = .bool (!t3) ∧ Aside0 (MS w kd u f n o ro ve A7 c7 l7 wc))
 case first =>
  cases q4 : (Go.bits .and .i64 (rd fieldsT kd) 4 != 0) with
  | true =>
   have ht3 := HT3.out
   simp only [q4] at ht3
   simp only [Bool.true_or, Bool.false_or, Bool.true_and, Bool.false_and, Bool.and_true, Bool.and_false, Bool.or_true, Bool.or_false] at ht3
   go_wp2_with fail
   refine (call_text.calls k o _ t3 _ ht3).mono ?_
   rintro e w4 ⟨rfl, hd⟩
   have hb := hd.below
   have FN_ := Aside0.mk (FF.out.step hb)
   clear FF hb hd x0 x1 x2 x3 x4 x5 x6 x7
   have FF := FN_
   clear FN_
   have x0 := (blk_cell FF.out.bx 0).trans rfl
   have x1 := (blk_cell FF.out.bx 1).trans rfl
   have x2 := (blk_cell FF.out.bx 2).trans rfl
   have x3 := (blk_cell FF.out.bx 3).trans rfl
   have x4 := (blk_cell FF.out.bx 4).trans rfl
   have x5 := (blk_cell FF.out.bx 5).trans rfl
   have x6 := (blk_cell FF.out.bx 6).trans rfl
   have x7 := (blk_cell FF.out.bx 7).trans rfl
   go_wp2
   go_meet
   case rel => exact ⟨rfl, FF⟩
  | false =>
   cases q8 : (Go.bits .and .i64 (rd fieldsT kd) 8 != 0) with
   | false =>
    have ht3 := HT3.out
    simp only [q4, q8] at ht3
    simp only [Bool.true_or, Bool.false_or, Bool.true_and, Bool.false_and, Bool.and_true, Bool.and_false, Bool.or_true, Bool.or_false] at ht3
    go_wp2_with fail
    refine (call_text.calls k o _ t3 _ ht3).mono ?_
    rintro e w4 ⟨rfl, hd⟩
    have hb := hd.below
    have FN_ := Aside0.mk (FF.out.step hb)
    clear FF hb hd x0 x1 x2 x3 x4 x5 x6 x7
    have FF := FN_
    clear FN_
    have x0 := (blk_cell FF.out.bx 0).trans rfl
    have x1 := (blk_cell FF.out.bx 1).trans rfl
    have x2 := (blk_cell FF.out.bx 2).trans rfl
    have x3 := (blk_cell FF.out.bx 3).trans rfl
    have x4 := (blk_cell FF.out.bx 4).trans rfl
    have x5 := (blk_cell FF.out.bx 5).trans rfl
    have x6 := (blk_cell FF.out.bx 6).trans rfl
    have x7 := (blk_cell FF.out.bx 7).trans rfl
    go_wp2
    go_meet
    case rel => exact ⟨rfl, FF⟩
   | true =>
    cases qe : (o.toList != ([] : List UInt8)) with
    | true =>
     have qe2 : (o.toList == ([] : List UInt8)) = false := by simpa [bne] using qe
     have ht3 := HT3.out
     simp only [q4, q8, qe] at ht3
     simp only [Bool.true_or, Bool.false_or, Bool.true_and, Bool.false_and, Bool.and_true, Bool.and_false, Bool.or_true, Bool.or_false] at ht3
     go_wp2_with fail
     refine (call_text.calls k o _ t3 _ ht3).mono ?_
     rintro e w4 ⟨rfl, hd⟩
     have hb := hd.below
     have FN_ := Aside0.mk (FF.out.step hb)
     clear FF hb hd x0 x1 x2 x3 x4 x5 x6 x7
     have FF := FN_
     clear FN_
     have x0 := (blk_cell FF.out.bx 0).trans rfl
     have x1 := (blk_cell FF.out.bx 1).trans rfl
     have x2 := (blk_cell FF.out.bx 2).trans rfl
     have x3 := (blk_cell FF.out.bx 3).trans rfl
     have x4 := (blk_cell FF.out.bx 4).trans rfl
     have x5 := (blk_cell FF.out.bx 5).trans rfl
     have x6 := (blk_cell FF.out.bx 6).trans rfl
     have x7 := (blk_cell FF.out.bx 7).trans rfl
     go_wp2
     go_meet
     case rel => exact ⟨rfl, FF⟩
    | false =>
     have qe2 : (o.toList == ([] : List UInt8)) = true := by simpa [bne] using qe
     have ht3 := HT3.out
     simp only [q4, q8, qe] at ht3
     simp only [Bool.true_or, Bool.false_or, Bool.true_and, Bool.false_and, Bool.and_true, Bool.and_false, Bool.or_true, Bool.or_false] at ht3
     go_wp2_with fail
     refine (call_text.calls k o _ t3 _ ht3).mono ?_
     rintro e w4 ⟨rfl, hd⟩
     have hb := hd.below
     have FN_ := Aside0.mk (FF.out.step hb)
     clear FF hb hd x0 x1 x2 x3 x4 x5 x6 x7
     have FF := FN_
     clear FN_
     have x0 := (blk_cell FF.out.bx 0).trans rfl
     have x1 := (blk_cell FF.out.bx 1).trans rfl
     have x2 := (blk_cell FF.out.bx 2).trans rfl
     have x3 := (blk_cell FF.out.bx 3).trans rfl
     have x4 := (blk_cell FF.out.bx 4).trans rfl
     have x5 := (blk_cell FF.out.bx 5).trans rfl
     have x6 := (blk_cell FF.out.bx 6).trans rfl
     have x7 := (blk_cell FF.out.bx 7).trans rfl
     go_wp2
     go_meet
     case rel => exact ⟨rfl, FF⟩
 case rest =>
  obtain ⟨rfl, FN⟩ := hcut
  clear x0 x1 x2 x3 x4 x5 x6 x7
  clear FF HT3
  have FF := FN
  clear FN
  have x0 := (blk_cell FF.out.bx 0).trans rfl
  have x1 := (blk_cell FF.out.bx 1).trans rfl
  have x2 := (blk_cell FF.out.bx 2).trans rfl
  have x3 := (blk_cell FF.out.bx 3).trans rfl
  have x4 := (blk_cell FF.out.bx 4).trans rfl
  have x5 := (blk_cell FF.out.bx 5).trans rfl
  have x6 := (blk_cell FF.out.bx 6).trans rfl
  have x7 := (blk_cell FF.out.bx 7).trans rfl
  have h := H.out
  clear H
  by_cases q : t3 = true
  rotate_left
  ·rw [if_neg q] at h
   cases h
   have q0 : t3 = false := by cases t3 <;> simp_all
   subst q0
   clear q
   simp only [Bool.not_false]
   go_wp2
   go_ret
   exact ⟨rfl, FF.out.hb⟩
  subst q
  rw [if_pos rfl] at h
  simp only [Bool.not_true]
  unfold mayT at h
  have H := Aside0.mk h
  clear h
  go_upto_region 8 with (fail)
  generalize hE : ((Go.bits .and .i64 (rd fieldsT kd) 1 == 0) && (o.toList == u.toList) || (kd == 2) && (o.toList == f.toList)) = eb at H
  have QE := Aside0.mk hE
  clear hE
  go_cut [57] (fun v57 wc => v57 = .bool eb ∧ Aside0 (MS w kd u f n o ro ve A7 c7 l7 wc))
  case first =>
   cases q1 : (Go.bits .and .i64 (rd fieldsT kd) 1 == 0) with
   | false =>
    cases q3 : (kd == 2) with
    | false =>
     have qe_ := QE.out
     simp only [q1, q3, Bool.true_and, Bool.false_and, Bool.or_true, Bool.true_or, Bool.false_or, Bool.or_false, Bool.and_true, Bool.and_false] at qe_
     subst qe_
     go_wp2
     go_meet
     case rel => exact ⟨rfl, FF⟩
    | true =>
     cases q4 : (o.toList == f.toList) with
     | false =>
      have qe_ := QE.out
      simp only [q1, q3, q4, Bool.true_and, Bool.false_and, Bool.or_true, Bool.true_or, Bool.false_or, Bool.or_false, Bool.and_true, Bool.and_false] at qe_
      subst qe_
      go_wp2
      go_meet
      case rel => exact ⟨rfl, FF⟩
     | true =>
      have qe_ := QE.out
      simp only [q1, q3, q4, Bool.true_and, Bool.false_and, Bool.or_true, Bool.true_or, Bool.false_or, Bool.or_false, Bool.and_true, Bool.and_false] at qe_
      subst qe_
      go_wp2
      go_meet
      case rel => exact ⟨rfl, FF⟩
   | true =>
    cases q2 : (o.toList == u.toList) with
    | true =>
     have qe_ := QE.out
     simp only [q1, q2, Bool.true_and, Bool.false_and, Bool.or_true, Bool.true_or, Bool.false_or, Bool.or_false, Bool.and_true, Bool.and_false] at qe_
     subst qe_
     go_wp2
     go_meet
     case rel => exact ⟨rfl, FF⟩
    | false =>
     cases q3 : (kd == 2) with
     | false =>
      have qe_ := QE.out
      simp only [q1, q2, q3, Bool.true_and, Bool.false_and, Bool.or_true, Bool.true_or, Bool.false_or, Bool.or_false, Bool.and_true, Bool.and_false] at qe_
      subst qe_
      go_wp2
      go_meet
      case rel => exact ⟨rfl, FF⟩
     | true =>
      cases q4 : (o.toList == f.toList) with
      | false =>
       have qe_ := QE.out
       simp only [q1, q2, q3, q4, Bool.true_and, Bool.false_and, Bool.or_true, Bool.true_or, Bool.false_or, Bool.or_false, Bool.and_true, Bool.and_false] at qe_
       subst qe_
       go_wp2
       go_meet
       case rel => exact ⟨rfl, FF⟩
      | true =>
       have qe_ := QE.out
       simp only [q1, q2, q3, q4, Bool.true_and, Bool.false_and, Bool.or_true, Bool.true_or, Bool.false_or, Bool.or_false, Bool.and_true, Bool.and_false] at qe_
       subst qe_
       go_wp2
       go_meet
       case rel => exact ⟨rfl, FF⟩
  case rest =>
   obtain ⟨rfl, FN⟩ := hcut
   clear x0 x1 x2 x3 x4 x5 x6 x7
   clear FF QE
   have FF := FN
   clear FN
   have x0 := (blk_cell FF.out.bx 0).trans rfl
   have x1 := (blk_cell FF.out.bx 1).trans rfl
   have x2 := (blk_cell FF.out.bx 2).trans rfl
   have x3 := (blk_cell FF.out.bx 3).trans rfl
   have x4 := (blk_cell FF.out.bx 4).trans rfl
   have x5 := (blk_cell FF.out.bx 5).trans rfl
   have x6 := (blk_cell FF.out.bx 6).trans rfl
   have x7 := (blk_cell FF.out.bx 7).trans rfl
   have h := H.out
   clear H
   cases eb with
   | true =>
    rw [if_pos rfl] at h
    cases h
    go_wp2
    go_ret
    exact ⟨rfl, FF.out.hb⟩
   | false =>
    rw [if_neg (by decide)] at h
    obtain ⟨t4, ht4, h⟩ := Option.bind_eq_some_iff.1 h
    have HT4 := Aside0.mk ht4
    clear ht4
    have H := Aside0.mk h
    clear h
    go_wp2_with fail
    refine (call_number.calls ro 1 4 _ t4 _ HT4.out).mono ?_
    rintro e w5 ⟨rfl, hd⟩
    have hb := hd.below
    have FN_ := Aside0.mk (FF.out.step hb)
    clear FF hb hd x0 x1 x2 x3 x4 x5 x6 x7
    have FF := FN_
    clear FN_
    have x0 := (blk_cell FF.out.bx 0).trans rfl
    have x1 := (blk_cell FF.out.bx 1).trans rfl
    have x2 := (blk_cell FF.out.bx 2).trans rfl
    have x3 := (blk_cell FF.out.bx 3).trans rfl
    have x4 := (blk_cell FF.out.bx 4).trans rfl
    have x5 := (blk_cell FF.out.bx 5).trans rfl
    have x6 := (blk_cell FF.out.bx 6).trans rfl
    have x7 := (blk_cell FF.out.bx 7).trans rfl
    have h := H.out
    clear H
    by_cases q : t4 = true
    rotate_left
    ·rw [if_neg q] at h
     cases h
     have q0 : t4 = false := by cases t4 <;> simp_all
     subst q0
     clear q
     go_wp2
     go_ret
     exact ⟨rfl, FF.out.hb⟩
    subst q
    rw [if_pos rfl] at h
    obtain ⟨t5, ht5, h⟩ := Option.bind_eq_some_iff.1 h
    have HT5 := Aside0.mk ht5
    clear ht5
    have H := Aside0.mk h
    clear h
    go_wp2_with fail
    refine (call_number.calls ve 0 1099511627776 _ t5 _ HT5.out).mono ?_
    rintro e w6 ⟨rfl, hd⟩
    have hb := hd.below
    have FN_ := Aside0.mk (FF.out.step hb)
    clear FF hb hd x0 x1 x2 x3 x4 x5 x6 x7
    have FF := FN_
    clear FN_
    have x0 := (blk_cell FF.out.bx 0).trans rfl
    have x1 := (blk_cell FF.out.bx 1).trans rfl
    have x2 := (blk_cell FF.out.bx 2).trans rfl
    have x3 := (blk_cell FF.out.bx 3).trans rfl
    have x4 := (blk_cell FF.out.bx 4).trans rfl
    have x5 := (blk_cell FF.out.bx 5).trans rfl
    have x6 := (blk_cell FF.out.bx 6).trans rfl
    have x7 := (blk_cell FF.out.bx 7).trans rfl
    have h := H.out
    clear H
    by_cases q : t5 = true
    rotate_left
    ·rw [if_neg q] at h
     cases h
     have q0 : t5 = false := by cases t5 <;> simp_all
     subst q0
     clear q
     go_wp2
     go_ret
     exact ⟨rfl, FF.out.hb⟩
    subst q
    rw [if_pos rfl] at h
    have HT6 := Aside0.mk h
    clear h
    go_wp2_with fail
    refine (call_number.calls _ 0 512 _ r _ HT6.out).mono ?_
    rintro e w7 ⟨rfl, hd⟩
    have hb := hd.below
    have FN_ := Aside0.mk (FF.out.step hb)
    clear FF hb hd x0 x1 x2 x3 x4 x5 x6 x7
    have FF := FN_
    clear FN_
    have x0 := (blk_cell FF.out.bx 0).trans rfl
    have x1 := (blk_cell FF.out.bx 1).trans rfl
    have x2 := (blk_cell FF.out.bx 2).trans rfl
    have x3 := (blk_cell FF.out.bx 3).trans rfl
    have x4 := (blk_cell FF.out.bx 4).trans rfl
    have x5 := (blk_cell FF.out.bx 5).trans rfl
    have x6 := (blk_cell FF.out.bx 6).trans rfl
    have x7 := (blk_cell FF.out.bx 7).trans rfl
    go_wp2
    go_ret
    exact ⟨rfl, FF.out.hb⟩

end Go.Proofs.YtiibnfnjfmcggaaDoor.PCallReads
