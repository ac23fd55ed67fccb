-- Written by drive.py of this work: the kit's print.py with contracts of this work laid in.
import Derived.Test.YtiibnfnjfmcggaaDoorPCallReadsx0
import Derived.Test.YtiibnfnjfmcggaaDoorPCallReadsx21
namespace Go.Proofs.YtiibnfnjfmcggaaDoor.PCallReads
open Go.RowKit Go.Proofs.YtiibnfnjfmcggaaDoorW.PrintWords Go.Proofs.YtiibnfnjfmcggaaDoorW.PrintLast Go.Proofs.YtiibnfnjfmcggaaDoorW.PrintMore
attribute [local go_sem] max2_int min2_int max_two min_two max_three min_three max_four min_four   -- for this text's walks alone
set_option linter.unusedVariables false
set_option linter.unusedSimpArgs false

/-! ### bastilleref30_May: function 12 -/
--ALONE
inductive Chk
 | name (s : ByteArray)
 | b (c : Bool)
def mayK (k : Nat) (last : Bool) : List Chk → Option Bool
 | [] => some last
 | .name s :: t => (bastilleref25_Name.f k s).bind fun r => if r = true then mayK k last t else some false
 | .b c :: t => if c = true then mayK k last t else some false
theorem mayK_mono (k : Nat) (last : Bool) : ∀ l, LeO (mayK k last l) (mayK (k + 1) last l)
 | [] => LeO.refl _
 | .name s :: t => LeO.bind (bastilleref25_Name.mono _ _) fun _ => LeO.ite (mayK_mono k last t) (LeO.refl _)
 | .b c :: t => LeO.ite (mayK_mono k last t) (LeO.refl _)
structure RS (w : World) (kd : Int) (u f n o : ByteArray) (ro ve : Int) (A7 : Option Addr) (c7 : Nat) (l7 : List Int) (W : World) : Prop where
 hb : Below w.heap.size w W
 bx : W.heap[w.heap.size]? = some (.cells #[.int .i64 kd, .string u, .string f, .string n, .string o, .int .i64 ro, .int .i64 ve, .slice A7 l7.length c7] 24 (0, 0))
theorem RS.step {w : World} {kd : Int} {u f n o : ByteArray} {ro ve : Int} {A7 : Option Addr} {c7 : Nat} {l7 : List Int} {W W' : World} (h : RS w kd u f n o ro ve A7 c7 l7 W) (hb : Below W.heap.size W W') : RS w kd u f n o ro ve A7 c7 l7 W' := ⟨h.hb.trans (hb.mono h.hb.size), (hb.block _ (blk_lt h.bx)).trans h.bx⟩
theorem RS.cells {w : World} {kd : Int} {u f n o : ByteArray} {ro ve : Int} {A7 : Option Addr} {c7 : Nat} {l7 : List Int} {W : World} (h : RS w kd u f n o ro ve A7 c7 l7 W) : W.cell? ⟨w.heap.size, 0, none⟩ = some (.int .i64 kd) ∧ W.cell? ⟨w.heap.size, 1, none⟩ = some (.string u) ∧ W.cell? ⟨w.heap.size, 2, none⟩ = some (.string f) ∧ W.cell? ⟨w.heap.size, 3, none⟩ = some (.string n) ∧ W.cell? ⟨w.heap.size, 4, none⟩ = some (.string o) ∧ W.cell? ⟨w.heap.size, 5, none⟩ = some (.int .i64 ro) ∧ W.cell? ⟨w.heap.size, 6, none⟩ = some (.int .i64 ve) ∧ W.cell? ⟨w.heap.size, 7, none⟩ = some (.slice A7 l7.length c7) := ⟨(blk_cell h.bx 0).trans rfl, (blk_cell h.bx 1).trans rfl, (blk_cell h.bx 2).trans rfl, (blk_cell h.bx 3).trans rfl, (blk_cell h.bx 4).trans rfl, (blk_cell h.bx 5).trans rfl, (blk_cell h.bx 6).trans rfl, (blk_cell h.bx 7).trans rfl⟩
def strE (s : ByteArray) : Bool := (s.toList == ([] : List UInt8))
set_option maxHeartbeats 4000000 in
set_option maxRecDepth 100000 in
theorem rmay_1 (k : Nat) (u f n o : ByteArray) (ro ve : Int) (A7 : Option Addr) (c7 : Nat) (l7 : List Int) (r : Bool) (w : World) (hu : bastilleref25_Name.f k u = some true) (h : mayK k (l7.length == 0) (.b (f.toList == ([] : List UInt8)) :: (.b (o.toList == ([] : List UInt8)) :: (.b (n.toList == ([] : List UInt8)) :: (.b (ro == 0) :: (.b (ve == 0) :: []))))) = some r) :
  Calls Tryd.prog 12 #[.agg #[.int .i64 1, .string u, .string f, .string n, .string o, .int .i64 ro, .int .i64 ve, .slice A7 l7.length c7]] w fun e w' => e = .returned (.bool r) ∧ Below w.heap.size w w' := by
 have FF := Aside0.mk (show RS w 1 u f n o ro ve A7 c7 l7 _ from ⟨(Below.refl _ w).alloc (Nat.le_refl _) (.cells #[.int .i64 1, .string u, .string f, .string n, .string o, .int .i64 ro, .int .i64 ve, .slice A7 l7.length c7] 24), Array.getElem?_push_size⟩)
 have HU := Aside0.mk hu
 have H := Aside0.mk h
 clear hu h
 obtain ⟨x0, x1, x2, x3, x4, x5, x6, x7⟩ := FF.out.cells
 go_enter Tryd.func12, Tryd.ntmps12
 go_wp2_with fail
 refine (bastilleref25_Name.calls k u true _ HU.out).mono ?_
 rintro e w0 ⟨rfl, hd⟩
 clear HU
 have hb := hd.below
 have FN_ := Aside0.mk (FF.out.step hb)
 clear FF hb hd x0 x1 x2 x3 x4 x5 x6 x7
 have FF := FN_
 clear FN_
 obtain ⟨x0, x1, x2, x3, x4, x5, x6, x7⟩ := FF.out.cells
 cases q1 : (f.toList == ([] : List UInt8)) with
 | false =>
  have q1n : (f.toList != ([] : List UInt8)) = true := by simp only [bne, q1, Bool.not_false]
  have h := H.out
  clear H
  rw [mayK, if_neg (by rw [q1]; decide)] at h
  cases h
  go_wp2
  go_ret
  exact ⟨rfl, FF.out.hb⟩
 | true =>
  have q1n : (f.toList != ([] : List UInt8)) = false := by simp only [bne, q1, Bool.not_true]
  have h := H.out
  clear H
  rw [mayK, if_pos (by first | (rw [q1]; done) | (rw [q1]; rfl))] at h
  have H := Aside0.mk h
  clear h
  cases q2 : (o.toList == ([] : List UInt8)) with
  | false =>
   have q2n : (o.toList != ([] : List UInt8)) = true := by simp only [bne, q2, Bool.not_false]
   have h := H.out
   clear H
   rw [mayK, if_neg (by rw [q2]; decide)] at h
   cases h
   go_wp2
   go_ret
   exact ⟨rfl, FF.out.hb⟩
  | true =>
   have q2n : (o.toList != ([] : List UInt8)) = false := by simp only [bne, q2, Bool.not_true]
   have h := H.out
   clear H
   rw [mayK, if_pos (by first | (rw [q2]; done) | (rw [q2]; rfl))] at h
   have H := Aside0.mk h
   clear h
   cases q3 : (n.toList == ([] : List UInt8)) with
   | false =>
    have q3n : (n.toList != ([] : List UInt8)) = true := by simp only [bne, q3, Bool.not_false]
    have h := H.out
    clear H
    rw [mayK, if_neg (by rw [q3]; decide)] at h
    cases h
    go_wp2
    go_ret
    exact ⟨rfl, FF.out.hb⟩
   | true =>
    have q3n : (n.toList != ([] : List UInt8)) = false := by simp only [bne, q3, Bool.not_true]
    have h := H.out
    clear H
    rw [mayK, if_pos (by first | (rw [q3]; done) | (rw [q3]; rfl))] at h
    have H := Aside0.mk h
    clear h
    cases q4 : (ro == 0) with
    | false =>
     have q4n : (ro != 0) = true := by simp only [bne, q4, Bool.not_false]
     have h := H.out
     clear H
     rw [mayK, if_neg (by rw [q4]; decide)] at h
     cases h
     go_wp2
     go_ret
     exact ⟨rfl, FF.out.hb⟩
    | true =>
     have q4n : (ro != 0) = false := by simp only [bne, q4, Bool.not_true]
     have h := H.out
     clear H
     rw [mayK, if_pos (by first | (rw [q4]; done) | (rw [q4]; rfl))] at h
     have H := Aside0.mk h
     clear h
     cases q5 : (ve == 0) with
     | false =>
      have q5n : (ve != 0) = true := by simp only [bne, q5, Bool.not_false]
      have h := H.out
      clear H
      rw [mayK, if_neg (by rw [q5]; decide)] at h
      cases h
      go_wp2
      go_ret
      exact ⟨rfl, FF.out.hb⟩
     | true =>
      have q5n : (ve != 0) = false := by simp only [bne, q5, Bool.not_true]
      have h := H.out
      clear H
      rw [mayK, if_pos (by first | (rw [q5]; done) | (rw [q5]; rfl))] at h
      have H := Aside0.mk h
      clear h
      have h := H.out
      cases h
      by_cases z : l7.length = 0
      ·have z1 : ((l7.length : Int) == 0) = true := beq_iff_eq.2 (by omega)
       have z2 : (l7.length == 0) = true := beq_iff_eq.2 z
       clear z
       go_wp2
       go_ret
       exact ⟨congrArg (fun b => Ending.returned (Value.bool b)) z2.symm, FF.out.hb⟩
      ·have z1 : ((l7.length : Int) == 0) = false := beq_eq_false_iff_ne.2 (by omega)
       have z2 : (l7.length == 0) = false := beq_eq_false_iff_ne.2 z
       clear z
       go_wp2
       go_ret
       exact ⟨congrArg (fun b => Ending.returned (Value.bool b)) z2.symm, FF.out.hb⟩
set_option maxHeartbeats 4000000 in
set_option maxRecDepth 100000 in
theorem rmay_2 (k : Nat) (u f n o : ByteArray) (ro ve : Int) (A7 : Option Addr) (c7 : Nat) (l7 : List Int) (r : Bool) (w : World) (hu : bastilleref25_Name.f k u = some true) (h : mayK k (l7.length == 0) (.name f :: (if (o.toList == ([] : List UInt8)) = true then (.b (!(o.toList == f.toList)) :: (.b (n.toList == ([] : List UInt8)) :: (.b (ro == 0) :: (.b (ve == 0) :: [])))) else .name o :: (.b (!(o.toList == f.toList)) :: (.b (n.toList == ([] : List UInt8)) :: (.b (ro == 0) :: (.b (ve == 0) :: [])))))) = some r) :
  Calls Tryd.prog 12 #[.agg #[.int .i64 2, .string u, .string f, .string n, .string o, .int .i64 ro, .int .i64 ve, .slice A7 l7.length c7]] w fun e w' => e = .returned (.bool r) ∧ Below w.heap.size w w' := by
 have FF := Aside0.mk (show RS w 2 u f n o ro ve A7 c7 l7 _ from ⟨(Below.refl _ w).alloc (Nat.le_refl _) (.cells #[.int .i64 2, .string u, .string f, .string n, .string o, .int .i64 ro, .int .i64 ve, .slice A7 l7.length c7] 24), Array.getElem?_push_size⟩)
 have HU := Aside0.mk hu
 have H := Aside0.mk h
 clear hu h
 obtain ⟨x0, x1, x2, x3, x4, x5, x6, x7⟩ := FF.out.cells
 go_enter Tryd.func12, Tryd.ntmps12
 go_wp2_with fail
 refine (bastilleref25_Name.calls k u true _ HU.out).mono ?_
 rintro e w0 ⟨rfl, hd⟩
 clear HU
 have hb := hd.below
 have FN_ := Aside0.mk (FF.out.step hb)
 clear FF hb hd x0 x1 x2 x3 x4 x5 x6 x7
 have FF := FN_
 clear FN_
 obtain ⟨x0, x1, x2, x3, x4, x5, x6, x7⟩ := FF.out.cells
 have h := H.out
 clear H
 obtain ⟨t6, hn, h⟩ := Option.bind_eq_some_iff.1 h
 have HN := Aside0.mk hn
 have H := Aside0.mk h
 clear hn h
 go_wp2_with fail
 refine (bastilleref25_Name.calls k f t6 _ HN.out).mono ?_
 rintro e w6 ⟨rfl, hd⟩
 clear HN
 have hb := hd.below
 have FN_ := Aside0.mk (FF.out.step hb)
 clear FF hb hd x0 x1 x2 x3 x4 x5 x6 x7
 have FF := FN_
 clear FN_
 obtain ⟨x0, x1, x2, x3, x4, x5, x6, x7⟩ := FF.out.cells
 have h := H.out
 clear H
 cases t6 with
 | false =>
  rw [if_neg (by decide)] at h
  cases h
  go_wp2
  go_ret
  exact ⟨rfl, FF.out.hb⟩
 | true =>
  rw [if_pos rfl] at h
  have H := Aside0.mk h
  clear h
  cases q7 : (o.toList == ([] : List UInt8)) with
  | true =>
   have q7n : (o.toList != ([] : List UInt8)) = false := by simp only [bne, q7, Bool.not_true]
   have h := H.out
   clear H
   rw [if_pos q7] at h
   have H := Aside0.mk h
   clear h
   cases q8 : (o.toList == f.toList) with
   | true =>
    have h := H.out
    clear H
    rw [mayK, if_neg (by rw [q8]; decide)] at h
    cases h
    go_wp2
    go_ret
    exact ⟨rfl, FF.out.hb⟩
   | false =>
    have h := H.out
    clear H
    rw [mayK, if_pos (by first | (rw [q8]; done) | (rw [q8]; rfl))] at h
    have H := Aside0.mk h
    clear h
    cases q9 : (n.toList == ([] : List UInt8)) with
    | false =>
     have q9n : (n.toList != ([] : List UInt8)) = true := by simp only [bne, q9, Bool.not_false]
     have h := H.out
     clear H
     rw [mayK, if_neg (by rw [q9]; decide)] at h
     cases h
     go_wp2
     go_ret
     exact ⟨rfl, FF.out.hb⟩
    | true =>
     have q9n : (n.toList != ([] : List UInt8)) = false := by simp only [bne, q9, Bool.not_true]
     have h := H.out
     clear H
     rw [mayK, if_pos (by first | (rw [q9]; done) | (rw [q9]; rfl))] at h
     have H := Aside0.mk h
     clear h
     cases q10 : (ro == 0) with
     | false =>
      have q10n : (ro != 0) = true := by simp only [bne, q10, Bool.not_false]
      have h := H.out
      clear H
      rw [mayK, if_neg (by rw [q10]; decide)] at h
      cases h
      go_wp2
      go_ret
      exact ⟨rfl, FF.out.hb⟩
     | true =>
      have q10n : (ro != 0) = false := by simp only [bne, q10, Bool.not_true]
      have h := H.out
      clear H
      rw [mayK, if_pos (by first | (rw [q10]; done) | (rw [q10]; rfl))] at h
      have H := Aside0.mk h
      clear h
      cases q11 : (ve == 0) with
      | false =>
       have q11n : (ve != 0) = true := by simp only [bne, q11, Bool.not_false]
       have h := H.out
       clear H
       rw [mayK, if_neg (by rw [q11]; decide)] at h
       cases h
       go_wp2
       go_ret
       exact ⟨rfl, FF.out.hb⟩
      | true =>
       have q11n : (ve != 0) = false := by simp only [bne, q11, Bool.not_true]
       have h := H.out
       clear H
       rw [mayK, if_pos (by first | (rw [q11]; done) | (rw [q11]; rfl))] at h
       have H := Aside0.mk h
       clear h
       have h := H.out
       cases h
       by_cases z : l7.length = 0
       ·have z1 : ((l7.length : Int) == 0) = true := beq_iff_eq.2 (by omega)
        have z2 : (l7.length == 0) = true := beq_iff_eq.2 z
        clear z
        go_wp2
        go_ret
        exact ⟨congrArg (fun b => Ending.returned (Value.bool b)) z2.symm, FF.out.hb⟩
       ·have z1 : ((l7.length : Int) == 0) = false := beq_eq_false_iff_ne.2 (by omega)
        have z2 : (l7.length == 0) = false := beq_eq_false_iff_ne.2 z
        clear z
        go_wp2
        go_ret
        exact ⟨congrArg (fun b => Ending.returned (Value.bool b)) z2.symm, FF.out.hb⟩
  | false =>
   have q7n : (o.toList != ([] : List UInt8)) = true := by simp only [bne, q7, Bool.not_false]
   have h := H.out
   clear H
   rw [if_neg (by rw [q7]; decide)] at h
   have H := Aside0.mk h
   clear h
   have h := H.out
   clear H
   obtain ⟨t12, hn, h⟩ := Option.bind_eq_some_iff.1 h
   have HN := Aside0.mk hn
   have H := Aside0.mk h
   clear hn h
   go_wp2_with fail
   refine (bastilleref25_Name.calls k o t12 _ HN.out).mono ?_
   rintro e w12 ⟨rfl, hd⟩
   clear HN
   have hb := hd.below
   have FN_ := Aside0.mk (FF.out.step hb)
   clear FF hb hd x0 x1 x2 x3 x4 x5 x6 x7
   have FF := FN_
   clear FN_
   obtain ⟨x0, x1, x2, x3, x4, x5, x6, x7⟩ := FF.out.cells
   have h := H.out
   clear H
   cases t12 with
   | false =>
    rw [if_neg (by decide)] at h
    cases h
    go_wp2
    go_ret
    exact ⟨rfl, FF.out.hb⟩
   | true =>
    rw [if_pos rfl] at h
    have H := Aside0.mk h
    clear h
    cases q13 : (o.toList == f.toList) with
    | true =>
     have h := H.out
     clear H
     rw [mayK, if_neg (by rw [q13]; decide)] at h
     cases h
     go_wp2
     go_ret
     exact ⟨rfl, FF.out.hb⟩
    | false =>
     have h := H.out
     clear H
     rw [mayK, if_pos (by first | (rw [q13]; done) | (rw [q13]; rfl))] at h
     have H := Aside0.mk h
     clear h
     cases q14 : (n.toList == ([] : List UInt8)) with
     | false =>
      have q14n : (n.toList != ([] : List UInt8)) = true := by simp only [bne, q14, Bool.not_false]
      have h := H.out
      clear H
      rw [mayK, if_neg (by rw [q14]; decide)] at h
      cases h
      go_wp2
      go_ret
      exact ⟨rfl, FF.out.hb⟩
     | true =>
      have q14n : (n.toList != ([] : List UInt8)) = false := by simp only [bne, q14, Bool.not_true]
      have h := H.out
      clear H
      rw [mayK, if_pos (by first | (rw [q14]; done) | (rw [q14]; rfl))] at h
      have H := Aside0.mk h
      clear h
      cases q15 : (ro == 0) with
      | false =>
       have q15n : (ro != 0) = true := by simp only [bne, q15, Bool.not_false]
       have h := H.out
       clear H
       rw [mayK, if_neg (by rw [q15]; decide)] at h
       cases h
       go_wp2
       go_ret
       exact ⟨rfl, FF.out.hb⟩
      | true =>
       have q15n : (ro != 0) = false := by simp only [bne, q15, Bool.not_true]
       have h := H.out
       clear H
       rw [mayK, if_pos (by first | (rw [q15]; done) | (rw [q15]; rfl))] at h
       have H := Aside0.mk h
       clear h
       cases q16 : (ve == 0) with
       | false =>
        have q16n : (ve != 0) = true := by simp only [bne, q16, Bool.not_false]
        have h := H.out
        clear H
        rw [mayK, if_neg (by rw [q16]; decide)] at h
        cases h
        go_wp2
        go_ret
        exact ⟨rfl, FF.out.hb⟩
       | true =>
        have q16n : (ve != 0) = false := by simp only [bne, q16, Bool.not_true]
        have h := H.out
        clear H
        rw [mayK, if_pos (by first | (rw [q16]; done) | (rw [q16]; rfl))] at h
        have H := Aside0.mk h
        clear h
        have h := H.out
        cases h
        by_cases z : l7.length = 0
        ·have z1 : ((l7.length : Int) == 0) = true := beq_iff_eq.2 (by omega)
         have z2 : (l7.length == 0) = true := beq_iff_eq.2 z
         clear z
         go_wp2
         go_ret
         exact ⟨congrArg (fun b => Ending.returned (Value.bool b)) z2.symm, FF.out.hb⟩
        ·have z1 : ((l7.length : Int) == 0) = false := beq_eq_false_iff_ne.2 (by omega)
         have z2 : (l7.length == 0) = false := beq_eq_false_iff_ne.2 z
         clear z
         go_wp2
         go_ret
         exact ⟨congrArg (fun b => Ending.returned (Value.bool b)) z2.symm, FF.out.hb⟩
set_option maxHeartbeats 4000000 in
set_option maxRecDepth 100000 in
theorem rmay_3 (k : Nat) (u f n o : ByteArray) (ro ve : Int) (A7 : Option Addr) (c7 : Nat) (l7 : List Int) (r : Bool) (w : World) (hu : bastilleref25_Name.f k u = some true) (h : mayK k (l7.length == 0) (.name f :: (if (o.toList == ([] : List UInt8)) = true then (.b (n.toList == ([] : List UInt8)) :: (.b (ro == 0) :: (.b (ve == 0) :: []))) else .name o :: (.b (n.toList == ([] : List UInt8)) :: (.b (ro == 0) :: (.b (ve == 0) :: []))))) = some r) :
  Calls Tryd.prog 12 #[.agg #[.int .i64 3, .string u, .string f, .string n, .string o, .int .i64 ro, .int .i64 ve, .slice A7 l7.length c7]] w fun e w' => e = .returned (.bool r) ∧ Below w.heap.size w w' := by
 have FF := Aside0.mk (show RS w 3 u f n o ro ve A7 c7 l7 _ from ⟨(Below.refl _ w).alloc (Nat.le_refl _) (.cells #[.int .i64 3, .string u, .string f, .string n, .string o, .int .i64 ro, .int .i64 ve, .slice A7 l7.length c7] 24), Array.getElem?_push_size⟩)
 have HU := Aside0.mk hu
 have H := Aside0.mk h
 clear hu h
 obtain ⟨x0, x1, x2, x3, x4, x5, x6, x7⟩ := FF.out.cells
 go_enter Tryd.func12, Tryd.ntmps12
 go_wp2_with fail
 refine (bastilleref25_Name.calls k u true _ HU.out).mono ?_
 rintro e w0 ⟨rfl, hd⟩
 clear HU
 have hb := hd.below
 have FN_ := Aside0.mk (FF.out.step hb)
 clear FF hb hd x0 x1 x2 x3 x4 x5 x6 x7
 have FF := FN_
 clear FN_
 obtain ⟨x0, x1, x2, x3, x4, x5, x6, x7⟩ := FF.out.cells
 have h := H.out
 clear H
 obtain ⟨t17, hn, h⟩ := Option.bind_eq_some_iff.1 h
 have HN := Aside0.mk hn
 have H := Aside0.mk h
 clear hn h
 go_wp2_with fail
 refine (bastilleref25_Name.calls k f t17 _ HN.out).mono ?_
 rintro e w17 ⟨rfl, hd⟩
 clear HN
 have hb := hd.below
 have FN_ := Aside0.mk (FF.out.step hb)
 clear FF hb hd x0 x1 x2 x3 x4 x5 x6 x7
 have FF := FN_
 clear FN_
 obtain ⟨x0, x1, x2, x3, x4, x5, x6, x7⟩ := FF.out.cells
 have h := H.out
 clear H
 cases t17 with
 | false =>
  rw [if_neg (by decide)] at h
  cases h
  go_wp2
  go_ret
  exact ⟨rfl, FF.out.hb⟩
 | true =>
  rw [if_pos rfl] at h
  have H := Aside0.mk h
  clear h
  cases q18 : (o.toList == ([] : List UInt8)) with
  | true =>
   have q18n : (o.toList != ([] : List UInt8)) = false := by simp only [bne, q18, Bool.not_true]
   have h := H.out
   clear H
   rw [if_pos q18] at h
   have H := Aside0.mk h
   clear h
   cases q19 : (n.toList == ([] : List UInt8)) with
   | false =>
    have q19n : (n.toList != ([] : List UInt8)) = true := by simp only [bne, q19, Bool.not_false]
    have h := H.out
    clear H
    rw [mayK, if_neg (by rw [q19]; decide)] at h
    cases h
    go_wp2
    go_ret
    exact ⟨rfl, FF.out.hb⟩
   | true =>
    have q19n : (n.toList != ([] : List UInt8)) = false := by simp only [bne, q19, Bool.not_true]
    have h := H.out
    clear H
    rw [mayK, if_pos (by first | (rw [q19]; done) | (rw [q19]; rfl))] at h
    have H := Aside0.mk h
    clear h
    cases q20 : (ro == 0) with
    | false =>
     have q20n : (ro != 0) = true := by simp only [bne, q20, Bool.not_false]
     have h := H.out
     clear H
     rw [mayK, if_neg (by rw [q20]; decide)] at h
     cases h
     go_wp2
     go_ret
     exact ⟨rfl, FF.out.hb⟩
    | true =>
     have q20n : (ro != 0) = false := by simp only [bne, q20, Bool.not_true]
     have h := H.out
     clear H
     rw [mayK, if_pos (by first | (rw [q20]; done) | (rw [q20]; rfl))] at h
     have H := Aside0.mk h
     clear h
     cases q21 : (ve == 0) with
     | false =>
      have q21n : (ve != 0) = true := by simp only [bne, q21, Bool.not_false]
      have h := H.out
      clear H
      rw [mayK, if_neg (by rw [q21]; decide)] at h
      cases h
      go_wp2
      go_ret
      exact ⟨rfl, FF.out.hb⟩
     | true =>
      have q21n : (ve != 0) = false := by simp only [bne, q21, Bool.not_true]
      have h := H.out
      clear H
      rw [mayK, if_pos (by first | (rw [q21]; done) | (rw [q21]; rfl))] at h
      have H := Aside0.mk h
      clear h
      have h := H.out
      cases h
      by_cases z : l7.length = 0
      ·have z1 : ((l7.length : Int) == 0) = true := beq_iff_eq.2 (by omega)
       have z2 : (l7.length == 0) = true := beq_iff_eq.2 z
       clear z
       go_wp2
       go_ret
       exact ⟨congrArg (fun b => Ending.returned (Value.bool b)) z2.symm, FF.out.hb⟩
      ·have z1 : ((l7.length : Int) == 0) = false := beq_eq_false_iff_ne.2 (by omega)
       have z2 : (l7.length == 0) = false := beq_eq_false_iff_ne.2 z
       clear z
       go_wp2
       go_ret
       exact ⟨congrArg (fun b => Ending.returned (Value.bool b)) z2.symm, FF.out.hb⟩
  | false =>
   have q18n : (o.toList != ([] : List UInt8)) = true := by simp only [bne, q18, Bool.not_false]
   have h := H.out
   clear H
   rw [if_neg (by rw [q18]; decide)] at h
   have H := Aside0.mk h
   clear h
   have h := H.out
   clear H
   obtain ⟨t22, hn, h⟩ := Option.bind_eq_some_iff.1 h
   have HN := Aside0.mk hn
   have H := Aside0.mk h
   clear hn h
   go_wp2_with fail
   refine (bastilleref25_Name.calls k o t22 _ HN.out).mono ?_
   rintro e w22 ⟨rfl, hd⟩
   clear HN
   have hb := hd.below
   have FN_ := Aside0.mk (FF.out.step hb)
   clear FF hb hd x0 x1 x2 x3 x4 x5 x6 x7
   have FF := FN_
   clear FN_
   obtain ⟨x0, x1, x2, x3, x4, x5, x6, x7⟩ := FF.out.cells
   have h := H.out
   clear H
   cases t22 with
   | false =>
    rw [if_neg (by decide)] at h
    cases h
    go_wp2
    go_ret
    exact ⟨rfl, FF.out.hb⟩
   | true =>
    rw [if_pos rfl] at h
    have H := Aside0.mk h
    clear h
    cases q23 : (n.toList == ([] : List UInt8)) with
    | false =>
     have q23n : (n.toList != ([] : List UInt8)) = true := by simp only [bne, q23, Bool.not_false]
     have h := H.out
     clear H
     rw [mayK, if_neg (by rw [q23]; decide)] at h
     cases h
     go_wp2
     go_ret
     exact ⟨rfl, FF.out.hb⟩
    | true =>
     have q23n : (n.toList != ([] : List UInt8)) = false := by simp only [bne, q23, Bool.not_true]
     have h := H.out
     clear H
     rw [mayK, if_pos (by first | (rw [q23]; done) | (rw [q23]; rfl))] at h
     have H := Aside0.mk h
     clear h
     cases q24 : (ro == 0) with
     | false =>
      have q24n : (ro != 0) = true := by simp only [bne, q24, Bool.not_false]
      have h := H.out
      clear H
      rw [mayK, if_neg (by rw [q24]; decide)] at h
      cases h
      go_wp2
      go_ret
      exact ⟨rfl, FF.out.hb⟩
     | true =>
      have q24n : (ro != 0) = false := by simp only [bne, q24, Bool.not_true]
      have h := H.out
      clear H
      rw [mayK, if_pos (by first | (rw [q24]; done) | (rw [q24]; rfl))] at h
      have H := Aside0.mk h
      clear h
      cases q25 : (ve == 0) with
      | false =>
       have q25n : (ve != 0) = true := by simp only [bne, q25, Bool.not_false]
       have h := H.out
       clear H
       rw [mayK, if_neg (by rw [q25]; decide)] at h
       cases h
       go_wp2
       go_ret
       exact ⟨rfl, FF.out.hb⟩
      | true =>
       have q25n : (ve != 0) = false := by simp only [bne, q25, Bool.not_true]
       have h := H.out
       clear H
       rw [mayK, if_pos (by first | (rw [q25]; done) | (rw [q25]; rfl))] at h
       have H := Aside0.mk h
       clear h
       have h := H.out
       cases h
       by_cases z : l7.length = 0
       ·have z1 : ((l7.length : Int) == 0) = true := beq_iff_eq.2 (by omega)
        have z2 : (l7.length == 0) = true := beq_iff_eq.2 z
        clear z
        go_wp2
        go_ret
        exact ⟨congrArg (fun b => Ending.returned (Value.bool b)) z2.symm, FF.out.hb⟩
       ·have z1 : ((l7.length : Int) == 0) = false := beq_eq_false_iff_ne.2 (by omega)
        have z2 : (l7.length == 0) = false := beq_eq_false_iff_ne.2 z
        clear z
        go_wp2
        go_ret
        exact ⟨congrArg (fun b => Ending.returned (Value.bool b)) z2.symm, FF.out.hb⟩
set_option maxHeartbeats 4000000 in
set_option maxRecDepth 100000 in
theorem rmay_4 (k : Nat) (u f n o : ByteArray) (ro ve : Int) (A7 : Option Addr) (c7 : Nat) (l7 : List Int) (r : Bool) (w : World) (hu : bastilleref25_Name.f k u = some true) (h : mayK k (l7.length == 0) (.name f :: (.b (o.toList == ([] : List UInt8)) :: (.b (n.toList == ([] : List UInt8)) :: (.b (ro == 0) :: (.b (ve == 0) :: []))))) = some r) :
  Calls Tryd.prog 12 #[.agg #[.int .i64 4, .string u, .string f, .string n, .string o, .int .i64 ro, .int .i64 ve, .slice A7 l7.length c7]] w fun e w' => e = .returned (.bool r) ∧ Below w.heap.size w w' := by
 have FF := Aside0.mk (show RS w 4 u f n o ro ve A7 c7 l7 _ from ⟨(Below.refl _ w).alloc (Nat.le_refl _) (.cells #[.int .i64 4, .string u, .string f, .string n, .string o, .int .i64 ro, .int .i64 ve, .slice A7 l7.length c7] 24), Array.getElem?_push_size⟩)
 have HU := Aside0.mk hu
 have H := Aside0.mk h
 clear hu h
 obtain ⟨x0, x1, x2, x3, x4, x5, x6, x7⟩ := FF.out.cells
 go_enter Tryd.func12, Tryd.ntmps12
 go_wp2_with fail
 refine (bastilleref25_Name.calls k u true _ HU.out).mono ?_
 rintro e w0 ⟨rfl, hd⟩
 clear HU
 have hb := hd.below
 have FN_ := Aside0.mk (FF.out.step hb)
 clear FF hb hd x0 x1 x2 x3 x4 x5 x6 x7
 have FF := FN_
 clear FN_
 obtain ⟨x0, x1, x2, x3, x4, x5, x6, x7⟩ := FF.out.cells
 have h := H.out
 clear H
 obtain ⟨t26, hn, h⟩ := Option.bind_eq_some_iff.1 h
 have HN := Aside0.mk hn
 have H := Aside0.mk h
 clear hn h
 go_wp2_with fail
 refine (bastilleref25_Name.calls k f t26 _ HN.out).mono ?_
 rintro e w26 ⟨rfl, hd⟩
 clear HN
 have hb := hd.below
 have FN_ := Aside0.mk (FF.out.step hb)
 clear FF hb hd x0 x1 x2 x3 x4 x5 x6 x7
 have FF := FN_
 clear FN_
 obtain ⟨x0, x1, x2, x3, x4, x5, x6, x7⟩ := FF.out.cells
 have h := H.out
 clear H
 cases t26 with
 | false =>
  rw [if_neg (by decide)] at h
  cases h
  go_wp2
  go_ret
  exact ⟨rfl, FF.out.hb⟩
 | true =>
  rw [if_pos rfl] at h
  have H := Aside0.mk h
  clear h
  cases q27 : (o.toList == ([] : List UInt8)) with
  | false =>
   have q27n : (o.toList != ([] : List UInt8)) = true := by simp only [bne, q27, Bool.not_false]
   have h := H.out
   clear H
   rw [mayK, if_neg (by rw [q27]; decide)] at h
   cases h
   go_wp2
   go_ret
   exact ⟨rfl, FF.out.hb⟩
  | true =>
   have q27n : (o.toList != ([] : List UInt8)) = false := by simp only [bne, q27, Bool.not_true]
   have h := H.out
   clear H
   rw [mayK, if_pos (by first | (rw [q27]; done) | (rw [q27]; rfl))] at h
   have H := Aside0.mk h
   clear h
   cases q28 : (n.toList == ([] : List UInt8)) with
   | false =>
    have q28n : (n.toList != ([] : List UInt8)) = true := by simp only [bne, q28, Bool.not_false]
    have h := H.out
    clear H
    rw [mayK, if_neg (by rw [q28]; decide)] at h
    cases h
    go_wp2
    go_ret
    exact ⟨rfl, FF.out.hb⟩
   | true =>
    have q28n : (n.toList != ([] : List UInt8)) = false := by simp only [bne, q28, Bool.not_true]
    have h := H.out
    clear H
    rw [mayK, if_pos (by first | (rw [q28]; done) | (rw [q28]; rfl))] at h
    have H := Aside0.mk h
    clear h
    cases q29 : (ro == 0) with
    | false =>
     have q29n : (ro != 0) = true := by simp only [bne, q29, Bool.not_false]
     have h := H.out
     clear H
     rw [mayK, if_neg (by rw [q29]; decide)] at h
     cases h
     go_wp2
     go_ret
     exact ⟨rfl, FF.out.hb⟩
    | true =>
     have q29n : (ro != 0) = false := by simp only [bne, q29, Bool.not_true]
     have h := H.out
     clear H
     rw [mayK, if_pos (by first | (rw [q29]; done) | (rw [q29]; rfl))] at h
     have H := Aside0.mk h
     clear h
     cases q30 : (ve == 0) with
     | false =>
      have q30n : (ve != 0) = true := by simp only [bne, q30, Bool.not_false]
      have h := H.out
      clear H
      rw [mayK, if_neg (by rw [q30]; decide)] at h
      cases h
      go_wp2
      go_ret
      exact ⟨rfl, FF.out.hb⟩
     | true =>
      have q30n : (ve != 0) = false := by simp only [bne, q30, Bool.not_true]
      have h := H.out
      clear H
      rw [mayK, if_pos (by first | (rw [q30]; done) | (rw [q30]; rfl))] at h
      have H := Aside0.mk h
      clear h
      have h := H.out
      cases h
      by_cases z : l7.length = 0
      ·have z1 : ((l7.length : Int) == 0) = true := beq_iff_eq.2 (by omega)
       have z2 : (l7.length == 0) = true := beq_iff_eq.2 z
       clear z
       go_wp2
       go_ret
       exact ⟨congrArg (fun b => Ending.returned (Value.bool b)) z2.symm, FF.out.hb⟩
      ·have z1 : ((l7.length : Int) == 0) = false := beq_eq_false_iff_ne.2 (by omega)
       have z2 : (l7.length == 0) = false := beq_eq_false_iff_ne.2 z
       clear z
       go_wp2
       go_ret
       exact ⟨congrArg (fun b => Ending.returned (Value.bool b)) z2.symm, FF.out.hb⟩
set_option maxHeartbeats 4000000 in
set_option maxRecDepth 100000 in
theorem rmay_5 (k : Nat) (u f n o : ByteArray) (ro ve : Int) (A7 : Option Addr) (c7 : Nat) (l7 : List Int) (r : Bool) (w : World) (hu : bastilleref25_Name.f k u = some true) (h : mayK k (l7.length == 0) (.name f :: (.name o :: (.b (n.toList == ([] : List UInt8)) :: (.b (decide (1 ≤ ro)) :: (.b (decide (ro ≤ 4)) :: (.b (ve == 0) :: [])))))) = some r) :
  Calls Tryd.prog 12 #[.agg #[.int .i64 5, .string u, .string f, .string n, .string o, .int .i64 ro, .int .i64 ve, .slice A7 l7.length c7]] w fun e w' => e = .returned (.bool r) ∧ Below w.heap.size w w' := by
 have FF := Aside0.mk (show RS w 5 u f n o ro ve A7 c7 l7 _ from ⟨(Below.refl _ w).alloc (Nat.le_refl _) (.cells #[.int .i64 5, .string u, .string f, .string n, .string o, .int .i64 ro, .int .i64 ve, .slice A7 l7.length c7] 24), Array.getElem?_push_size⟩)
 have HU := Aside0.mk hu
 have H := Aside0.mk h
 clear hu h
 obtain ⟨x0, x1, x2, x3, x4, x5, x6, x7⟩ := FF.out.cells
 go_enter Tryd.func12, Tryd.ntmps12
 go_wp2_with fail
 refine (bastilleref25_Name.calls k u true _ HU.out).mono ?_
 rintro e w0 ⟨rfl, hd⟩
 clear HU
 have hb := hd.below
 have FN_ := Aside0.mk (FF.out.step hb)
 clear FF hb hd x0 x1 x2 x3 x4 x5 x6 x7
 have FF := FN_
 clear FN_
 obtain ⟨x0, x1, x2, x3, x4, x5, x6, x7⟩ := FF.out.cells
 have h := H.out
 clear H
 obtain ⟨t31, hn, h⟩ := Option.bind_eq_some_iff.1 h
 have HN := Aside0.mk hn
 have H := Aside0.mk h
 clear hn h
 go_wp2_with fail
 refine (bastilleref25_Name.calls k f t31 _ HN.out).mono ?_
 rintro e w31 ⟨rfl, hd⟩
 clear HN
 have hb := hd.below
 have FN_ := Aside0.mk (FF.out.step hb)
 clear FF hb hd x0 x1 x2 x3 x4 x5 x6 x7
 have FF := FN_
 clear FN_
 obtain ⟨x0, x1, x2, x3, x4, x5, x6, x7⟩ := FF.out.cells
 have h := H.out
 clear H
 cases t31 with
 | false =>
  rw [if_neg (by decide)] at h
  cases h
  go_wp2
  go_ret
  exact ⟨rfl, FF.out.hb⟩
 | true =>
  rw [if_pos rfl] at h
  have H := Aside0.mk h
  clear h
  have h := H.out
  clear H
  obtain ⟨t32, hn, h⟩ := Option.bind_eq_some_iff.1 h
  have HN := Aside0.mk hn
  have H := Aside0.mk h
  clear hn h
  go_wp2_with fail
  refine (bastilleref25_Name.calls k o t32 _ HN.out).mono ?_
  rintro e w32 ⟨rfl, hd⟩
  clear HN
  have hb := hd.below
  have FN_ := Aside0.mk (FF.out.step hb)
  clear FF hb hd x0 x1 x2 x3 x4 x5 x6 x7
  have FF := FN_
  clear FN_
  obtain ⟨x0, x1, x2, x3, x4, x5, x6, x7⟩ := FF.out.cells
  have h := H.out
  clear H
  cases t32 with
  | false =>
   rw [if_neg (by decide)] at h
   cases h
   go_wp2
   go_ret
   exact ⟨rfl, FF.out.hb⟩
  | true =>
   rw [if_pos rfl] at h
   have H := Aside0.mk h
   clear h
   cases q33 : (n.toList == ([] : List UInt8)) with
   | false =>
    have q33n : (n.toList != ([] : List UInt8)) = true := by simp only [bne, q33, Bool.not_false]
    have h := H.out
    clear H
    rw [mayK, if_neg (by rw [q33]; decide)] at h
    cases h
    go_wp2
    go_ret
    exact ⟨rfl, FF.out.hb⟩
   | true =>
    have q33n : (n.toList != ([] : List UInt8)) = false := by simp only [bne, q33, Bool.not_true]
    have h := H.out
    clear H
    rw [mayK, if_pos (by first | (rw [q33]; done) | (rw [q33]; rfl))] at h
    have H := Aside0.mk h
    clear h
    cases q34 : (decide (1 ≤ ro)) with
    | false =>
     have q34n : decide (ro < 1) = true := decide_eq_true (by have := of_decide_eq_false q34; omega)
     have h := H.out
     clear H
     rw [mayK, if_neg (by rw [q34]; decide)] at h
     cases h
     go_wp2
     go_ret
     exact ⟨rfl, FF.out.hb⟩
    | true =>
     have q34n : decide (ro < 1) = false := decide_eq_false (by have := of_decide_eq_true q34; omega)
     have h := H.out
     clear H
     rw [mayK, if_pos (by first | (rw [q34]; done) | (rw [q34]; rfl))] at h
     have H := Aside0.mk h
     clear h
     cases q35 : (decide (ro ≤ 4)) with
     | false =>
      have q35n : decide (ro > 4) = true := decide_eq_true (by have := of_decide_eq_false q35; omega)
      have q35m : decide (4 < ro) = true := decide_eq_true (by have := of_decide_eq_false q35; omega)
      have h := H.out
      clear H
      rw [mayK, if_neg (by rw [q35]; decide)] at h
      cases h
      go_wp2
      go_ret
      exact ⟨rfl, FF.out.hb⟩
     | true =>
      have q35n : decide (ro > 4) = false := decide_eq_false (by have := of_decide_eq_true q35; omega)
      have q35m : decide (4 < ro) = false := decide_eq_false (by have := of_decide_eq_true q35; omega)
      have h := H.out
      clear H
      rw [mayK, if_pos (by first | (rw [q35]; done) | (rw [q35]; rfl))] at h
      have H := Aside0.mk h
      clear h
      cases q36 : (ve == 0) with
      | false =>
       have q36n : (ve != 0) = true := by simp only [bne, q36, Bool.not_false]
       have h := H.out
       clear H
       rw [mayK, if_neg (by rw [q36]; decide)] at h
       cases h
       go_wp2
       go_ret
       exact ⟨rfl, FF.out.hb⟩
      | true =>
       have q36n : (ve != 0) = false := by simp only [bne, q36, Bool.not_true]
       have h := H.out
       clear H
       rw [mayK, if_pos (by first | (rw [q36]; done) | (rw [q36]; rfl))] at h
       have H := Aside0.mk h
       clear h
       have h := H.out
       cases h
       by_cases z : l7.length = 0
       ·have z1 : ((l7.length : Int) == 0) = true := beq_iff_eq.2 (by omega)
        have z2 : (l7.length == 0) = true := beq_iff_eq.2 z
        clear z
        go_wp2
        go_ret
        exact ⟨congrArg (fun b => Ending.returned (Value.bool b)) z2.symm, FF.out.hb⟩
       ·have z1 : ((l7.length : Int) == 0) = false := beq_eq_false_iff_ne.2 (by omega)
        have z2 : (l7.length == 0) = false := beq_eq_false_iff_ne.2 z
        clear z
        go_wp2
        go_ret
        exact ⟨congrArg (fun b => Ending.returned (Value.bool b)) z2.symm, FF.out.hb⟩
set_option maxHeartbeats 4000000 in
set_option maxRecDepth 100000 in
theorem rmay_6 (k : Nat) (u f n o : ByteArray) (ro ve : Int) (A7 : Option Addr) (c7 : Nat) (l7 : List Int) (r : Bool) (w : World) (hu : bastilleref25_Name.f k u = some true) (h : mayK k (l7.length == 0) (.name f :: (.name o :: (.b (n.toList == ([] : List UInt8)) :: (.b (decide (1 ≤ ro)) :: (.b (decide (ro ≤ 4)) :: (.b (ve == 0) :: [])))))) = some r) :
  Calls Tryd.prog 12 #[.agg #[.int .i64 6, .string u, .string f, .string n, .string o, .int .i64 ro, .int .i64 ve, .slice A7 l7.length c7]] w fun e w' => e = .returned (.bool r) ∧ Below w.heap.size w w' := by
 have FF := Aside0.mk (show RS w 6 u f n o ro ve A7 c7 l7 _ from ⟨(Below.refl _ w).alloc (Nat.le_refl _) (.cells #[.int .i64 6, .string u, .string f, .string n, .string o, .int .i64 ro, .int .i64 ve, .slice A7 l7.length c7] 24), Array.getElem?_push_size⟩)
 have HU := Aside0.mk hu
 have H := Aside0.mk h
 clear hu h
 obtain ⟨x0, x1, x2, x3, x4, x5, x6, x7⟩ := FF.out.cells
 go_enter Tryd.func12, Tryd.ntmps12
 go_wp2_with fail
 refine (bastilleref25_Name.calls k u true _ HU.out).mono ?_
 rintro e w0 ⟨rfl, hd⟩
 clear HU
 have hb := hd.below
 have FN_ := Aside0.mk (FF.out.step hb)
 clear FF hb hd x0 x1 x2 x3 x4 x5 x6 x7
 have FF := FN_
 clear FN_
 obtain ⟨x0, x1, x2, x3, x4, x5, x6, x7⟩ := FF.out.cells
 have h := H.out
 clear H
 obtain ⟨t37, hn, h⟩ := Option.bind_eq_some_iff.1 h
 have HN := Aside0.mk hn
 have H := Aside0.mk h
 clear hn h
 go_wp2_with fail
 refine (bastilleref25_Name.calls k f t37 _ HN.out).mono ?_
 rintro e w37 ⟨rfl, hd⟩
 clear HN
 have hb := hd.below
 have FN_ := Aside0.mk (FF.out.step hb)
 clear FF hb hd x0 x1 x2 x3 x4 x5 x6 x7
 have FF := FN_
 clear FN_
 obtain ⟨x0, x1, x2, x3, x4, x5, x6, x7⟩ := FF.out.cells
 have h := H.out
 clear H
 cases t37 with
 | false =>
  rw [if_neg (by decide)] at h
  cases h
  go_wp2
  go_ret
  exact ⟨rfl, FF.out.hb⟩
 | true =>
  rw [if_pos rfl] at h
  have H := Aside0.mk h
  clear h
  have h := H.out
  clear H
  obtain ⟨t38, hn, h⟩ := Option.bind_eq_some_iff.1 h
  have HN := Aside0.mk hn
  have H := Aside0.mk h
  clear hn h
  go_wp2_with fail
  refine (bastilleref25_Name.calls k o t38 _ HN.out).mono ?_
  rintro e w38 ⟨rfl, hd⟩
  clear HN
  have hb := hd.below
  have FN_ := Aside0.mk (FF.out.step hb)
  clear FF hb hd x0 x1 x2 x3 x4 x5 x6 x7
  have FF := FN_
  clear FN_
  obtain ⟨x0, x1, x2, x3, x4, x5, x6, x7⟩ := FF.out.cells
  have h := H.out
  clear H
  cases t38 with
  | false =>
   rw [if_neg (by decide)] at h
   cases h
   go_wp2
   go_ret
   exact ⟨rfl, FF.out.hb⟩
  | true =>
   rw [if_pos rfl] at h
   have H := Aside0.mk h
   clear h
   cases q39 : (n.toList == ([] : List UInt8)) with
   | false =>
    have q39n : (n.toList != ([] : List UInt8)) = true := by simp only [bne, q39, Bool.not_false]
    have h := H.out
    clear H
    rw [mayK, if_neg (by rw [q39]; decide)] at h
    cases h
    go_wp2
    go_ret
    exact ⟨rfl, FF.out.hb⟩
   | true =>
    have q39n : (n.toList != ([] : List UInt8)) = false := by simp only [bne, q39, Bool.not_true]
    have h := H.out
    clear H
    rw [mayK, if_pos (by first | (rw [q39]; done) | (rw [q39]; rfl))] at h
    have H := Aside0.mk h
    clear h
    cases q40 : (decide (1 ≤ ro)) with
    | false =>
     have q40n : decide (ro < 1) = true := decide_eq_true (by have := of_decide_eq_false q40; omega)
     have h := H.out
     clear H
     rw [mayK, if_neg (by rw [q40]; decide)] at h
     cases h
     go_wp2
     go_ret
     exact ⟨rfl, FF.out.hb⟩
    | true =>
     have q40n : decide (ro < 1) = false := decide_eq_false (by have := of_decide_eq_true q40; omega)
     have h := H.out
     clear H
     rw [mayK, if_pos (by first | (rw [q40]; done) | (rw [q40]; rfl))] at h
     have H := Aside0.mk h
     clear h
     cases q41 : (decide (ro ≤ 4)) with
     | false =>
      have q41n : decide (ro > 4) = true := decide_eq_true (by have := of_decide_eq_false q41; omega)
      have q41m : decide (4 < ro) = true := decide_eq_true (by have := of_decide_eq_false q41; omega)
      have h := H.out
      clear H
      rw [mayK, if_neg (by rw [q41]; decide)] at h
      cases h
      go_wp2
      go_ret
      exact ⟨rfl, FF.out.hb⟩
     | true =>
      have q41n : decide (ro > 4) = false := decide_eq_false (by have := of_decide_eq_true q41; omega)
      have q41m : decide (4 < ro) = false := decide_eq_false (by have := of_decide_eq_true q41; omega)
      have h := H.out
      clear H
      rw [mayK, if_pos (by first | (rw [q41]; done) | (rw [q41]; rfl))] at h
      have H := Aside0.mk h
      clear h
      cases q42 : (ve == 0) with
      | false =>
       have q42n : (ve != 0) = true := by simp only [bne, q42, Bool.not_false]
       have h := H.out
       clear H
       rw [mayK, if_neg (by rw [q42]; decide)] at h
       cases h
       go_wp2
       go_ret
       exact ⟨rfl, FF.out.hb⟩
      | true =>
       have q42n : (ve != 0) = false := by simp only [bne, q42, Bool.not_true]
       have h := H.out
       clear H
       rw [mayK, if_pos (by first | (rw [q42]; done) | (rw [q42]; rfl))] at h
       have H := Aside0.mk h
       clear h
       have h := H.out
       cases h
       by_cases z : l7.length = 0
       ·have z1 : ((l7.length : Int) == 0) = true := beq_iff_eq.2 (by omega)
        have z2 : (l7.length == 0) = true := beq_iff_eq.2 z
        clear z
        go_wp2
        go_ret
        exact ⟨congrArg (fun b => Ending.returned (Value.bool b)) z2.symm, FF.out.hb⟩
       ·have z1 : ((l7.length : Int) == 0) = false := beq_eq_false_iff_ne.2 (by omega)
        have z2 : (l7.length == 0) = false := beq_eq_false_iff_ne.2 z
        clear z
        go_wp2
        go_ret
        exact ⟨congrArg (fun b => Ending.returned (Value.bool b)) z2.symm, FF.out.hb⟩
set_option maxHeartbeats 4000000 in
set_option maxRecDepth 100000 in
theorem rmay_7 (k : Nat) (u f n o : ByteArray) (ro ve : Int) (A7 : Option Addr) (c7 : Nat) (l7 : List Int) (r : Bool) (w : World) (hu : bastilleref25_Name.f k u = some true) (h : mayK k (l7.length == 0) (.name f :: (.name o :: (.b (n.toList == ([] : List UInt8)) :: (.b (ro == 0) :: (.b (ve == 0) :: []))))) = some r) :
  Calls Tryd.prog 12 #[.agg #[.int .i64 7, .string u, .string f, .string n, .string o, .int .i64 ro, .int .i64 ve, .slice A7 l7.length c7]] w fun e w' => e = .returned (.bool r) ∧ Below w.heap.size w w' := by
 have FF := Aside0.mk (show RS w 7 u f n o ro ve A7 c7 l7 _ from ⟨(Below.refl _ w).alloc (Nat.le_refl _) (.cells #[.int .i64 7, .string u, .string f, .string n, .string o, .int .i64 ro, .int .i64 ve, .slice A7 l7.length c7] 24), Array.getElem?_push_size⟩)
 have HU := Aside0.mk hu
 have H := Aside0.mk h
 clear hu h
 obtain ⟨x0, x1, x2, x3, x4, x5, x6, x7⟩ := FF.out.cells
 go_enter Tryd.func12, Tryd.ntmps12
 go_wp2_with fail
 refine (bastilleref25_Name.calls k u true _ HU.out).mono ?_
 rintro e w0 ⟨rfl, hd⟩
 clear HU
 have hb := hd.below
 have FN_ := Aside0.mk (FF.out.step hb)
 clear FF hb hd x0 x1 x2 x3 x4 x5 x6 x7
 have FF := FN_
 clear FN_
 obtain ⟨x0, x1, x2, x3, x4, x5, x6, x7⟩ := FF.out.cells
 have h := H.out
 clear H
 obtain ⟨t43, hn, h⟩ := Option.bind_eq_some_iff.1 h
 have HN := Aside0.mk hn
 have H := Aside0.mk h
 clear hn h
 go_wp2_with fail
 refine (bastilleref25_Name.calls k f t43 _ HN.out).mono ?_
 rintro e w43 ⟨rfl, hd⟩
 clear HN
 have hb := hd.below
 have FN_ := Aside0.mk (FF.out.step hb)
 clear FF hb hd x0 x1 x2 x3 x4 x5 x6 x7
 have FF := FN_
 clear FN_
 obtain ⟨x0, x1, x2, x3, x4, x5, x6, x7⟩ := FF.out.cells
 have h := H.out
 clear H
 cases t43 with
 | false =>
  rw [if_neg (by decide)] at h
  cases h
  go_wp2
  go_ret
  exact ⟨rfl, FF.out.hb⟩
 | true =>
  rw [if_pos rfl] at h
  have H := Aside0.mk h
  clear h
  have h := H.out
  clear H
  obtain ⟨t44, hn, h⟩ := Option.bind_eq_some_iff.1 h
  have HN := Aside0.mk hn
  have H := Aside0.mk h
  clear hn h
  go_wp2_with fail
  refine (bastilleref25_Name.calls k o t44 _ HN.out).mono ?_
  rintro e w44 ⟨rfl, hd⟩
  clear HN
  have hb := hd.below
  have FN_ := Aside0.mk (FF.out.step hb)
  clear FF hb hd x0 x1 x2 x3 x4 x5 x6 x7
  have FF := FN_
  clear FN_
  obtain ⟨x0, x1, x2, x3, x4, x5, x6, x7⟩ := FF.out.cells
  have h := H.out
  clear H
  cases t44 with
  | false =>
   rw [if_neg (by decide)] at h
   cases h
   go_wp2
   go_ret
   exact ⟨rfl, FF.out.hb⟩
  | true =>
   rw [if_pos rfl] at h
   have H := Aside0.mk h
   clear h
   cases q45 : (n.toList == ([] : List UInt8)) with
   | false =>
    have q45n : (n.toList != ([] : List UInt8)) = true := by simp only [bne, q45, Bool.not_false]
    have h := H.out
    clear H
    rw [mayK, if_neg (by rw [q45]; decide)] at h
    cases h
    go_wp2
    go_ret
    exact ⟨rfl, FF.out.hb⟩
   | true =>
    have q45n : (n.toList != ([] : List UInt8)) = false := by simp only [bne, q45, Bool.not_true]
    have h := H.out
    clear H
    rw [mayK, if_pos (by first | (rw [q45]; done) | (rw [q45]; rfl))] at h
    have H := Aside0.mk h
    clear h
    cases q46 : (ro == 0) with
    | false =>
     have q46n : (ro != 0) = true := by simp only [bne, q46, Bool.not_false]
     have h := H.out
     clear H
     rw [mayK, if_neg (by rw [q46]; decide)] at h
     cases h
     go_wp2
     go_ret
     exact ⟨rfl, FF.out.hb⟩
    | true =>
     have q46n : (ro != 0) = false := by simp only [bne, q46, Bool.not_true]
     have h := H.out
     clear H
     rw [mayK, if_pos (by first | (rw [q46]; done) | (rw [q46]; rfl))] at h
     have H := Aside0.mk h
     clear h
     cases q47 : (ve == 0) with
     | false =>
      have q47n : (ve != 0) = true := by simp only [bne, q47, Bool.not_false]
      have h := H.out
      clear H
      rw [mayK, if_neg (by rw [q47]; decide)] at h
      cases h
      go_wp2
      go_ret
      exact ⟨rfl, FF.out.hb⟩
     | true =>
      have q47n : (ve != 0) = false := by simp only [bne, q47, Bool.not_true]
      have h := H.out
      clear H
      rw [mayK, if_pos (by first | (rw [q47]; done) | (rw [q47]; rfl))] at h
      have H := Aside0.mk h
      clear h
      have h := H.out
      cases h
      by_cases z : l7.length = 0
      ·have z1 : ((l7.length : Int) == 0) = true := beq_iff_eq.2 (by omega)
       have z2 : (l7.length == 0) = true := beq_iff_eq.2 z
       clear z
       go_wp2
       go_ret
       exact ⟨congrArg (fun b => Ending.returned (Value.bool b)) z2.symm, FF.out.hb⟩
      ·have z1 : ((l7.length : Int) == 0) = false := beq_eq_false_iff_ne.2 (by omega)
       have z2 : (l7.length == 0) = false := beq_eq_false_iff_ne.2 z
       clear z
       go_wp2
       go_ret
       exact ⟨congrArg (fun b => Ending.returned (Value.bool b)) z2.symm, FF.out.hb⟩
set_option maxHeartbeats 4000000 in
set_option maxRecDepth 100000 in
theorem rmay_8 (k : Nat) (u f n o : ByteArray) (ro ve : Int) (A7 : Option Addr) (c7 : Nat) (l7 : List Int) (r : Bool) (w : World) (hu : bastilleref25_Name.f k u = some true) (h : mayK k (decide (l7.length ≤ 512)) (.name f :: (.b (o.toList == ([] : List UInt8)) :: (.name n :: (.b (ro == 0) :: (.b (ve == 0) :: []))))) = some r) :
  Calls Tryd.prog 12 #[.agg #[.int .i64 8, .string u, .string f, .string n, .string o, .int .i64 ro, .int .i64 ve, .slice A7 l7.length c7]] w fun e w' => e = .returned (.bool r) ∧ Below w.heap.size w w' := by
 have FF := Aside0.mk (show RS w 8 u f n o ro ve A7 c7 l7 _ from ⟨(Below.refl _ w).alloc (Nat.le_refl _) (.cells #[.int .i64 8, .string u, .string f, .string n, .string o, .int .i64 ro, .int .i64 ve, .slice A7 l7.length c7] 24), Array.getElem?_push_size⟩)
 have HU := Aside0.mk hu
 have H := Aside0.mk h
 clear hu h
 obtain ⟨x0, x1, x2, x3, x4, x5, x6, x7⟩ := FF.out.cells
 go_enter Tryd.func12, Tryd.ntmps12
 go_wp2_with fail
 refine (bastilleref25_Name.calls k u true _ HU.out).mono ?_
 rintro e w0 ⟨rfl, hd⟩
 clear HU
 have hb := hd.below
 have FN_ := Aside0.mk (FF.out.step hb)
 clear FF hb hd x0 x1 x2 x3 x4 x5 x6 x7
 have FF := FN_
 clear FN_
 obtain ⟨x0, x1, x2, x3, x4, x5, x6, x7⟩ := FF.out.cells
 have h := H.out
 clear H
 obtain ⟨t48, hn, h⟩ := Option.bind_eq_some_iff.1 h
 have HN := Aside0.mk hn
 have H := Aside0.mk h
 clear hn h
 go_wp2_with fail
 refine (bastilleref25_Name.calls k f t48 _ HN.out).mono ?_
 rintro e w48 ⟨rfl, hd⟩
 clear HN
 have hb := hd.below
 have FN_ := Aside0.mk (FF.out.step hb)
 clear FF hb hd x0 x1 x2 x3 x4 x5 x6 x7
 have FF := FN_
 clear FN_
 obtain ⟨x0, x1, x2, x3, x4, x5, x6, x7⟩ := FF.out.cells
 have h := H.out
 clear H
 cases t48 with
 | false =>
  rw [if_neg (by decide)] at h
  cases h
  go_wp2
  go_ret
  exact ⟨rfl, FF.out.hb⟩
 | true =>
  rw [if_pos rfl] at h
  have H := Aside0.mk h
  clear h
  cases q49 : (o.toList == ([] : List UInt8)) with
  | false =>
   have q49n : (o.toList != ([] : List UInt8)) = true := by simp only [bne, q49, Bool.not_false]
   have h := H.out
   clear H
   rw [mayK, if_neg (by rw [q49]; decide)] at h
   cases h
   go_wp2
   go_ret
   exact ⟨rfl, FF.out.hb⟩
  | true =>
   have q49n : (o.toList != ([] : List UInt8)) = false := by simp only [bne, q49, Bool.not_true]
   have h := H.out
   clear H
   rw [mayK, if_pos (by first | (rw [q49]; done) | (rw [q49]; rfl))] at h
   have H := Aside0.mk h
   clear h
   have h := H.out
   clear H
   obtain ⟨t50, hn, h⟩ := Option.bind_eq_some_iff.1 h
   have HN := Aside0.mk hn
   have H := Aside0.mk h
   clear hn h
   go_wp2_with fail
   refine (bastilleref25_Name.calls k n t50 _ HN.out).mono ?_
   rintro e w50 ⟨rfl, hd⟩
   clear HN
   have hb := hd.below
   have FN_ := Aside0.mk (FF.out.step hb)
   clear FF hb hd x0 x1 x2 x3 x4 x5 x6 x7
   have FF := FN_
   clear FN_
   obtain ⟨x0, x1, x2, x3, x4, x5, x6, x7⟩ := FF.out.cells
   have h := H.out
   clear H
   cases t50 with
   | false =>
    rw [if_neg (by decide)] at h
    cases h
    go_wp2
    go_ret
    exact ⟨rfl, FF.out.hb⟩
   | true =>
    rw [if_pos rfl] at h
    have H := Aside0.mk h
    clear h
    cases q51 : (ro == 0) with
    | false =>
     have q51n : (ro != 0) = true := by simp only [bne, q51, Bool.not_false]
     have h := H.out
     clear H
     rw [mayK, if_neg (by rw [q51]; decide)] at h
     cases h
     go_wp2
     go_ret
     exact ⟨rfl, FF.out.hb⟩
    | true =>
     have q51n : (ro != 0) = false := by simp only [bne, q51, Bool.not_true]
     have h := H.out
     clear H
     rw [mayK, if_pos (by first | (rw [q51]; done) | (rw [q51]; rfl))] at h
     have H := Aside0.mk h
     clear h
     cases q52 : (ve == 0) with
     | false =>
      have q52n : (ve != 0) = true := by simp only [bne, q52, Bool.not_false]
      have h := H.out
      clear H
      rw [mayK, if_neg (by rw [q52]; decide)] at h
      cases h
      go_wp2
      go_ret
      exact ⟨rfl, FF.out.hb⟩
     | true =>
      have q52n : (ve != 0) = false := by simp only [bne, q52, Bool.not_true]
      have h := H.out
      clear H
      rw [mayK, if_pos (by first | (rw [q52]; done) | (rw [q52]; rfl))] at h
      have H := Aside0.mk h
      clear h
      have h := H.out
      cases h
      by_cases z : l7.length = 0
      ·have z1 : ((l7.length : Int) == 0) = true := beq_iff_eq.2 (by omega)
       have z2 : decide (l7.length ≤ 512) = true := decide_eq_true (by omega)
       clear z
       go_wp2
       go_ret
       exact ⟨congrArg (fun b => Ending.returned (Value.bool b)) z2.symm, FF.out.hb⟩
      ·have z1 : ((l7.length : Int) == 0) = false := beq_eq_false_iff_ne.2 (by omega)
       have z3 : decide ((l7.length : Int) ≤ 512) = decide (l7.length ≤ 512) := decide_eq_decide.2 (by omega)
       clear z
       go_wp2
       go_ret
       first | exact ⟨rfl, FF.out.hb⟩ | exact ⟨congrArg (fun b => Ending.returned (Value.bool b)) z3, FF.out.hb⟩
set_option maxHeartbeats 4000000 in
set_option maxRecDepth 100000 in
theorem rmay_9 (k : Nat) (u f n o : ByteArray) (ro ve : Int) (A7 : Option Addr) (c7 : Nat) (l7 : List Int) (r : Bool) (w : World) (hu : bastilleref25_Name.f k u = some true) (h : mayK k (l7.length == 0) (.name f :: (.b (o.toList == ([] : List UInt8)) :: (.name n :: (.b (ro == 0) :: (.b (decide (0 ≤ ve)) :: (.b (decide (ve ≤ 1099511627776)) :: [])))))) = some r) :
  Calls Tryd.prog 12 #[.agg #[.int .i64 9, .string u, .string f, .string n, .string o, .int .i64 ro, .int .i64 ve, .slice A7 l7.length c7]] w fun e w' => e = .returned (.bool r) ∧ Below w.heap.size w w' := by
 have FF := Aside0.mk (show RS w 9 u f n o ro ve A7 c7 l7 _ from ⟨(Below.refl _ w).alloc (Nat.le_refl _) (.cells #[.int .i64 9, .string u, .string f, .string n, .string o, .int .i64 ro, .int .i64 ve, .slice A7 l7.length c7] 24), Array.getElem?_push_size⟩)
 have HU := Aside0.mk hu
 have H := Aside0.mk h
 clear hu h
 obtain ⟨x0, x1, x2, x3, x4, x5, x6, x7⟩ := FF.out.cells
 go_enter Tryd.func12, Tryd.ntmps12
 go_wp2_with fail
 refine (bastilleref25_Name.calls k u true _ HU.out).mono ?_
 rintro e w0 ⟨rfl, hd⟩
 clear HU
 have hb := hd.below
 have FN_ := Aside0.mk (FF.out.step hb)
 clear FF hb hd x0 x1 x2 x3 x4 x5 x6 x7
 have FF := FN_
 clear FN_
 obtain ⟨x0, x1, x2, x3, x4, x5, x6, x7⟩ := FF.out.cells
 have h := H.out
 clear H
 obtain ⟨t53, hn, h⟩ := Option.bind_eq_some_iff.1 h
 have HN := Aside0.mk hn
 have H := Aside0.mk h
 clear hn h
 go_wp2_with fail
 refine (bastilleref25_Name.calls k f t53 _ HN.out).mono ?_
 rintro e w53 ⟨rfl, hd⟩
 clear HN
 have hb := hd.below
 have FN_ := Aside0.mk (FF.out.step hb)
 clear FF hb hd x0 x1 x2 x3 x4 x5 x6 x7
 have FF := FN_
 clear FN_
 obtain ⟨x0, x1, x2, x3, x4, x5, x6, x7⟩ := FF.out.cells
 have h := H.out
 clear H
 cases t53 with
 | false =>
  rw [if_neg (by decide)] at h
  cases h
  go_wp2
  go_ret
  exact ⟨rfl, FF.out.hb⟩
 | true =>
  rw [if_pos rfl] at h
  have H := Aside0.mk h
  clear h
  cases q54 : (o.toList == ([] : List UInt8)) with
  | false =>
   have q54n : (o.toList != ([] : List UInt8)) = true := by simp only [bne, q54, Bool.not_false]
   have h := H.out
   clear H
   rw [mayK, if_neg (by rw [q54]; decide)] at h
   cases h
   go_wp2
   go_ret
   exact ⟨rfl, FF.out.hb⟩
  | true =>
   have q54n : (o.toList != ([] : List UInt8)) = false := by simp only [bne, q54, Bool.not_true]
   have h := H.out
   clear H
   rw [mayK, if_pos (by first | (rw [q54]; done) | (rw [q54]; rfl))] at h
   have H := Aside0.mk h
   clear h
   have h := H.out
   clear H
   obtain ⟨t55, hn, h⟩ := Option.bind_eq_some_iff.1 h
   have HN := Aside0.mk hn
   have H := Aside0.mk h
   clear hn h
   go_wp2_with fail
   refine (bastilleref25_Name.calls k n t55 _ HN.out).mono ?_
   rintro e w55 ⟨rfl, hd⟩
   clear HN
   have hb := hd.below
   have FN_ := Aside0.mk (FF.out.step hb)
   clear FF hb hd x0 x1 x2 x3 x4 x5 x6 x7
   have FF := FN_
   clear FN_
   obtain ⟨x0, x1, x2, x3, x4, x5, x6, x7⟩ := FF.out.cells
   have h := H.out
   clear H
   cases t55 with
   | false =>
    rw [if_neg (by decide)] at h
    cases h
    go_wp2
    go_ret
    exact ⟨rfl, FF.out.hb⟩
   | true =>
    rw [if_pos rfl] at h
    have H := Aside0.mk h
    clear h
    cases q56 : (ro == 0) with
    | false =>
     have q56n : (ro != 0) = true := by simp only [bne, q56, Bool.not_false]
     have h := H.out
     clear H
     rw [mayK, if_neg (by rw [q56]; decide)] at h
     cases h
     go_wp2
     go_ret
     exact ⟨rfl, FF.out.hb⟩
    | true =>
     have q56n : (ro != 0) = false := by simp only [bne, q56, Bool.not_true]
     have h := H.out
     clear H
     rw [mayK, if_pos (by first | (rw [q56]; done) | (rw [q56]; rfl))] at h
     have H := Aside0.mk h
     clear h
     cases q57 : (decide (0 ≤ ve)) with
     | false =>
      have q57n : decide (ve < 0) = true := decide_eq_true (by have := of_decide_eq_false q57; omega)
      have h := H.out
      clear H
      rw [mayK, if_neg (by rw [q57]; decide)] at h
      cases h
      go_wp2
      go_ret
      exact ⟨rfl, FF.out.hb⟩
     | true =>
      have q57n : decide (ve < 0) = false := decide_eq_false (by have := of_decide_eq_true q57; omega)
      have h := H.out
      clear H
      rw [mayK, if_pos (by first | (rw [q57]; done) | (rw [q57]; rfl))] at h
      have H := Aside0.mk h
      clear h
      cases q58 : (decide (ve ≤ 1099511627776)) with
      | false =>
       have q58n : decide (ve > 1099511627776) = true := decide_eq_true (by have := of_decide_eq_false q58; omega)
       have q58m : decide (1099511627776 < ve) = true := decide_eq_true (by have := of_decide_eq_false q58; omega)
       have h := H.out
       clear H
       rw [mayK, if_neg (by rw [q58]; decide)] at h
       cases h
       go_wp2
       go_ret
       exact ⟨rfl, FF.out.hb⟩
      | true =>
       have q58n : decide (ve > 1099511627776) = false := decide_eq_false (by have := of_decide_eq_true q58; omega)
       have q58m : decide (1099511627776 < ve) = false := decide_eq_false (by have := of_decide_eq_true q58; omega)
       have h := H.out
       clear H
       rw [mayK, if_pos (by first | (rw [q58]; done) | (rw [q58]; rfl))] at h
       have H := Aside0.mk h
       clear h
       have h := H.out
       cases h
       by_cases z : l7.length = 0
       ·have z1 : ((l7.length : Int) == 0) = true := beq_iff_eq.2 (by omega)
        have z2 : (l7.length == 0) = true := beq_iff_eq.2 z
        clear z
        go_wp2
        go_ret
        exact ⟨congrArg (fun b => Ending.returned (Value.bool b)) z2.symm, FF.out.hb⟩
       ·have z1 : ((l7.length : Int) == 0) = false := beq_eq_false_iff_ne.2 (by omega)
        have z2 : (l7.length == 0) = false := beq_eq_false_iff_ne.2 z
        clear z
        go_wp2
        go_ret
        exact ⟨congrArg (fun b => Ending.returned (Value.bool b)) z2.symm, FF.out.hb⟩
set_option maxHeartbeats 4000000 in
set_option maxRecDepth 100000 in
theorem rmay_10 (k : Nat) (u f n o : ByteArray) (ro ve : Int) (A7 : Option Addr) (c7 : Nat) (l7 : List Int) (r : Bool) (w : World) (hu : bastilleref25_Name.f k u = some true) (h : mayK k (l7.length == 0) (.name f :: (.b (o.toList == ([] : List UInt8)) :: (.b (n.toList == ([] : List UInt8)) :: (.b (ro == 0) :: (.b (ve == 0) :: []))))) = some r) :
  Calls Tryd.prog 12 #[.agg #[.int .i64 10, .string u, .string f, .string n, .string o, .int .i64 ro, .int .i64 ve, .slice A7 l7.length c7]] w fun e w' => e = .returned (.bool r) ∧ Below w.heap.size w w' := by
 have FF := Aside0.mk (show RS w 10 u f n o ro ve A7 c7 l7 _ from ⟨(Below.refl _ w).alloc (Nat.le_refl _) (.cells #[.int .i64 10, .string u, .string f, .string n, .string o, .int .i64 ro, .int .i64 ve, .slice A7 l7.length c7] 24), Array.getElem?_push_size⟩)
 have HU := Aside0.mk hu
 have H := Aside0.mk h
 clear hu h
 obtain ⟨x0, x1, x2, x3, x4, x5, x6, x7⟩ := FF.out.cells
 go_enter Tryd.func12, Tryd.ntmps12
 go_wp2_with fail
 refine (bastilleref25_Name.calls k u true _ HU.out).mono ?_
 rintro e w0 ⟨rfl, hd⟩
 clear HU
 have hb := hd.below
 have FN_ := Aside0.mk (FF.out.step hb)
 clear FF hb hd x0 x1 x2 x3 x4 x5 x6 x7
 have FF := FN_
 clear FN_
 obtain ⟨x0, x1, x2, x3, x4, x5, x6, x7⟩ := FF.out.cells
 have h := H.out
 clear H
 obtain ⟨t59, hn, h⟩ := Option.bind_eq_some_iff.1 h
 have HN := Aside0.mk hn
 have H := Aside0.mk h
 clear hn h
 go_wp2_with fail
 refine (bastilleref25_Name.calls k f t59 _ HN.out).mono ?_
 rintro e w59 ⟨rfl, hd⟩
 clear HN
 have hb := hd.below
 have FN_ := Aside0.mk (FF.out.step hb)
 clear FF hb hd x0 x1 x2 x3 x4 x5 x6 x7
 have FF := FN_
 clear FN_
 obtain ⟨x0, x1, x2, x3, x4, x5, x6, x7⟩ := FF.out.cells
 have h := H.out
 clear H
 cases t59 with
 | false =>
  rw [if_neg (by decide)] at h
  cases h
  go_wp2
  go_ret
  exact ⟨rfl, FF.out.hb⟩
 | true =>
  rw [if_pos rfl] at h
  have H := Aside0.mk h
  clear h
  cases q60 : (o.toList == ([] : List UInt8)) with
  | false =>
   have q60n : (o.toList != ([] : List UInt8)) = true := by simp only [bne, q60, Bool.not_false]
   have h := H.out
   clear H
   rw [mayK, if_neg (by rw [q60]; decide)] at h
   cases h
   go_wp2
   go_ret
   exact ⟨rfl, FF.out.hb⟩
  | true =>
   have q60n : (o.toList != ([] : List UInt8)) = false := by simp only [bne, q60, Bool.not_true]
   have h := H.out
   clear H
   rw [mayK, if_pos (by first | (rw [q60]; done) | (rw [q60]; rfl))] at h
   have H := Aside0.mk h
   clear h
   cases q61 : (n.toList == ([] : List UInt8)) with
   | false =>
    have q61n : (n.toList != ([] : List UInt8)) = true := by simp only [bne, q61, Bool.not_false]
    have h := H.out
    clear H
    rw [mayK, if_neg (by rw [q61]; decide)] at h
    cases h
    go_wp2
    go_ret
    exact ⟨rfl, FF.out.hb⟩
   | true =>
    have q61n : (n.toList != ([] : List UInt8)) = false := by simp only [bne, q61, Bool.not_true]
    have h := H.out
    clear H
    rw [mayK, if_pos (by first | (rw [q61]; done) | (rw [q61]; rfl))] at h
    have H := Aside0.mk h
    clear h
    cases q62 : (ro == 0) with
    | false =>
     have q62n : (ro != 0) = true := by simp only [bne, q62, Bool.not_false]
     have h := H.out
     clear H
     rw [mayK, if_neg (by rw [q62]; decide)] at h
     cases h
     go_wp2
     go_ret
     exact ⟨rfl, FF.out.hb⟩
    | true =>
     have q62n : (ro != 0) = false := by simp only [bne, q62, Bool.not_true]
     have h := H.out
     clear H
     rw [mayK, if_pos (by first | (rw [q62]; done) | (rw [q62]; rfl))] at h
     have H := Aside0.mk h
     clear h
     cases q63 : (ve == 0) with
     | false =>
      have q63n : (ve != 0) = true := by simp only [bne, q63, Bool.not_false]
      have h := H.out
      clear H
      rw [mayK, if_neg (by rw [q63]; decide)] at h
      cases h
      go_wp2
      go_ret
      exact ⟨rfl, FF.out.hb⟩
     | true =>
      have q63n : (ve != 0) = false := by simp only [bne, q63, Bool.not_true]
      have h := H.out
      clear H
      rw [mayK, if_pos (by first | (rw [q63]; done) | (rw [q63]; rfl))] at h
      have H := Aside0.mk h
      clear h
      have h := H.out
      cases h
      by_cases z : l7.length = 0
      ·have z1 : ((l7.length : Int) == 0) = true := beq_iff_eq.2 (by omega)
       have z2 : (l7.length == 0) = true := beq_iff_eq.2 z
       clear z
       go_wp2
       go_ret
       exact ⟨congrArg (fun b => Ending.returned (Value.bool b)) z2.symm, FF.out.hb⟩
      ·have z1 : ((l7.length : Int) == 0) = false := beq_eq_false_iff_ne.2 (by omega)
       have z2 : (l7.length == 0) = false := beq_eq_false_iff_ne.2 z
       clear z
       go_wp2
       go_ret
       exact ⟨congrArg (fun b => Ending.returned (Value.bool b)) z2.symm, FF.out.hb⟩
set_option maxHeartbeats 4000000 in
set_option maxRecDepth 100000 in
theorem rmay_11 (k : Nat) (u f n o : ByteArray) (ro ve : Int) (A7 : Option Addr) (c7 : Nat) (l7 : List Int) (r : Bool) (w : World) (hu : bastilleref25_Name.f k u = some true) (h : mayK k (l7.length == 0) (.name f :: (.b (o.toList == ([] : List UInt8)) :: (.name n :: (.b (ro == 0) :: (.b (ve == 0) :: []))))) = some r) :
  Calls Tryd.prog 12 #[.agg #[.int .i64 11, .string u, .string f, .string n, .string o, .int .i64 ro, .int .i64 ve, .slice A7 l7.length c7]] w fun e w' => e = .returned (.bool r) ∧ Below w.heap.size w w' := by
 have FF := Aside0.mk (show RS w 11 u f n o ro ve A7 c7 l7 _ from ⟨(Below.refl _ w).alloc (Nat.le_refl _) (.cells #[.int .i64 11, .string u, .string f, .string n, .string o, .int .i64 ro, .int .i64 ve, .slice A7 l7.length c7] 24), Array.getElem?_push_size⟩)
 have HU := Aside0.mk hu
 have H := Aside0.mk h
 clear hu h
 obtain ⟨x0, x1, x2, x3, x4, x5, x6, x7⟩ := FF.out.cells
 go_enter Tryd.func12, Tryd.ntmps12
 go_wp2_with fail
 refine (bastilleref25_Name.calls k u true _ HU.out).mono ?_
 rintro e w0 ⟨rfl, hd⟩
 clear HU
 have hb := hd.below
 have FN_ := Aside0.mk (FF.out.step hb)
 clear FF hb hd x0 x1 x2 x3 x4 x5 x6 x7
 have FF := FN_
 clear FN_
 obtain ⟨x0, x1, x2, x3, x4, x5, x6, x7⟩ := FF.out.cells
 have h := H.out
 clear H
 obtain ⟨t64, hn, h⟩ := Option.bind_eq_some_iff.1 h
 have HN := Aside0.mk hn
 have H := Aside0.mk h
 clear hn h
 go_wp2_with fail
 refine (bastilleref25_Name.calls k f t64 _ HN.out).mono ?_
 rintro e w64 ⟨rfl, hd⟩
 clear HN
 have hb := hd.below
 have FN_ := Aside0.mk (FF.out.step hb)
 clear FF hb hd x0 x1 x2 x3 x4 x5 x6 x7
 have FF := FN_
 clear FN_
 obtain ⟨x0, x1, x2, x3, x4, x5, x6, x7⟩ := FF.out.cells
 have h := H.out
 clear H
 cases t64 with
 | false =>
  rw [if_neg (by decide)] at h
  cases h
  go_wp2
  go_ret
  exact ⟨rfl, FF.out.hb⟩
 | true =>
  rw [if_pos rfl] at h
  have H := Aside0.mk h
  clear h
  cases q65 : (o.toList == ([] : List UInt8)) with
  | false =>
   have q65n : (o.toList != ([] : List UInt8)) = true := by simp only [bne, q65, Bool.not_false]
   have h := H.out
   clear H
   rw [mayK, if_neg (by rw [q65]; decide)] at h
   cases h
   go_wp2
   go_ret
   exact ⟨rfl, FF.out.hb⟩
  | true =>
   have q65n : (o.toList != ([] : List UInt8)) = false := by simp only [bne, q65, Bool.not_true]
   have h := H.out
   clear H
   rw [mayK, if_pos (by first | (rw [q65]; done) | (rw [q65]; rfl))] at h
   have H := Aside0.mk h
   clear h
   have h := H.out
   clear H
   obtain ⟨t66, hn, h⟩ := Option.bind_eq_some_iff.1 h
   have HN := Aside0.mk hn
   have H := Aside0.mk h
   clear hn h
   go_wp2_with fail
   refine (bastilleref25_Name.calls k n t66 _ HN.out).mono ?_
   rintro e w66 ⟨rfl, hd⟩
   clear HN
   have hb := hd.below
   have FN_ := Aside0.mk (FF.out.step hb)
   clear FF hb hd x0 x1 x2 x3 x4 x5 x6 x7
   have FF := FN_
   clear FN_
   obtain ⟨x0, x1, x2, x3, x4, x5, x6, x7⟩ := FF.out.cells
   have h := H.out
   clear H
   cases t66 with
   | false =>
    rw [if_neg (by decide)] at h
    cases h
    go_wp2
    go_ret
    exact ⟨rfl, FF.out.hb⟩
   | true =>
    rw [if_pos rfl] at h
    have H := Aside0.mk h
    clear h
    cases q67 : (ro == 0) with
    | false =>
     have q67n : (ro != 0) = true := by simp only [bne, q67, Bool.not_false]
     have h := H.out
     clear H
     rw [mayK, if_neg (by rw [q67]; decide)] at h
     cases h
     go_wp2
     go_ret
     exact ⟨rfl, FF.out.hb⟩
    | true =>
     have q67n : (ro != 0) = false := by simp only [bne, q67, Bool.not_true]
     have h := H.out
     clear H
     rw [mayK, if_pos (by first | (rw [q67]; done) | (rw [q67]; rfl))] at h
     have H := Aside0.mk h
     clear h
     cases q68 : (ve == 0) with
     | false =>
      have q68n : (ve != 0) = true := by simp only [bne, q68, Bool.not_false]
      have h := H.out
      clear H
      rw [mayK, if_neg (by rw [q68]; decide)] at h
      cases h
      go_wp2
      go_ret
      exact ⟨rfl, FF.out.hb⟩
     | true =>
      have q68n : (ve != 0) = false := by simp only [bne, q68, Bool.not_true]
      have h := H.out
      clear H
      rw [mayK, if_pos (by first | (rw [q68]; done) | (rw [q68]; rfl))] at h
      have H := Aside0.mk h
      clear h
      have h := H.out
      cases h
      by_cases z : l7.length = 0
      ·have z1 : ((l7.length : Int) == 0) = true := beq_iff_eq.2 (by omega)
       have z2 : (l7.length == 0) = true := beq_iff_eq.2 z
       clear z
       go_wp2
       go_ret
       exact ⟨congrArg (fun b => Ending.returned (Value.bool b)) z2.symm, FF.out.hb⟩
      ·have z1 : ((l7.length : Int) == 0) = false := beq_eq_false_iff_ne.2 (by omega)
       have z2 : (l7.length == 0) = false := beq_eq_false_iff_ne.2 z
       clear z
       go_wp2
       go_ret
       exact ⟨congrArg (fun b => Ending.returned (Value.bool b)) z2.symm, FF.out.hb⟩
set_option maxHeartbeats 4000000 in
set_option maxRecDepth 100000 in
theorem rmay_12 (k : Nat) (u f n o : ByteArray) (ro ve : Int) (A7 : Option Addr) (c7 : Nat) (l7 : List Int) (r : Bool) (w : World) (hu : bastilleref25_Name.f k u = some true) (h : mayK k (l7.length == 0) (.name f :: (.b (o.toList == ([] : List UInt8)) :: (.name n :: (.b (ro == 0) :: (.b (ve == 0) :: []))))) = some r) :
  Calls Tryd.prog 12 #[.agg #[.int .i64 12, .string u, .string f, .string n, .string o, .int .i64 ro, .int .i64 ve, .slice A7 l7.length c7]] w fun e w' => e = .returned (.bool r) ∧ Below w.heap.size w w' := by
 have FF := Aside0.mk (show RS w 12 u f n o ro ve A7 c7 l7 _ from ⟨(Below.refl _ w).alloc (Nat.le_refl _) (.cells #[.int .i64 12, .string u, .string f, .string n, .string o, .int .i64 ro, .int .i64 ve, .slice A7 l7.length c7] 24), Array.getElem?_push_size⟩)
 have HU := Aside0.mk hu
 have H := Aside0.mk h
 clear hu h
 obtain ⟨x0, x1, x2, x3, x4, x5, x6, x7⟩ := FF.out.cells
 go_enter Tryd.func12, Tryd.ntmps12
 go_wp2_with fail
 refine (bastilleref25_Name.calls k u true _ HU.out).mono ?_
 rintro e w0 ⟨rfl, hd⟩
 clear HU
 have hb := hd.below
 have FN_ := Aside0.mk (FF.out.step hb)
 clear FF hb hd x0 x1 x2 x3 x4 x5 x6 x7
 have FF := FN_
 clear FN_
 obtain ⟨x0, x1, x2, x3, x4, x5, x6, x7⟩ := FF.out.cells
 have h := H.out
 clear H
 obtain ⟨t69, hn, h⟩ := Option.bind_eq_some_iff.1 h
 have HN := Aside0.mk hn
 have H := Aside0.mk h
 clear hn h
 go_wp2_with fail
 refine (bastilleref25_Name.calls k f t69 _ HN.out).mono ?_
 rintro e w69 ⟨rfl, hd⟩
 clear HN
 have hb := hd.below
 have FN_ := Aside0.mk (FF.out.step hb)
 clear FF hb hd x0 x1 x2 x3 x4 x5 x6 x7
 have FF := FN_
 clear FN_
 obtain ⟨x0, x1, x2, x3, x4, x5, x6, x7⟩ := FF.out.cells
 have h := H.out
 clear H
 cases t69 with
 | false =>
  rw [if_neg (by decide)] at h
  cases h
  go_wp2
  go_ret
  exact ⟨rfl, FF.out.hb⟩
 | true =>
  rw [if_pos rfl] at h
  have H := Aside0.mk h
  clear h
  cases q70 : (o.toList == ([] : List UInt8)) with
  | false =>
   have q70n : (o.toList != ([] : List UInt8)) = true := by simp only [bne, q70, Bool.not_false]
   have h := H.out
   clear H
   rw [mayK, if_neg (by rw [q70]; decide)] at h
   cases h
   go_wp2
   go_ret
   exact ⟨rfl, FF.out.hb⟩
  | true =>
   have q70n : (o.toList != ([] : List UInt8)) = false := by simp only [bne, q70, Bool.not_true]
   have h := H.out
   clear H
   rw [mayK, if_pos (by first | (rw [q70]; done) | (rw [q70]; rfl))] at h
   have H := Aside0.mk h
   clear h
   have h := H.out
   clear H
   obtain ⟨t71, hn, h⟩ := Option.bind_eq_some_iff.1 h
   have HN := Aside0.mk hn
   have H := Aside0.mk h
   clear hn h
   go_wp2_with fail
   refine (bastilleref25_Name.calls k n t71 _ HN.out).mono ?_
   rintro e w71 ⟨rfl, hd⟩
   clear HN
   have hb := hd.below
   have FN_ := Aside0.mk (FF.out.step hb)
   clear FF hb hd x0 x1 x2 x3 x4 x5 x6 x7
   have FF := FN_
   clear FN_
   obtain ⟨x0, x1, x2, x3, x4, x5, x6, x7⟩ := FF.out.cells
   have h := H.out
   clear H
   cases t71 with
   | false =>
    rw [if_neg (by decide)] at h
    cases h
    go_wp2
    go_ret
    exact ⟨rfl, FF.out.hb⟩
   | true =>
    rw [if_pos rfl] at h
    have H := Aside0.mk h
    clear h
    cases q72 : (ro == 0) with
    | false =>
     have q72n : (ro != 0) = true := by simp only [bne, q72, Bool.not_false]
     have h := H.out
     clear H
     rw [mayK, if_neg (by rw [q72]; decide)] at h
     cases h
     go_wp2
     go_ret
     exact ⟨rfl, FF.out.hb⟩
    | true =>
     have q72n : (ro != 0) = false := by simp only [bne, q72, Bool.not_true]
     have h := H.out
     clear H
     rw [mayK, if_pos (by first | (rw [q72]; done) | (rw [q72]; rfl))] at h
     have H := Aside0.mk h
     clear h
     cases q73 : (ve == 0) with
     | false =>
      have q73n : (ve != 0) = true := by simp only [bne, q73, Bool.not_false]
      have h := H.out
      clear H
      rw [mayK, if_neg (by rw [q73]; decide)] at h
      cases h
      go_wp2
      go_ret
      exact ⟨rfl, FF.out.hb⟩
     | true =>
      have q73n : (ve != 0) = false := by simp only [bne, q73, Bool.not_true]
      have h := H.out
      clear H
      rw [mayK, if_pos (by first | (rw [q73]; done) | (rw [q73]; rfl))] at h
      have H := Aside0.mk h
      clear h
      have h := H.out
      cases h
      by_cases z : l7.length = 0
      ·have z1 : ((l7.length : Int) == 0) = true := beq_iff_eq.2 (by omega)
       have z2 : (l7.length == 0) = true := beq_iff_eq.2 z
       clear z
       go_wp2
       go_ret
       exact ⟨congrArg (fun b => Ending.returned (Value.bool b)) z2.symm, FF.out.hb⟩
      ·have z1 : ((l7.length : Int) == 0) = false := beq_eq_false_iff_ne.2 (by omega)
       have z2 : (l7.length == 0) = false := beq_eq_false_iff_ne.2 z
       clear z
       go_wp2
       go_ret
       exact ⟨congrArg (fun b => Ending.returned (Value.bool b)) z2.symm, FF.out.hb⟩
set_option maxHeartbeats 4000000 in
set_option maxRecDepth 100000 in
theorem rmay_13 (k : Nat) (u f n o : ByteArray) (ro ve : Int) (A7 : Option Addr) (c7 : Nat) (l7 : List Int) (r : Bool) (w : World) (hu : bastilleref25_Name.f k u = some true) (h : mayK k (l7.length == 0) (.name f :: (.b (o.toList == ([] : List UInt8)) :: (.b (n.toList == ([] : List UInt8)) :: (.b (ro == 0) :: (.b (ve == 0) :: []))))) = some r) :
  Calls Tryd.prog 12 #[.agg #[.int .i64 13, .string u, .string f, .string n, .string o, .int .i64 ro, .int .i64 ve, .slice A7 l7.length c7]] w fun e w' => e = .returned (.bool r) ∧ Below w.heap.size w w' := by
 have FF := Aside0.mk (show RS w 13 u f n o ro ve A7 c7 l7 _ from ⟨(Below.refl _ w).alloc (Nat.le_refl _) (.cells #[.int .i64 13, .string u, .string f, .string n, .string o, .int .i64 ro, .int .i64 ve, .slice A7 l7.length c7] 24), Array.getElem?_push_size⟩)
 have HU := Aside0.mk hu
 have H := Aside0.mk h
 clear hu h
 obtain ⟨x0, x1, x2, x3, x4, x5, x6, x7⟩ := FF.out.cells
 go_enter Tryd.func12, Tryd.ntmps12
 go_wp2_with fail
 refine (bastilleref25_Name.calls k u true _ HU.out).mono ?_
 rintro e w0 ⟨rfl, hd⟩
 clear HU
 have hb := hd.below
 have FN_ := Aside0.mk (FF.out.step hb)
 clear FF hb hd x0 x1 x2 x3 x4 x5 x6 x7
 have FF := FN_
 clear FN_
 obtain ⟨x0, x1, x2, x3, x4, x5, x6, x7⟩ := FF.out.cells
 have h := H.out
 clear H
 obtain ⟨t74, hn, h⟩ := Option.bind_eq_some_iff.1 h
 have HN := Aside0.mk hn
 have H := Aside0.mk h
 clear hn h
 go_wp2_with fail
 refine (bastilleref25_Name.calls k f t74 _ HN.out).mono ?_
 rintro e w74 ⟨rfl, hd⟩
 clear HN
 have hb := hd.below
 have FN_ := Aside0.mk (FF.out.step hb)
 clear FF hb hd x0 x1 x2 x3 x4 x5 x6 x7
 have FF := FN_
 clear FN_
 obtain ⟨x0, x1, x2, x3, x4, x5, x6, x7⟩ := FF.out.cells
 have h := H.out
 clear H
 cases t74 with
 | false =>
  rw [if_neg (by decide)] at h
  cases h
  go_wp2
  go_ret
  exact ⟨rfl, FF.out.hb⟩
 | true =>
  rw [if_pos rfl] at h
  have H := Aside0.mk h
  clear h
  cases q75 : (o.toList == ([] : List UInt8)) with
  | false =>
   have q75n : (o.toList != ([] : List UInt8)) = true := by simp only [bne, q75, Bool.not_false]
   have h := H.out
   clear H
   rw [mayK, if_neg (by rw [q75]; decide)] at h
   cases h
   go_wp2
   go_ret
   exact ⟨rfl, FF.out.hb⟩
  | true =>
   have q75n : (o.toList != ([] : List UInt8)) = false := by simp only [bne, q75, Bool.not_true]
   have h := H.out
   clear H
   rw [mayK, if_pos (by first | (rw [q75]; done) | (rw [q75]; rfl))] at h
   have H := Aside0.mk h
   clear h
   cases q76 : (n.toList == ([] : List UInt8)) with
   | false =>
    have q76n : (n.toList != ([] : List UInt8)) = true := by simp only [bne, q76, Bool.not_false]
    have h := H.out
    clear H
    rw [mayK, if_neg (by rw [q76]; decide)] at h
    cases h
    go_wp2
    go_ret
    exact ⟨rfl, FF.out.hb⟩
   | true =>
    have q76n : (n.toList != ([] : List UInt8)) = false := by simp only [bne, q76, Bool.not_true]
    have h := H.out
    clear H
    rw [mayK, if_pos (by first | (rw [q76]; done) | (rw [q76]; rfl))] at h
    have H := Aside0.mk h
    clear h
    cases q77 : (ro == 0) with
    | false =>
     have q77n : (ro != 0) = true := by simp only [bne, q77, Bool.not_false]
     have h := H.out
     clear H
     rw [mayK, if_neg (by rw [q77]; decide)] at h
     cases h
     go_wp2
     go_ret
     exact ⟨rfl, FF.out.hb⟩
    | true =>
     have q77n : (ro != 0) = false := by simp only [bne, q77, Bool.not_true]
     have h := H.out
     clear H
     rw [mayK, if_pos (by first | (rw [q77]; done) | (rw [q77]; rfl))] at h
     have H := Aside0.mk h
     clear h
     cases q78 : (ve == 0) with
     | false =>
      have q78n : (ve != 0) = true := by simp only [bne, q78, Bool.not_false]
      have h := H.out
      clear H
      rw [mayK, if_neg (by rw [q78]; decide)] at h
      cases h
      go_wp2
      go_ret
      exact ⟨rfl, FF.out.hb⟩
     | true =>
      have q78n : (ve != 0) = false := by simp only [bne, q78, Bool.not_true]
      have h := H.out
      clear H
      rw [mayK, if_pos (by first | (rw [q78]; done) | (rw [q78]; rfl))] at h
      have H := Aside0.mk h
      clear h
      have h := H.out
      cases h
      by_cases z : l7.length = 0
      ·have z1 : ((l7.length : Int) == 0) = true := beq_iff_eq.2 (by omega)
       have z2 : (l7.length == 0) = true := beq_iff_eq.2 z
       clear z
       go_wp2
       go_ret
       exact ⟨congrArg (fun b => Ending.returned (Value.bool b)) z2.symm, FF.out.hb⟩
      ·have z1 : ((l7.length : Int) == 0) = false := beq_eq_false_iff_ne.2 (by omega)
       have z2 : (l7.length == 0) = false := beq_eq_false_iff_ne.2 z
       clear z
       go_wp2
       go_ret
       exact ⟨congrArg (fun b => Ending.returned (Value.bool b)) z2.symm, FF.out.hb⟩
set_option maxHeartbeats 4000000 in
set_option maxRecDepth 100000 in
theorem rmay_14 (k : Nat) (u f n o : ByteArray) (ro ve : Int) (A7 : Option Addr) (c7 : Nat) (l7 : List Int) (r : Bool) (w : World) (hu : bastilleref25_Name.f k u = some true) (h : mayK k (l7.length == 0) (.name o :: (.b (!(o.toList == u.toList)) :: (.b (f.toList == ([] : List UInt8)) :: (.b (n.toList == ([] : List UInt8)) :: (.b (ro == 0) :: (.b (ve == 0) :: [])))))) = some r) :
  Calls Tryd.prog 12 #[.agg #[.int .i64 14, .string u, .string f, .string n, .string o, .int .i64 ro, .int .i64 ve, .slice A7 l7.length c7]] w fun e w' => e = .returned (.bool r) ∧ Below w.heap.size w w' := by
 have FF := Aside0.mk (show RS w 14 u f n o ro ve A7 c7 l7 _ from ⟨(Below.refl _ w).alloc (Nat.le_refl _) (.cells #[.int .i64 14, .string u, .string f, .string n, .string o, .int .i64 ro, .int .i64 ve, .slice A7 l7.length c7] 24), Array.getElem?_push_size⟩)
 have HU := Aside0.mk hu
 have H := Aside0.mk h
 clear hu h
 obtain ⟨x0, x1, x2, x3, x4, x5, x6, x7⟩ := FF.out.cells
 go_enter Tryd.func12, Tryd.ntmps12
 go_wp2_with fail
 refine (bastilleref25_Name.calls k u true _ HU.out).mono ?_
 rintro e w0 ⟨rfl, hd⟩
 clear HU
 have hb := hd.below
 have FN_ := Aside0.mk (FF.out.step hb)
 clear FF hb hd x0 x1 x2 x3 x4 x5 x6 x7
 have FF := FN_
 clear FN_
 obtain ⟨x0, x1, x2, x3, x4, x5, x6, x7⟩ := FF.out.cells
 have h := H.out
 clear H
 obtain ⟨t79, hn, h⟩ := Option.bind_eq_some_iff.1 h
 have HN := Aside0.mk hn
 have H := Aside0.mk h
 clear hn h
 go_wp2_with fail
 refine (bastilleref25_Name.calls k o t79 _ HN.out).mono ?_
 rintro e w79 ⟨rfl, hd⟩
 clear HN
 have hb := hd.below
 have FN_ := Aside0.mk (FF.out.step hb)
 clear FF hb hd x0 x1 x2 x3 x4 x5 x6 x7
 have FF := FN_
 clear FN_
 obtain ⟨x0, x1, x2, x3, x4, x5, x6, x7⟩ := FF.out.cells
 have h := H.out
 clear H
 cases t79 with
 | false =>
  rw [if_neg (by decide)] at h
  cases h
  go_wp2
  go_ret
  exact ⟨rfl, FF.out.hb⟩
 | true =>
  rw [if_pos rfl] at h
  have H := Aside0.mk h
  clear h
  cases q80 : (o.toList == u.toList) with
  | true =>
   have h := H.out
   clear H
   rw [mayK, if_neg (by rw [q80]; decide)] at h
   cases h
   go_wp2
   go_ret
   exact ⟨rfl, FF.out.hb⟩
  | false =>
   have h := H.out
   clear H
   rw [mayK, if_pos (by first | (rw [q80]; done) | (rw [q80]; rfl))] at h
   have H := Aside0.mk h
   clear h
   cases q81 : (f.toList == ([] : List UInt8)) with
   | false =>
    have q81n : (f.toList != ([] : List UInt8)) = true := by simp only [bne, q81, Bool.not_false]
    have h := H.out
    clear H
    rw [mayK, if_neg (by rw [q81]; decide)] at h
    cases h
    go_wp2
    go_ret
    exact ⟨rfl, FF.out.hb⟩
   | true =>
    have q81n : (f.toList != ([] : List UInt8)) = false := by simp only [bne, q81, Bool.not_true]
    have h := H.out
    clear H
    rw [mayK, if_pos (by first | (rw [q81]; done) | (rw [q81]; rfl))] at h
    have H := Aside0.mk h
    clear h
    cases q82 : (n.toList == ([] : List UInt8)) with
    | false =>
     have q82n : (n.toList != ([] : List UInt8)) = true := by simp only [bne, q82, Bool.not_false]
     have h := H.out
     clear H
     rw [mayK, if_neg (by rw [q82]; decide)] at h
     cases h
     go_wp2
     go_ret
     exact ⟨rfl, FF.out.hb⟩
    | true =>
     have q82n : (n.toList != ([] : List UInt8)) = false := by simp only [bne, q82, Bool.not_true]
     have h := H.out
     clear H
     rw [mayK, if_pos (by first | (rw [q82]; done) | (rw [q82]; rfl))] at h
     have H := Aside0.mk h
     clear h
     cases q83 : (ro == 0) with
     | false =>
      have q83n : (ro != 0) = true := by simp only [bne, q83, Bool.not_false]
      have h := H.out
      clear H
      rw [mayK, if_neg (by rw [q83]; decide)] at h
      cases h
      go_wp2
      go_ret
      exact ⟨rfl, FF.out.hb⟩
     | true =>
      have q83n : (ro != 0) = false := by simp only [bne, q83, Bool.not_true]
      have h := H.out
      clear H
      rw [mayK, if_pos (by first | (rw [q83]; done) | (rw [q83]; rfl))] at h
      have H := Aside0.mk h
      clear h
      cases q84 : (ve == 0) with
      | false =>
       have q84n : (ve != 0) = true := by simp only [bne, q84, Bool.not_false]
       have h := H.out
       clear H
       rw [mayK, if_neg (by rw [q84]; decide)] at h
       cases h
       go_wp2
       go_ret
       exact ⟨rfl, FF.out.hb⟩
      | true =>
       have q84n : (ve != 0) = false := by simp only [bne, q84, Bool.not_true]
       have h := H.out
       clear H
       rw [mayK, if_pos (by first | (rw [q84]; done) | (rw [q84]; rfl))] at h
       have H := Aside0.mk h
       clear h
       have h := H.out
       cases h
       by_cases z : l7.length = 0
       ·have z1 : ((l7.length : Int) == 0) = true := beq_iff_eq.2 (by omega)
        have z2 : (l7.length == 0) = true := beq_iff_eq.2 z
        clear z
        go_wp2
        go_ret
        exact ⟨congrArg (fun b => Ending.returned (Value.bool b)) z2.symm, FF.out.hb⟩
       ·have z1 : ((l7.length : Int) == 0) = false := beq_eq_false_iff_ne.2 (by omega)
        have z2 : (l7.length == 0) = false := beq_eq_false_iff_ne.2 z
        clear z
        go_wp2
        go_ret
        exact ⟨congrArg (fun b => Ending.returned (Value.bool b)) z2.symm, FF.out.hb⟩
set_option maxHeartbeats 4000000 in
set_option maxRecDepth 100000 in
theorem rmay_15 (k : Nat) (u f n o : ByteArray) (ro ve : Int) (A7 : Option Addr) (c7 : Nat) (l7 : List Int) (r : Bool) (w : World) (hu : bastilleref25_Name.f k u = some true) (h : mayK k (l7.length == 0) (.b (f.toList == ([] : List UInt8)) :: (.b (o.toList == ([] : List UInt8)) :: (.b (n.toList == ([] : List UInt8)) :: (.b (ro == 0) :: (.b (ve == 0) :: []))))) = some r) :
  Calls Tryd.prog 12 #[.agg #[.int .i64 15, .string u, .string f, .string n, .string o, .int .i64 ro, .int .i64 ve, .slice A7 l7.length c7]] w fun e w' => e = .returned (.bool r) ∧ Below w.heap.size w w' := by
 have FF := Aside0.mk (show RS w 15 u f n o ro ve A7 c7 l7 _ from ⟨(Below.refl _ w).alloc (Nat.le_refl _) (.cells #[.int .i64 15, .string u, .string f, .string n, .string o, .int .i64 ro, .int .i64 ve, .slice A7 l7.length c7] 24), Array.getElem?_push_size⟩)
 have HU := Aside0.mk hu
 have H := Aside0.mk h
 clear hu h
 obtain ⟨x0, x1, x2, x3, x4, x5, x6, x7⟩ := FF.out.cells
 go_enter Tryd.func12, Tryd.ntmps12
 go_wp2_with fail
 refine (bastilleref25_Name.calls k u true _ HU.out).mono ?_
 rintro e w0 ⟨rfl, hd⟩
 clear HU
 have hb := hd.below
 have FN_ := Aside0.mk (FF.out.step hb)
 clear FF hb hd x0 x1 x2 x3 x4 x5 x6 x7
 have FF := FN_
 clear FN_
 obtain ⟨x0, x1, x2, x3, x4, x5, x6, x7⟩ := FF.out.cells
 cases q85 : (f.toList == ([] : List UInt8)) with
 | false =>
  have q85n : (f.toList != ([] : List UInt8)) = true := by simp only [bne, q85, Bool.not_false]
  have h := H.out
  clear H
  rw [mayK, if_neg (by rw [q85]; decide)] at h
  cases h
  go_wp2
  go_ret
  exact ⟨rfl, FF.out.hb⟩
 | true =>
  have q85n : (f.toList != ([] : List UInt8)) = false := by simp only [bne, q85, Bool.not_true]
  have h := H.out
  clear H
  rw [mayK, if_pos (by first | (rw [q85]; done) | (rw [q85]; rfl))] at h
  have H := Aside0.mk h
  clear h
  cases q86 : (o.toList == ([] : List UInt8)) with
  | false =>
   have q86n : (o.toList != ([] : List UInt8)) = true := by simp only [bne, q86, Bool.not_false]
   have h := H.out
   clear H
   rw [mayK, if_neg (by rw [q86]; decide)] at h
   cases h
   go_wp2
   go_ret
   exact ⟨rfl, FF.out.hb⟩
  | true =>
   have q86n : (o.toList != ([] : List UInt8)) = false := by simp only [bne, q86, Bool.not_true]
   have h := H.out
   clear H
   rw [mayK, if_pos (by first | (rw [q86]; done) | (rw [q86]; rfl))] at h
   have H := Aside0.mk h
   clear h
   cases q87 : (n.toList == ([] : List UInt8)) with
   | false =>
    have q87n : (n.toList != ([] : List UInt8)) = true := by simp only [bne, q87, Bool.not_false]
    have h := H.out
    clear H
    rw [mayK, if_neg (by rw [q87]; decide)] at h
    cases h
    go_wp2
    go_ret
    exact ⟨rfl, FF.out.hb⟩
   | true =>
    have q87n : (n.toList != ([] : List UInt8)) = false := by simp only [bne, q87, Bool.not_true]
    have h := H.out
    clear H
    rw [mayK, if_pos (by first | (rw [q87]; done) | (rw [q87]; rfl))] at h
    have H := Aside0.mk h
    clear h
    cases q88 : (ro == 0) with
    | false =>
     have q88n : (ro != 0) = true := by simp only [bne, q88, Bool.not_false]
     have h := H.out
     clear H
     rw [mayK, if_neg (by rw [q88]; decide)] at h
     cases h
     go_wp2
     go_ret
     exact ⟨rfl, FF.out.hb⟩
    | true =>
     have q88n : (ro != 0) = false := by simp only [bne, q88, Bool.not_true]
     have h := H.out
     clear H
     rw [mayK, if_pos (by first | (rw [q88]; done) | (rw [q88]; rfl))] at h
     have H := Aside0.mk h
     clear h
     cases q89 : (ve == 0) with
     | false =>
      have q89n : (ve != 0) = true := by simp only [bne, q89, Bool.not_false]
      have h := H.out
      clear H
      rw [mayK, if_neg (by rw [q89]; decide)] at h
      cases h
      go_wp2
      go_ret
      exact ⟨rfl, FF.out.hb⟩
     | true =>
      have q89n : (ve != 0) = false := by simp only [bne, q89, Bool.not_true]
      have h := H.out
      clear H
      rw [mayK, if_pos (by first | (rw [q89]; done) | (rw [q89]; rfl))] at h
      have H := Aside0.mk h
      clear h
      have h := H.out
      cases h
      by_cases z : l7.length = 0
      ·have z1 : ((l7.length : Int) == 0) = true := beq_iff_eq.2 (by omega)
       have z2 : (l7.length == 0) = true := beq_iff_eq.2 z
       clear z
       go_wp2
       go_ret
       exact ⟨congrArg (fun b => Ending.returned (Value.bool b)) z2.symm, FF.out.hb⟩
      ·have z1 : ((l7.length : Int) == 0) = false := beq_eq_false_iff_ne.2 (by omega)
       have z2 : (l7.length == 0) = false := beq_eq_false_iff_ne.2 z
       clear z
       go_wp2
       go_ret
       exact ⟨congrArg (fun b => Ending.returned (Value.bool b)) z2.symm, FF.out.hb⟩
set_option maxHeartbeats 4000000 in
set_option maxRecDepth 100000 in
theorem rmay_16 (k : Nat) (u f n o : ByteArray) (ro ve : Int) (A7 : Option Addr) (c7 : Nat) (l7 : List Int) (r : Bool) (w : World) (hu : bastilleref25_Name.f k u = some true) (h : mayK k (l7.length == 0) (.name o :: (.b (!(o.toList == u.toList)) :: (.b (f.toList == ([] : List UInt8)) :: (.b (n.toList == ([] : List UInt8)) :: (.b (ro == 0) :: (.b (ve == 0) :: [])))))) = some r) :
  Calls Tryd.prog 12 #[.agg #[.int .i64 16, .string u, .string f, .string n, .string o, .int .i64 ro, .int .i64 ve, .slice A7 l7.length c7]] w fun e w' => e = .returned (.bool r) ∧ Below w.heap.size w w' := by
 have FF := Aside0.mk (show RS w 16 u f n o ro ve A7 c7 l7 _ from ⟨(Below.refl _ w).alloc (Nat.le_refl _) (.cells #[.int .i64 16, .string u, .string f, .string n, .string o, .int .i64 ro, .int .i64 ve, .slice A7 l7.length c7] 24), Array.getElem?_push_size⟩)
 have HU := Aside0.mk hu
 have H := Aside0.mk h
 clear hu h
 obtain ⟨x0, x1, x2, x3, x4, x5, x6, x7⟩ := FF.out.cells
 go_enter Tryd.func12, Tryd.ntmps12
 go_wp2_with fail
 refine (bastilleref25_Name.calls k u true _ HU.out).mono ?_
 rintro e w0 ⟨rfl, hd⟩
 clear HU
 have hb := hd.below
 have FN_ := Aside0.mk (FF.out.step hb)
 clear FF hb hd x0 x1 x2 x3 x4 x5 x6 x7
 have FF := FN_
 clear FN_
 obtain ⟨x0, x1, x2, x3, x4, x5, x6, x7⟩ := FF.out.cells
 have h := H.out
 clear H
 obtain ⟨t90, hn, h⟩ := Option.bind_eq_some_iff.1 h
 have HN := Aside0.mk hn
 have H := Aside0.mk h
 clear hn h
 go_wp2_with fail
 refine (bastilleref25_Name.calls k o t90 _ HN.out).mono ?_
 rintro e w90 ⟨rfl, hd⟩
 clear HN
 have hb := hd.below
 have FN_ := Aside0.mk (FF.out.step hb)
 clear FF hb hd x0 x1 x2 x3 x4 x5 x6 x7
 have FF := FN_
 clear FN_
 obtain ⟨x0, x1, x2, x3, x4, x5, x6, x7⟩ := FF.out.cells
 have h := H.out
 clear H
 cases t90 with
 | false =>
  rw [if_neg (by decide)] at h
  cases h
  go_wp2
  go_ret
  exact ⟨rfl, FF.out.hb⟩
 | true =>
  rw [if_pos rfl] at h
  have H := Aside0.mk h
  clear h
  cases q91 : (o.toList == u.toList) with
  | true =>
   have h := H.out
   clear H
   rw [mayK, if_neg (by rw [q91]; decide)] at h
   cases h
   go_wp2
   go_ret
   exact ⟨rfl, FF.out.hb⟩
  | false =>
   have h := H.out
   clear H
   rw [mayK, if_pos (by first | (rw [q91]; done) | (rw [q91]; rfl))] at h
   have H := Aside0.mk h
   clear h
   cases q92 : (f.toList == ([] : List UInt8)) with
   | false =>
    have q92n : (f.toList != ([] : List UInt8)) = true := by simp only [bne, q92, Bool.not_false]
    have h := H.out
    clear H
    rw [mayK, if_neg (by rw [q92]; decide)] at h
    cases h
    go_wp2
    go_ret
    exact ⟨rfl, FF.out.hb⟩
   | true =>
    have q92n : (f.toList != ([] : List UInt8)) = false := by simp only [bne, q92, Bool.not_true]
    have h := H.out
    clear H
    rw [mayK, if_pos (by first | (rw [q92]; done) | (rw [q92]; rfl))] at h
    have H := Aside0.mk h
    clear h
    cases q93 : (n.toList == ([] : List UInt8)) with
    | false =>
     have q93n : (n.toList != ([] : List UInt8)) = true := by simp only [bne, q93, Bool.not_false]
     have h := H.out
     clear H
     rw [mayK, if_neg (by rw [q93]; decide)] at h
     cases h
     go_wp2
     go_ret
     exact ⟨rfl, FF.out.hb⟩
    | true =>
     have q93n : (n.toList != ([] : List UInt8)) = false := by simp only [bne, q93, Bool.not_true]
     have h := H.out
     clear H
     rw [mayK, if_pos (by first | (rw [q93]; done) | (rw [q93]; rfl))] at h
     have H := Aside0.mk h
     clear h
     cases q94 : (ro == 0) with
     | false =>
      have q94n : (ro != 0) = true := by simp only [bne, q94, Bool.not_false]
      have h := H.out
      clear H
      rw [mayK, if_neg (by rw [q94]; decide)] at h
      cases h
      go_wp2
      go_ret
      exact ⟨rfl, FF.out.hb⟩
     | true =>
      have q94n : (ro != 0) = false := by simp only [bne, q94, Bool.not_true]
      have h := H.out
      clear H
      rw [mayK, if_pos (by first | (rw [q94]; done) | (rw [q94]; rfl))] at h
      have H := Aside0.mk h
      clear h
      cases q95 : (ve == 0) with
      | false =>
       have q95n : (ve != 0) = true := by simp only [bne, q95, Bool.not_false]
       have h := H.out
       clear H
       rw [mayK, if_neg (by rw [q95]; decide)] at h
       cases h
       go_wp2
       go_ret
       exact ⟨rfl, FF.out.hb⟩
      | true =>
       have q95n : (ve != 0) = false := by simp only [bne, q95, Bool.not_true]
       have h := H.out
       clear H
       rw [mayK, if_pos (by first | (rw [q95]; done) | (rw [q95]; rfl))] at h
       have H := Aside0.mk h
       clear h
       have h := H.out
       cases h
       by_cases z : l7.length = 0
       ·have z1 : ((l7.length : Int) == 0) = true := beq_iff_eq.2 (by omega)
        have z2 : (l7.length == 0) = true := beq_iff_eq.2 z
        clear z
        go_wp2
        go_ret
        exact ⟨congrArg (fun b => Ending.returned (Value.bool b)) z2.symm, FF.out.hb⟩
       ·have z1 : ((l7.length : Int) == 0) = false := beq_eq_false_iff_ne.2 (by omega)
        have z2 : (l7.length == 0) = false := beq_eq_false_iff_ne.2 z
        clear z
        go_wp2
        go_ret
        exact ⟨congrArg (fun b => Ending.returned (Value.bool b)) z2.symm, FF.out.hb⟩
def chkOf (kd : Int) (u f n o : ByteArray) (ro ve : Int) : List Chk :=
 if kd = 1 then (.b (f.toList == ([] : List UInt8)) :: (.b (o.toList == ([] : List UInt8)) :: (.b (n.toList == ([] : List UInt8)) :: (.b (ro == 0) :: (.b (ve == 0) :: []))))) else if kd = 2 then (.name f :: (if (o.toList == ([] : List UInt8)) = true then (.b (!(o.toList == f.toList)) :: (.b (n.toList == ([] : List UInt8)) :: (.b (ro == 0) :: (.b (ve == 0) :: [])))) else .name o :: (.b (!(o.toList == f.toList)) :: (.b (n.toList == ([] : List UInt8)) :: (.b (ro == 0) :: (.b (ve == 0) :: [])))))) else if kd = 3 then (.name f :: (if (o.toList == ([] : List UInt8)) = true then (.b (n.toList == ([] : List UInt8)) :: (.b (ro == 0) :: (.b (ve == 0) :: []))) else .name o :: (.b (n.toList == ([] : List UInt8)) :: (.b (ro == 0) :: (.b (ve == 0) :: []))))) else if kd = 4 then (.name f :: (.b (o.toList == ([] : List UInt8)) :: (.b (n.toList == ([] : List UInt8)) :: (.b (ro == 0) :: (.b (ve == 0) :: []))))) else if kd = 5 then (.name f :: (.name o :: (.b (n.toList == ([] : List UInt8)) :: (.b (decide (1 ≤ ro)) :: (.b (decide (ro ≤ 4)) :: (.b (ve == 0) :: [])))))) else if kd = 6 then (.name f :: (.name o :: (.b (n.toList == ([] : List UInt8)) :: (.b (decide (1 ≤ ro)) :: (.b (decide (ro ≤ 4)) :: (.b (ve == 0) :: [])))))) else if kd = 7 then (.name f :: (.name o :: (.b (n.toList == ([] : List UInt8)) :: (.b (ro == 0) :: (.b (ve == 0) :: []))))) else if kd = 8 then (.name f :: (.b (o.toList == ([] : List UInt8)) :: (.name n :: (.b (ro == 0) :: (.b (ve == 0) :: []))))) else if kd = 9 then (.name f :: (.b (o.toList == ([] : List UInt8)) :: (.name n :: (.b (ro == 0) :: (.b (decide (0 ≤ ve)) :: (.b (decide (ve ≤ 1099511627776)) :: [])))))) else if kd = 10 then (.name f :: (.b (o.toList == ([] : List UInt8)) :: (.b (n.toList == ([] : List UInt8)) :: (.b (ro == 0) :: (.b (ve == 0) :: []))))) else if kd = 11 then (.name f :: (.b (o.toList == ([] : List UInt8)) :: (.name n :: (.b (ro == 0) :: (.b (ve == 0) :: []))))) else if kd = 12 then (.name f :: (.b (o.toList == ([] : List UInt8)) :: (.name n :: (.b (ro == 0) :: (.b (ve == 0) :: []))))) else if kd = 13 then (.name f :: (.b (o.toList == ([] : List UInt8)) :: (.b (n.toList == ([] : List UInt8)) :: (.b (ro == 0) :: (.b (ve == 0) :: []))))) else if kd = 14 then (.name o :: (.b (!(o.toList == u.toList)) :: (.b (f.toList == ([] : List UInt8)) :: (.b (n.toList == ([] : List UInt8)) :: (.b (ro == 0) :: (.b (ve == 0) :: [])))))) else if kd = 15 then (.b (f.toList == ([] : List UInt8)) :: (.b (o.toList == ([] : List UInt8)) :: (.b (n.toList == ([] : List UInt8)) :: (.b (ro == 0) :: (.b (ve == 0) :: []))))) else if kd = 16 then (.name o :: (.b (!(o.toList == u.toList)) :: (.b (f.toList == ([] : List UInt8)) :: (.b (n.toList == ([] : List UInt8)) :: (.b (ro == 0) :: (.b (ve == 0) :: [])))))) else []
def lastOf (kd : Int) (l7 : List Int) : Bool := if kd = 8 then decide (l7.length ≤ 512) else (l7.length == 0)
def bastilleref30_May.f (kk : Nat) (kd : Int) (u f n o : ByteArray) (ro ve : Int) (l7 : List Int) : Option Bool := (bastilleref25_Name.f kk u).bind fun t => if t = true then (if kd < 1 then some false else if kd > 16 then some false else mayK kk (lastOf kd l7) (chkOf kd u f n o ro ve)) else some false
theorem bastilleref30_May.mono : ∀ kd u f n o ro ve l7 kk, LeO (bastilleref30_May.f kk kd u f n o ro ve l7) (bastilleref30_May.f (kk + 1) kd u f n o ro ve l7) := by
 intro kd u f n o ro ve l7 kk
 unfold bastilleref30_May.f
 exact LeO.bind (bastilleref25_Name.mono _ _) fun _ => LeO.ite (LeO.ite (LeO.refl _) (LeO.ite (LeO.refl _) (mayK_mono _ _ _))) (LeO.refl _)
set_option maxHeartbeats 4000000 in
set_option maxRecDepth 100000 in
theorem bastilleref30_May.calls (k : Nat) (kd : Int) (u f n o : ByteArray) (ro ve : Int) (A7 : Option Addr) (c7 : Nat) (l7 : List Int) (r : Bool) (w : World) (hr0_7 : Kd.C (Kd.int .u8) w A7 l7.length l7) (hc0_7 : l7.length ≤ c7) (h : bastilleref30_May.f k kd u f n o ro ve l7 = some r) :
  Calls Tryd.prog 12 #[.agg #[.int .i64 kd, .string u, .string f, .string n, .string o, .int .i64 ro, .int .i64 ve, .slice A7 l7.length c7]] w fun e w' => e = .returned (.bool r) ∧ Below w.heap.size w w' := by
 clear hr0_7 hc0_7
 unfold bastilleref30_May.f at h
 obtain ⟨t, hu, h⟩ := Option.bind_eq_some_iff.1 h
 have FF := Aside0.mk (show RS w kd u f n o ro ve A7 c7 l7 _ from ⟨(Below.refl _ w).alloc (Nat.le_refl _) (.cells #[.int .i64 kd, .string u, .string f, .string n, .string o, .int .i64 ro, .int .i64 ve, .slice A7 l7.length c7] 24), Array.getElem?_push_size⟩)
 cases t with
 | false =>
  rw [if_neg (by decide)] at h
  cases h
  have HU := Aside0.mk hu
  clear hu
  obtain ⟨x0, x1, x2, x3, x4, x5, x6, x7⟩ := FF.out.cells
  go_enter Tryd.func12, Tryd.ntmps12
  go_wp2_with fail
  refine (bastilleref25_Name.calls k u false _ HU.out).mono ?_
  rintro e w0 ⟨rfl, hd⟩
  clear HU
  have hb := hd.below
  have FN_ := Aside0.mk (FF.out.step hb)
  clear FF hb hd x0 x1 x2 x3 x4 x5 x6 x7
  have FF := FN_
  clear FN_
  obtain ⟨x0, x1, x2, x3, x4, x5, x6, x7⟩ := FF.out.cells
  go_wp2
  go_ret
  exact ⟨rfl, FF.out.hb⟩
 | true =>
  rw [if_pos rfl] at h
  by_cases h1 : kd < 1
  ·rw [if_pos h1] at h
   cases h
   have HU := Aside0.mk hu
   clear hu
   have p1 : decide (kd < 1) = true := decide_eq_true h1
   obtain ⟨x0, x1, x2, x3, x4, x5, x6, x7⟩ := FF.out.cells
   go_enter Tryd.func12, Tryd.ntmps12
   go_wp2_with fail
   refine (bastilleref25_Name.calls k u true _ HU.out).mono ?_
   rintro e w0 ⟨rfl, hd⟩
   clear HU
   have hb := hd.below
   have FN_ := Aside0.mk (FF.out.step hb)
   clear FF hb hd x0 x1 x2 x3 x4 x5 x6 x7
   have FF := FN_
   clear FN_
   obtain ⟨x0, x1, x2, x3, x4, x5, x6, x7⟩ := FF.out.cells
   go_wp2
   go_ret
   exact ⟨rfl, FF.out.hb⟩
  rw [if_neg h1] at h
  by_cases h2 : kd > 16
  ·rw [if_pos h2] at h
   cases h
   have HU := Aside0.mk hu
   clear hu
   have p1 : decide (kd < 1) = false := decide_eq_false h1
   have p2 : decide (kd > 16) = true := decide_eq_true h2
   have p3 : decide (16 < kd) = true := decide_eq_true h2
   obtain ⟨x0, x1, x2, x3, x4, x5, x6, x7⟩ := FF.out.cells
   go_enter Tryd.func12, Tryd.ntmps12
   go_wp2_with fail
   refine (bastilleref25_Name.calls k u true _ HU.out).mono ?_
   rintro e w0 ⟨rfl, hd⟩
   clear HU
   have hb := hd.below
   have FN_ := Aside0.mk (FF.out.step hb)
   clear FF hb hd x0 x1 x2 x3 x4 x5 x6 x7
   have FF := FN_
   clear FN_
   obtain ⟨x0, x1, x2, x3, x4, x5, x6, x7⟩ := FF.out.cells
   go_wp2
   go_ret
   exact ⟨rfl, FF.out.hb⟩
  rw [if_neg h2] at h
  clear FF
  have hk : kd = 1 ∨ kd = 2 ∨ kd = 3 ∨ kd = 4 ∨ kd = 5 ∨ kd = 6 ∨ kd = 7 ∨ kd = 8 ∨ kd = 9 ∨ kd = 10 ∨ kd = 11 ∨ kd = 12 ∨ kd = 13 ∨ kd = 14 ∨ kd = 15 ∨ kd = 16 := by omega
  clear h1 h2
  rcases hk with rfl | rfl | rfl | rfl | rfl | rfl | rfl | rfl | rfl | rfl | rfl | rfl | rfl | rfl | rfl | rfl
  ·exact rmay_1 k u f n o ro ve A7 c7 l7 r w hu h
  ·exact rmay_2 k u f n o ro ve A7 c7 l7 r w hu h
  ·exact rmay_3 k u f n o ro ve A7 c7 l7 r w hu h
  ·exact rmay_4 k u f n o ro ve A7 c7 l7 r w hu h
  ·exact rmay_5 k u f n o ro ve A7 c7 l7 r w hu h
  ·exact rmay_6 k u f n o ro ve A7 c7 l7 r w hu h
  ·exact rmay_7 k u f n o ro ve A7 c7 l7 r w hu h
  ·exact rmay_8 k u f n o ro ve A7 c7 l7 r w hu h
  ·exact rmay_9 k u f n o ro ve A7 c7 l7 r w hu h
  ·exact rmay_10 k u f n o ro ve A7 c7 l7 r w hu h
  ·exact rmay_11 k u f n o ro ve A7 c7 l7 r w hu h
  ·exact rmay_12 k u f n o ro ve A7 c7 l7 r w hu h
  ·exact rmay_13 k u f n o ro ve A7 c7 l7 r w hu h
  ·exact rmay_14 k u f n o ro ve A7 c7 l7 r w hu h
  ·exact rmay_15 k u f n o ro ve A7 c7 l7 r w hu h
  ·exact rmay_16 k u f n o ro ve A7 c7 l7 r w hu h


end Go.Proofs.YtiibnfnjfmcggaaDoor.PCallReads
