-- Written by drive.py of this work: the kit's print.py with contracts of this work laid in.
import Derived.Test.YtiibnfnjfmcggaaDoorPCallReadsx0
import Derived.Test.YtiibnfnjfmcggaaDoorPCallReadsx2
import Derived.Test.YtiibnfnjfmcggaaDoorPCallReadsx10
import Derived.Test.YtiibnfnjfmcggaaDoorPCallReadsx11
import Derived.Test.YtiibnfnjfmcggaaDoorPCallReadsx14
import Derived.Test.YtiibnfnjfmcggaaDoorPCallReadsx15
import Derived.Test.YtiibnfnjfmcggaaDoorPCallReadsx20
import Derived.Test.YtiibnfnjfmcggaaDoorPCallReadsx26
namespace Go.Proofs.YtiibnfnjfmcggaaDoor.PCallReads
open Go.RowKit Go.Proofs.YtiibnfnjfmcggaaDoorW.PrintWords Go.Proofs.YtiibnfnjfmcggaaDoorW.PrintLast Go.Proofs.YtiibnfnjfmcggaaDoorW.PrintMore
attribute [local go_sem] max2_int min2_int max_two min_two max_three min_three max_four min_four   -- for this text's walks alone
set_option linter.unusedVariables false
set_option linter.unusedSimpArgs false

/-! ### bastillelaw30_CallReads: function 5 -/
--ALONE
abbrev Call8 := Int × ByteArray × ByteArray × ByteArray × ByteArray × Int × Int × List Int
structure QS (w : World) (A0 : Option Addr) (l0 : List Int) (W : World) : Prop where
 hb : Below w.heap.size w W
 gt : GT W
 c : Kd.C (Kd.int .u8) W A0 l0.length l0
theorem QS.step {w : World} {A0 : Option Addr} {l0 : List Int} {W W' : World} (h : QS w A0 l0 W) (hb : Below W.heap.size W W') : QS w A0 l0 W' := ⟨h.hb.trans (hb.mono h.hb.size), gt_below h.gt hb, Kd.C_below h.c hb⟩
def bastillelaw30_CallReads.f (k : Nat) (l0 : List Int) : Option Bool :=
 (bastillelaw30_awake.f k).bind fun a => if a = true then (if (l0.length : Int) > 2000 then some true else
  (call_Read.f k l0).bind fun c => (bastilleref30_Read.f k l0).bind fun d => if c.2 = d.2 then
   (bastilleref30_Same.f k c.1.1 c.1.2.1 c.1.2.2.1 c.1.2.2.2.1 c.1.2.2.2.2.1 c.1.2.2.2.2.2.1 c.1.2.2.2.2.2.2.1 c.1.2.2.2.2.2.2.2 d.1.1 d.1.2.1 d.1.2.2.1 d.1.2.2.2.1 d.1.2.2.2.2.1 d.1.2.2.2.2.2.1 d.1.2.2.2.2.2.2.1 d.1.2.2.2.2.2.2.2).bind fun z => if z = true then
    (call_Write.f k c.1.1 c.1.2.1 c.1.2.2.1 c.1.2.2.2.1 c.1.2.2.2.2.1 c.1.2.2.2.2.2.1 c.1.2.2.2.2.2.2.1 c.1.2.2.2.2.2.2.2).bind fun x => if c.2 = 0 then (if x.2 = 0 then (bastilleref01_Same.f k x.1 l0).bind fun s => if s = true then some true else none else none) else some true
   else none else none) else none
theorem bastillelaw30_CallReads.mono : ∀ l0 k, LeO (bastillelaw30_CallReads.f k l0) (bastillelaw30_CallReads.f (k + 1) l0) := by
 intro l0 k
 unfold bastillelaw30_CallReads.f
 exact LeO.bind (bastillelaw30_awake.mono _) fun _ => LeO.ite (LeO.ite (LeO.refl _) (LeO.bind (call_Read.mono _ _) fun _ => LeO.bind (bastilleref30_Read.mono _ _) fun _ => LeO.ite (LeO.bind (bastilleref30_Same.mono _ _ _ _ _ _ _ _ _ _ _ _ _ _ _ _ _) fun _ => LeO.ite (LeO.bind (call_Write.mono _ _ _ _ _ _ _ _ _) fun _ => LeO.ite (LeO.ite (LeO.bind (bastilleref01_Same.mono _ _ _) fun _ => LeO.refl _) (LeO.refl _)) (LeO.refl _)) (LeO.refl _)) (LeO.refl _))) (LeO.refl _)
set_option maxHeartbeats 4000000 in
set_option maxRecDepth 100000 in
theorem cr_long (k : Nat) (A0 : Option Addr) (c0 : Nat) (l0 : List Int) (w : World) (h0 : Kd.C (Kd.int .u8) w A0 l0.length l0) (hc0 : l0.length ≤ c0) (hgt : GT w)
  (hA : bastillelaw30_awake.f k = some true) (hl : (l0.length : Int) > 2000) :
  Calls Tryd.prog 5 #[.slice A0 l0.length c0] w fun e w' => e = .returned (.bool true) ∧ Below w.heap.size w w' := by
 have FF := Aside0.mk (show QS w A0 l0 w from ⟨Below.refl _ w, hgt, h0⟩)
 have L0 := Aside0.mk hc0
 clear h0 hc0 hgt
 have HA := Aside0.mk hA
 have t1 : decide ((l0.length : Int) > 2000) = true := decide_eq_true hl
 have t2 : decide (2000 < l0.length) = true := decide_eq_true (by omega)
 clear hA hl
 go_enter Tryd.func5, Tryd.ntmps5
 go_wp2_with fail
 refine (bastillelaw30_awake.calls k true _ FF.out.gt HA.out).mono ?_
 rintro e w1 ⟨rfl, hb⟩
 have FN_ := Aside0.mk (FF.out.step hb)
 clear FF
 have FF := FN_
 clear FN_
 clear hb HA
 go_wp2
 go_ret
 exact ⟨rfl, FF.out.hb⟩
set_option maxHeartbeats 4000000 in
set_option maxRecDepth 100000 in
theorem cr_bad (k : Nat) (A0 : Option Addr) (c0 : Nat) (l0 : List Int) (w : World) (h0 : Kd.C (Kd.int .u8) w A0 l0.length l0) (hc0 : l0.length ≤ c0) (hgt : GT w)
  (c d : Call8) (er : Int) (x : List Int) (xe : Int) (hA : bastillelaw30_awake.f k = some true) (hl : ¬ (l0.length : Int) > 2000) (hR : call_Read.f k l0 = some (c, er)) (hQ : bastilleref30_Read.f k l0 = some (d, er)) (hZ : bastilleref30_Same.f k c.1 c.2.1 c.2.2.1 c.2.2.2.1 c.2.2.2.2.1 c.2.2.2.2.2.1 c.2.2.2.2.2.2.1 c.2.2.2.2.2.2.2 d.1 d.2.1 d.2.2.1 d.2.2.2.1 d.2.2.2.2.1 d.2.2.2.2.2.1 d.2.2.2.2.2.2.1 d.2.2.2.2.2.2.2 = some true) (hW : call_Write.f k c.1 c.2.1 c.2.2.1 c.2.2.2.1 c.2.2.2.2.1 c.2.2.2.2.2.1 c.2.2.2.2.2.2.1 c.2.2.2.2.2.2.2 = some (x, xe)) (he : er ≠ 0) :
  Calls Tryd.prog 5 #[.slice A0 l0.length c0] w fun e w' => e = .returned (.bool true) ∧ Below w.heap.size w w' := by
 have FF := Aside0.mk (show QS w A0 l0 w from ⟨Below.refl _ w, hgt, h0⟩)
 have L0 := Aside0.mk hc0
 clear h0 hc0 hgt
 have u1 : (er != 0) = true := by simp [he]
 have u2 : (er == 0) = false := by simp [he]
 clear he
 have HA := Aside0.mk hA
 have HR := Aside0.mk hR
 have HQ := Aside0.mk hQ
 have HZ := Aside0.mk hZ
 have HW := Aside0.mk hW
 have t1 : decide ((l0.length : Int) > 2000) = false := decide_eq_false hl
 have t2 : decide (2000 < l0.length) = false := decide_eq_false (by omega)
 clear hA hR hQ hZ hW hl
 go_enter Tryd.func5, Tryd.ntmps5
 go_wp2_with fail
 refine (bastillelaw30_awake.calls k true _ FF.out.gt HA.out).mono ?_
 rintro e w1 ⟨rfl, hb⟩
 have FN_ := Aside0.mk (FF.out.step hb)
 clear FF
 have FF := FN_
 clear FN_
 clear hb HA
 go_wp2_with fail
 refine (call_Read.calls k A0 c0 l0 c er _ FF.out.c L0.out FF.out.gt HR.out).mono ?_
 rintro en w2 ⟨AC, cC, rfl, hl1, hC, hb⟩
 unfold callV
 have LC := Aside0.mk hl1
 have CC := Aside0.mk hC
 have FN_ := Aside0.mk (FF.out.step hb)
 clear FF
 have FF := FN_
 clear FN_
 clear hb hC hl1 HR
 go_upto_region 6 with (fail)
 have BC := Aside0.mk (show CB w2.heap.size (w2.alloc (.cells #[.int .i64 c.1, .string c.2.1, .string c.2.2.1, .string c.2.2.2.1, .string c.2.2.2.2.1, .int .i64 c.2.2.2.2.2.1, .int .i64 c.2.2.2.2.2.2.1, .slice AC c.2.2.2.2.2.2.2.length cC] 24)) (.int .i64 c.1) (.string c.2.1) (.string c.2.2.1) (.string c.2.2.2.1) (.string c.2.2.2.2.1) (.int .i64 c.2.2.2.2.2.1) (.int .i64 c.2.2.2.2.2.2.1) (.slice AC c.2.2.2.2.2.2.2.length cC) from Array.getElem?_push_size)
 have hb := below_alloc (Below.refl w2.heap.size w2) (.cells #[.int .i64 c.1, .string c.2.1, .string c.2.2.1, .string c.2.2.2.1, .string c.2.2.2.2.1, .int .i64 c.2.2.2.2.2.1, .int .i64 c.2.2.2.2.2.2.1, .slice AC c.2.2.2.2.2.2.2.length cC] 24)
 have FN_ := Aside0.mk (FF.out.step hb)
 have CCN_ := Aside0.mk (Kd.C_below CC.out hb)
 clear FF CC
 have FF := FN_
 clear FN_
 have CC := CCN_
 clear CCN_
 clear hb
 generalize w2.alloc (.cells #[.int .i64 c.1, .string c.2.1, .string c.2.2.1, .string c.2.2.2.1, .string c.2.2.2.2.1, .int .i64 c.2.2.2.2.2.1, .int .i64 c.2.2.2.2.2.2.1, .slice AC c.2.2.2.2.2.2.2.length cC] 24) = w3 at FF BC CC ⊢
 generalize w2.heap.size = gc at BC ⊢
 go_wp2_with fail
 refine (bastilleref30_Read.calls k A0 c0 l0 d er _ FF.out.c L0.out HQ.out).mono ?_
 rintro en w4 ⟨AD, cD, rfl, hl1, hC, hb⟩
 unfold callV
 have LD := Aside0.mk hl1
 have CD := Aside0.mk hC
 have FN_ := Aside0.mk (FF.out.step hb)
 have CCN_ := Aside0.mk (Kd.C_below CC.out hb)
 have BCN_ := Aside0.mk (cb_below BC.out hb)
 clear FF CC BC
 have FF := FN_
 clear FN_
 have CC := CCN_
 clear CCN_
 have BC := BCN_
 clear BCN_
 clear hb hC hl1 HQ
 go_upto_region 7 with (fail)
 have BD := Aside0.mk (show CB w4.heap.size (w4.alloc (.cells #[.int .i64 d.1, .string d.2.1, .string d.2.2.1, .string d.2.2.2.1, .string d.2.2.2.2.1, .int .i64 d.2.2.2.2.2.1, .int .i64 d.2.2.2.2.2.2.1, .slice AD d.2.2.2.2.2.2.2.length cD] 24)) (.int .i64 d.1) (.string d.2.1) (.string d.2.2.1) (.string d.2.2.2.1) (.string d.2.2.2.2.1) (.int .i64 d.2.2.2.2.2.1) (.int .i64 d.2.2.2.2.2.2.1) (.slice AD d.2.2.2.2.2.2.2.length cD) from Array.getElem?_push_size)
 have hb := below_alloc (Below.refl w4.heap.size w4) (.cells #[.int .i64 d.1, .string d.2.1, .string d.2.2.1, .string d.2.2.2.1, .string d.2.2.2.2.1, .int .i64 d.2.2.2.2.2.1, .int .i64 d.2.2.2.2.2.2.1, .slice AD d.2.2.2.2.2.2.2.length cD] 24)
 have FN_ := Aside0.mk (FF.out.step hb)
 have CCN_ := Aside0.mk (Kd.C_below CC.out hb)
 have CDN_ := Aside0.mk (Kd.C_below CD.out hb)
 have BCN_ := Aside0.mk (cb_below BC.out hb)
 clear FF CC CD BC
 have FF := FN_
 clear FN_
 have CC := CCN_
 clear CCN_
 have CD := CDN_
 clear CDN_
 have BC := BCN_
 clear BCN_
 clear hb
 generalize w4.alloc (.cells #[.int .i64 d.1, .string d.2.1, .string d.2.2.1, .string d.2.2.2.1, .string d.2.2.2.2.1, .int .i64 d.2.2.2.2.2.1, .int .i64 d.2.2.2.2.2.2.1, .slice AD d.2.2.2.2.2.2.2.length cD] 24) = w5 at FF BD CC CD BC ⊢
 generalize w4.heap.size = gd at BD ⊢
 have e1 : (er != er) = false := by simp
 have e2 : (er == er) = true := by simp
 obtain ⟨x0, x1, x2, x3, x4, x5, x6, x7⟩ := cb_cells BC.out
 obtain ⟨y0, y1, y2, y3, y4, y5, y6, y7⟩ := cb_cells BD.out
 go_wp2_with fail
 refine (bastilleref30_Same.calls k c.1 c.2.1 c.2.2.1 c.2.2.2.1 c.2.2.2.2.1 c.2.2.2.2.2.1 c.2.2.2.2.2.2.1 AC cC c.2.2.2.2.2.2.2 d.1 d.2.1 d.2.2.1 d.2.2.2.1 d.2.2.2.2.1 d.2.2.2.2.2.1 d.2.2.2.2.2.2.1 AD cD d.2.2.2.2.2.2.2 true _ CC.out LC.out CD.out LD.out HZ.out).mono ?_
 rintro en w6 ⟨rfl, hb⟩
 clear x0 x1 x2 x3 x4 x5 x6 x7
 clear y0 y1 y2 y3 y4 y5 y6 y7
 clear BD CD LD
 have FN_ := Aside0.mk (FF.out.step hb)
 have CCN_ := Aside0.mk (Kd.C_below CC.out hb)
 have BCN_ := Aside0.mk (cb_below BC.out hb)
 clear FF CC BC
 have FF := FN_
 clear FN_
 have CC := CCN_
 clear CCN_
 have BC := BCN_
 clear BCN_
 clear hb HZ e1 e2
 obtain ⟨x0, x1, x2, x3, x4, x5, x6, x7⟩ := cb_cells BC.out
 go_wp2_with fail
 refine (call_Write.calls k c.1 c.2.1 c.2.2.1 c.2.2.2.1 c.2.2.2.2.1 c.2.2.2.2.2.1 c.2.2.2.2.2.2.1 AC cC c.2.2.2.2.2.2.2 x xe _ CC.out LC.out FF.out.gt HW.out).mono ?_
 rintro en w7 ⟨v9, rfl, hR9, hb⟩
 obtain ⟨AX, cX, rfl⟩ := Kd.R_slice hR9
 have RX := Aside0.mk (Kd.R_reads' hR9).2.2
 have LX := Aside0.mk (Kd.R_reads' hR9).2.1
 clear x0 x1 x2 x3 x4 x5 x6 x7
 have FN_ := Aside0.mk (FF.out.step hb)
 clear FF
 have FF := FN_
 clear FN_
 clear hb hR9 HW CC BC LC
 go_wp2
 go_ret
 exact ⟨rfl, FF.out.hb⟩
set_option maxHeartbeats 4000000 in
set_option maxRecDepth 100000 in
theorem cr_ok (k : Nat) (A0 : Option Addr) (c0 : Nat) (l0 : List Int) (w : World) (h0 : Kd.C (Kd.int .u8) w A0 l0.length l0) (hc0 : l0.length ≤ c0) (hgt : GT w)
  (c d : Call8) (x : List Int) (hA : bastillelaw30_awake.f k = some true) (hl : ¬ (l0.length : Int) > 2000) (hR : call_Read.f k l0 = some (c, 0)) (hQ : bastilleref30_Read.f k l0 = some (d, 0)) (hZ : bastilleref30_Same.f k c.1 c.2.1 c.2.2.1 c.2.2.2.1 c.2.2.2.2.1 c.2.2.2.2.2.1 c.2.2.2.2.2.2.1 c.2.2.2.2.2.2.2 d.1 d.2.1 d.2.2.1 d.2.2.2.1 d.2.2.2.2.1 d.2.2.2.2.2.1 d.2.2.2.2.2.2.1 d.2.2.2.2.2.2.2 = some true) (hW : call_Write.f k c.1 c.2.1 c.2.2.1 c.2.2.2.1 c.2.2.2.2.1 c.2.2.2.2.2.1 c.2.2.2.2.2.2.1 c.2.2.2.2.2.2.2 = some (x, 0)) (hS : bastilleref01_Same.f k x l0 = some true) :
  Calls Tryd.prog 5 #[.slice A0 l0.length c0] w fun e w' => e = .returned (.bool true) ∧ Below w.heap.size w w' := by
 have FF := Aside0.mk (show QS w A0 l0 w from ⟨Below.refl _ w, hgt, h0⟩)
 have L0 := Aside0.mk hc0
 clear h0 hc0 hgt
 have HS := Aside0.mk hS
 clear hS
 have HA := Aside0.mk hA
 have HR := Aside0.mk hR
 have HQ := Aside0.mk hQ
 have HZ := Aside0.mk hZ
 have HW := Aside0.mk hW
 have t1 : decide ((l0.length : Int) > 2000) = false := decide_eq_false hl
 have t2 : decide (2000 < l0.length) = false := decide_eq_false (by omega)
 clear hA hR hQ hZ hW hl
 go_enter Tryd.func5, Tryd.ntmps5
 go_wp2_with fail
 refine (bastillelaw30_awake.calls k true _ FF.out.gt HA.out).mono ?_
 rintro e w1 ⟨rfl, hb⟩
 have FN_ := Aside0.mk (FF.out.step hb)
 clear FF
 have FF := FN_
 clear FN_
 clear hb HA
 go_wp2_with fail
 refine (call_Read.calls k A0 c0 l0 c 0 _ FF.out.c L0.out FF.out.gt HR.out).mono ?_
 rintro en w2 ⟨AC, cC, rfl, hl1, hC, hb⟩
 unfold callV
 have LC := Aside0.mk hl1
 have CC := Aside0.mk hC
 have FN_ := Aside0.mk (FF.out.step hb)
 clear FF
 have FF := FN_
 clear FN_
 clear hb hC hl1 HR
 go_upto_region 6 with (fail)
 have BC := Aside0.mk (show CB w2.heap.size (w2.alloc (.cells #[.int .i64 c.1, .string c.2.1, .string c.2.2.1, .string c.2.2.2.1, .string c.2.2.2.2.1, .int .i64 c.2.2.2.2.2.1, .int .i64 c.2.2.2.2.2.2.1, .slice AC c.2.2.2.2.2.2.2.length cC] 24)) (.int .i64 c.1) (.string c.2.1) (.string c.2.2.1) (.string c.2.2.2.1) (.string c.2.2.2.2.1) (.int .i64 c.2.2.2.2.2.1) (.int .i64 c.2.2.2.2.2.2.1) (.slice AC c.2.2.2.2.2.2.2.length cC) from Array.getElem?_push_size)
 have hb := below_alloc (Below.refl w2.heap.size w2) (.cells #[.int .i64 c.1, .string c.2.1, .string c.2.2.1, .string c.2.2.2.1, .string c.2.2.2.2.1, .int .i64 c.2.2.2.2.2.1, .int .i64 c.2.2.2.2.2.2.1, .slice AC c.2.2.2.2.2.2.2.length cC] 24)
 have FN_ := Aside0.mk (FF.out.step hb)
 have CCN_ := Aside0.mk (Kd.C_below CC.out hb)
 clear FF CC
 have FF := FN_
 clear FN_
 have CC := CCN_
 clear CCN_
 clear hb
 generalize w2.alloc (.cells #[.int .i64 c.1, .string c.2.1, .string c.2.2.1, .string c.2.2.2.1, .string c.2.2.2.2.1, .int .i64 c.2.2.2.2.2.1, .int .i64 c.2.2.2.2.2.2.1, .slice AC c.2.2.2.2.2.2.2.length cC] 24) = w3 at FF BC CC ⊢
 generalize w2.heap.size = gc at BC ⊢
 go_wp2_with fail
 refine (bastilleref30_Read.calls k A0 c0 l0 d 0 _ FF.out.c L0.out HQ.out).mono ?_
 rintro en w4 ⟨AD, cD, rfl, hl1, hC, hb⟩
 unfold callV
 have LD := Aside0.mk hl1
 have CD := Aside0.mk hC
 have FN_ := Aside0.mk (FF.out.step hb)
 have CCN_ := Aside0.mk (Kd.C_below CC.out hb)
 have BCN_ := Aside0.mk (cb_below BC.out hb)
 clear FF CC BC
 have FF := FN_
 clear FN_
 have CC := CCN_
 clear CCN_
 have BC := BCN_
 clear BCN_
 clear hb hC hl1 HQ
 go_upto_region 7 with (fail)
 have BD := Aside0.mk (show CB w4.heap.size (w4.alloc (.cells #[.int .i64 d.1, .string d.2.1, .string d.2.2.1, .string d.2.2.2.1, .string d.2.2.2.2.1, .int .i64 d.2.2.2.2.2.1, .int .i64 d.2.2.2.2.2.2.1, .slice AD d.2.2.2.2.2.2.2.length cD] 24)) (.int .i64 d.1) (.string d.2.1) (.string d.2.2.1) (.string d.2.2.2.1) (.string d.2.2.2.2.1) (.int .i64 d.2.2.2.2.2.1) (.int .i64 d.2.2.2.2.2.2.1) (.slice AD d.2.2.2.2.2.2.2.length cD) from Array.getElem?_push_size)
 have hb := below_alloc (Below.refl w4.heap.size w4) (.cells #[.int .i64 d.1, .string d.2.1, .string d.2.2.1, .string d.2.2.2.1, .string d.2.2.2.2.1, .int .i64 d.2.2.2.2.2.1, .int .i64 d.2.2.2.2.2.2.1, .slice AD d.2.2.2.2.2.2.2.length cD] 24)
 have FN_ := Aside0.mk (FF.out.step hb)
 have CCN_ := Aside0.mk (Kd.C_below CC.out hb)
 have CDN_ := Aside0.mk (Kd.C_below CD.out hb)
 have BCN_ := Aside0.mk (cb_below BC.out hb)
 clear FF CC CD BC
 have FF := FN_
 clear FN_
 have CC := CCN_
 clear CCN_
 have CD := CDN_
 clear CDN_
 have BC := BCN_
 clear BCN_
 clear hb
 generalize w4.alloc (.cells #[.int .i64 d.1, .string d.2.1, .string d.2.2.1, .string d.2.2.2.1, .string d.2.2.2.2.1, .int .i64 d.2.2.2.2.2.1, .int .i64 d.2.2.2.2.2.2.1, .slice AD d.2.2.2.2.2.2.2.length cD] 24) = w5 at FF BD CC CD BC ⊢
 generalize w4.heap.size = gd at BD ⊢
 have e1 : ((0 : Int) != 0) = false := by simp
 have e2 : ((0 : Int) == 0) = true := by simp
 obtain ⟨x0, x1, x2, x3, x4, x5, x6, x7⟩ := cb_cells BC.out
 obtain ⟨y0, y1, y2, y3, y4, y5, y6, y7⟩ := cb_cells BD.out
 go_wp2_with fail
 refine (bastilleref30_Same.calls k c.1 c.2.1 c.2.2.1 c.2.2.2.1 c.2.2.2.2.1 c.2.2.2.2.2.1 c.2.2.2.2.2.2.1 AC cC c.2.2.2.2.2.2.2 d.1 d.2.1 d.2.2.1 d.2.2.2.1 d.2.2.2.2.1 d.2.2.2.2.2.1 d.2.2.2.2.2.2.1 AD cD d.2.2.2.2.2.2.2 true _ CC.out LC.out CD.out LD.out HZ.out).mono ?_
 rintro en w6 ⟨rfl, hb⟩
 clear x0 x1 x2 x3 x4 x5 x6 x7
 clear y0 y1 y2 y3 y4 y5 y6 y7
 clear BD CD LD
 have FN_ := Aside0.mk (FF.out.step hb)
 have CCN_ := Aside0.mk (Kd.C_below CC.out hb)
 have BCN_ := Aside0.mk (cb_below BC.out hb)
 clear FF CC BC
 have FF := FN_
 clear FN_
 have CC := CCN_
 clear CCN_
 have BC := BCN_
 clear BCN_
 clear hb HZ e1 e2
 obtain ⟨x0, x1, x2, x3, x4, x5, x6, x7⟩ := cb_cells BC.out
 go_wp2_with fail
 refine (call_Write.calls k c.1 c.2.1 c.2.2.1 c.2.2.2.1 c.2.2.2.2.1 c.2.2.2.2.2.1 c.2.2.2.2.2.2.1 AC cC c.2.2.2.2.2.2.2 x 0 _ CC.out LC.out FF.out.gt HW.out).mono ?_
 rintro en w7 ⟨v9, rfl, hR9, hb⟩
 obtain ⟨AX, cX, rfl⟩ := Kd.R_slice hR9
 have RX := Aside0.mk (Kd.R_reads' hR9).2.2
 have LX := Aside0.mk (Kd.R_reads' hR9).2.1
 clear x0 x1 x2 x3 x4 x5 x6 x7
 have FN_ := Aside0.mk (FF.out.step hb)
 clear FF
 have FF := FN_
 clear FN_
 clear hb hR9 HW CC BC LC
 go_wp2_with fail
 refine (bastilleref01_Same.calls k AX cX x A0 c0 l0 true _ RX.out LX.out FF.out.c L0.out HS.out).mono ?_
 rintro en w8 ⟨rfl, hd⟩
 have hb := hd.below
 have FN_ := Aside0.mk (FF.out.step hb)
 clear FF
 have FF := FN_
 clear FN_
 clear hb hd
 go_wp2
 go_ret
 exact ⟨rfl, FF.out.hb⟩
theorem bastillelaw30_CallReads.calls (k : Nat) (A0 : Option Addr) (c0 : Nat) (l0 : List Int) (r : Bool) (w : World) (hr0 : Kd.C (Kd.int .u8) w A0 l0.length l0) (hc0 : l0.length ≤ c0) (hgt : GT w) (h : bastillelaw30_CallReads.f k l0 = some r) :
  Calls Tryd.prog 5 #[.slice A0 l0.length c0] w fun e w' => e = .returned (.bool r) ∧ Below w.heap.size w w' := by
 unfold bastillelaw30_CallReads.f at h
 obtain ⟨a, hA, h1⟩ := Option.bind_eq_some_iff.1 h
 cases a
 ·simp at h1
 simp only [if_true] at h1
 by_cases hl : (l0.length : Int) > 2000
 ·rw [if_pos hl] at h1
  cases h1
  exact cr_long k A0 c0 l0 w hr0 hc0 hgt hA hl
 rw [if_neg hl] at h1
 obtain ⟨⟨c, ce⟩, hR, h2⟩ := Option.bind_eq_some_iff.1 h1
 obtain ⟨⟨d, de⟩, hQ, h3⟩ := Option.bind_eq_some_iff.1 h2
 simp only at h3
 by_cases he : ce = de
 rotate_left
 ·rw [if_neg he] at h3
  cases h3
 rw [if_pos he] at h3
 cases he
 obtain ⟨z, hZ, h4⟩ := Option.bind_eq_some_iff.1 h3
 cases z
 ·simp at h4
 simp only [if_true] at h4
 obtain ⟨⟨x, xe⟩, hW, h5⟩ := Option.bind_eq_some_iff.1 h4
 simp only at h5
 by_cases h0 : ce = 0
 ·cases h0
  rw [if_pos rfl] at h5
  by_cases hx : xe = 0
  ·cases hx
   rw [if_pos rfl] at h5
   obtain ⟨s, hS, h6⟩ := Option.bind_eq_some_iff.1 h5
   cases s
   ·simp at h6
   simp only [if_true] at h6
   cases h6
   exact cr_ok k A0 c0 l0 w hr0 hc0 hgt c d x hA hl hR hQ hZ hW hS
  ·rw [if_neg hx] at h5
   cases h5
 ·rw [if_neg h0] at h5
  cases h5
  exact cr_bad k A0 c0 l0 w hr0 hc0 hgt c d ce x xe hA hl hR hQ hZ hW h0


end Go.Proofs.YtiibnfnjfmcggaaDoor.PCallReads
