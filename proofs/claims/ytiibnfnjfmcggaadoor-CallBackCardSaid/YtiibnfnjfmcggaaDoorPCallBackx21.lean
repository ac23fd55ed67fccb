-- Written by drive.py of this work: the kit's print.py with contracts of this work laid in.
import Derived.Test.YtiibnfnjfmcggaaDoorPCallBackx0
import Derived.Test.YtiibnfnjfmcggaaDoorPCallBackx2
import Derived.Test.YtiibnfnjfmcggaaDoorPCallBackx9
import Derived.Test.YtiibnfnjfmcggaaDoorPCallBackx10
import Derived.Test.YtiibnfnjfmcggaaDoorPCallBackx12
import Derived.Test.YtiibnfnjfmcggaaDoorPCallBackx13
import Derived.Test.YtiibnfnjfmcggaaDoorPCallBackx14
import Derived.Test.YtiibnfnjfmcggaaDoorPCallBackx15
import Derived.Test.YtiibnfnjfmcggaaDoorPCallBackx20
namespace Go.Proofs.YtiibnfnjfmcggaaDoor.PCallBack
open Go.RowKit Go.Proofs.YtiibnfnjfmcggaaDoorW.PrintWords Go.Proofs.YtiibnfnjfmcggaaDoorW.PrintLast Go.Proofs.YtiibnfnjfmcggaaDoorW.PrintMore
attribute [local go_sem] max2_int min2_int max_two min_two max_three min_three max_four min_four   -- for this text's walks alone
set_option linter.unusedVariables false
set_option linter.unusedSimpArgs false

/-! ### bastillelaw30_CallBack: function 4 -/
--ALONE
structure KS (w : World) (kd : Int) (u f n o : ByteArray) (ro ve : Int) (A7 : Option Addr) (c7 : Nat) (l7 : List Int) (W : World) : Prop where
  hb : Below w.heap.size w W
  gt : GT W
  bx : CB w.heap.size W (.int .i64 kd) (.string u) (.string f) (.string n) (.string o) (.int .i64 ro) (.int .i64 ve) (.slice A7 l7.length c7)
  c7h : Kd.C (Kd.int .u8) W A7 l7.length l7
theorem KS.step {w : World} {kd : Int} {u f n o : ByteArray} {ro ve : Int} {A7 : Option Addr} {c7 : Nat} {l7 : List Int} {W W' : World} (h : KS w kd u f n o ro ve A7 c7 l7 W) (hb : Below W.heap.size W W') : KS w kd u f n o ro ve A7 c7 l7 W' := ⟨h.hb.trans (hb.mono h.hb.size), gt_below h.gt hb, cb_below h.bx hb, Kd.C_below h.c7h hb⟩
abbrev Call8 := Int × ByteArray × ByteArray × ByteArray × ByteArray × Int × Int × List Int
def bastillelaw30_CallBack.f (k : Nat) (kd : Int) (u f n o : ByteArray) (ro ve : Int) (l7 : List Int) : Option Bool :=
  (bastillelaw30_awake.f k).bind fun a => if a = true then (bastillelaw30_Few.f kd u f n o ro ve l7).bind fun b => if b = true then
    (call_Write.f k kd u f n o ro ve l7).bind fun x => (bastilleref30_May.f k kd u f n o ro ve l7).bind fun m => if m = true then
      (call_Read.f k x.1).bind fun d => (call_May.f k kd u f n o ro ve l7).bind fun t => if t = true then (if x.2 = 0 then (bastilleref30_Bytes.f k kd u f n o ro ve l7).bind fun y => (bastilleref01_Same.f k x.1 y).bind fun s => if s = true then (if d.2 = 0 then
        (bastilleref30_Same.f k kd u f n o ro ve l7 d.1.1 d.1.2.1 d.1.2.2.1 d.1.2.2.2.1 d.1.2.2.2.2.1 d.1.2.2.2.2.2.1 d.1.2.2.2.2.2.2.1 d.1.2.2.2.2.2.2.2).bind fun z => if z = true then some true else none else none) else none else none) else none
    else (if x.2 = 13 then (if x.1.length = 0 then (call_May.f k kd u f n o ro ve l7).bind fun t => if t = false then some true else none else none) else none)
    else some true else none
theorem bastillelaw30_CallBack.mono : ∀ kd u f n o ro ve l7 k, LeO (bastillelaw30_CallBack.f k kd u f n o ro ve l7) (bastillelaw30_CallBack.f (k + 1) kd u f n o ro ve l7) := by
  intro kd u f n o ro ve l7 k
  unfold bastillelaw30_CallBack.f
  refine LeO.bind (bastillelaw30_awake.mono _) fun _ => LeO.ite (LeO.bind (LeO.refl _) fun _ => LeO.ite (LeO.bind (call_Write.mono _ _ _ _ _ _ _ _ _) fun _ => LeO.bind (bastilleref30_May.mono _ _ _ _ _ _ _ _ _) fun _ => LeO.ite ?_ ?_) (LeO.refl _)) (LeO.refl _)
  · exact LeO.bind (call_Read.mono _ _) fun _ => LeO.bind (call_May.mono _ _ _ _ _ _ _ _ _) fun _ => LeO.ite (LeO.ite (LeO.bind (bastilleref30_Bytes.mono _ _ _ _ _ _ _ _ _) fun _ => LeO.bind (bastilleref01_Same.mono _ _ _) fun _ => LeO.ite (LeO.ite (LeO.bind (bastilleref30_Same.mono _ _ _ _ _ _ _ _ _ _ _ _ _ _ _ _ _) fun _ => LeO.refl _) (LeO.refl _)) (LeO.refl _)) (LeO.refl _)) (LeO.refl _)
  · exact LeO.ite (LeO.ite (LeO.bind (call_May.mono _ _ _ _ _ _ _ _ _) fun _ => LeO.refl _) (LeO.refl _)) (LeO.refl _)
set_option maxHeartbeats 4000000 in
set_option maxRecDepth 100000 in
theorem cb_few (k : Nat) (kd : Int) (u f n o : ByteArray) (ro ve : Int) (A7 : Option Addr) (c7 : Nat) (l7 : List Int) (w : World) (h7 : Kd.C (Kd.int .u8) w A7 l7.length l7) (l7c : l7.length ≤ c7) (hgt : GT w)
    (hA : bastillelaw30_awake.f k = some true) (hF : bastillelaw30_Few.f kd u f n o ro ve l7 = some false) :
    Calls Tryd.prog 4 #[.agg #[.int .i64 kd, .string u, .string f, .string n, .string o, .int .i64 ro, .int .i64 ve, .slice A7 l7.length c7]] w fun e w' => e = .returned (.bool true) ∧ Below w.heap.size w w' := by
  have FF := Aside0.mk (show KS w kd u f n o ro ve A7 c7 l7 (w.alloc (.cells #[.int .i64 kd, .string u, .string f, .string n, .string o, .int .i64 ro, .int .i64 ve, .slice A7 l7.length c7] 24)) from ⟨(Below.refl _ w).alloc (Nat.le_refl _) _, gt_below hgt (below_alloc (Below.refl _ _) _), Array.getElem?_push_size, Kd.C_below h7 (below_alloc (Below.refl _ _) _)⟩)
  have L7 := Aside0.mk l7c
  clear h7 l7c hgt
  have HA := Aside0.mk hA
  have HF := Aside0.mk hF
  clear hA hF
  obtain ⟨x0, x1, x2, x3, x4, x5, x6, x7⟩ := cb_cells FF.out.bx
  go_enter Tryd.func4, Tryd.ntmps4
  go_wp2_with fail
  refine (bastillelaw30_awake.calls k true _ FF.out.gt HA.out).mono ?_
  rintro e w1 ⟨rfl, hb⟩
  have FN_ := Aside0.mk (FF.out.step hb)
  clear x0 x1 x2 x3 x4 x5 x6 x7
  clear FF
  have FF := FN_
  clear FN_
  clear hb HA
  obtain ⟨x0, x1, x2, x3, x4, x5, x6, x7⟩ := cb_cells FF.out.bx
  go_wp2_with fail
  refine (bastillelaw30_Few.calls kd u f n o ro ve A7 c7 l7 false _ FF.out.c7h L7.out HF.out).mono ?_
  rintro e w2 ⟨rfl, hb⟩
  have FN_ := Aside0.mk (FF.out.step hb)
  clear x0 x1 x2 x3 x4 x5 x6 x7
  clear FF
  have FF := FN_
  clear FN_
  clear hb HF
  obtain ⟨x0, x1, x2, x3, x4, x5, x6, x7⟩ := cb_cells FF.out.bx
  go_wp2
  go_ret
  exact ⟨rfl, FF.out.hb⟩
set_option maxHeartbeats 4000000 in
set_option maxRecDepth 100000 in
theorem cb_bad (k : Nat) (kd : Int) (u f n o : ByteArray) (ro ve : Int) (A7 : Option Addr) (c7 : Nat) (l7 : List Int) (w : World) (h7 : Kd.C (Kd.int .u8) w A7 l7.length l7) (l7c : l7.length ≤ c7) (hgt : GT w)
    (hA : bastillelaw30_awake.f k = some true) (hF : bastillelaw30_Few.f kd u f n o ro ve l7 = some true) (hW : call_Write.f k kd u f n o ro ve l7 = some ([], 13)) (hM : bastilleref30_May.f k kd u f n o ro ve l7 = some false) (hT : call_May.f k kd u f n o ro ve l7 = some false) :
    Calls Tryd.prog 4 #[.agg #[.int .i64 kd, .string u, .string f, .string n, .string o, .int .i64 ro, .int .i64 ve, .slice A7 l7.length c7]] w fun e w' => e = .returned (.bool true) ∧ Below w.heap.size w w' := by
  have FF := Aside0.mk (show KS w kd u f n o ro ve A7 c7 l7 (w.alloc (.cells #[.int .i64 kd, .string u, .string f, .string n, .string o, .int .i64 ro, .int .i64 ve, .slice A7 l7.length c7] 24)) from ⟨(Below.refl _ w).alloc (Nat.le_refl _) _, gt_below hgt (below_alloc (Below.refl _ _) _), Array.getElem?_push_size, Kd.C_below h7 (below_alloc (Below.refl _ _) _)⟩)
  have L7 := Aside0.mk l7c
  clear h7 l7c hgt
  have HA := Aside0.mk hA
  have HF := Aside0.mk hF
  have HW := Aside0.mk hW
  have HM := Aside0.mk hM
  have HT := Aside0.mk hT
  clear hA hF hW hM hT
  obtain ⟨x0, x1, x2, x3, x4, x5, x6, x7⟩ := cb_cells FF.out.bx
  go_enter Tryd.func4, Tryd.ntmps4
  go_wp2_with fail
  refine (bastillelaw30_awake.calls k true _ FF.out.gt HA.out).mono ?_
  rintro e w1 ⟨rfl, hb⟩
  have FN_ := Aside0.mk (FF.out.step hb)
  clear x0 x1 x2 x3 x4 x5 x6 x7
  clear FF
  have FF := FN_
  clear FN_
  clear hb HA
  obtain ⟨x0, x1, x2, x3, x4, x5, x6, x7⟩ := cb_cells FF.out.bx
  go_wp2_with fail
  refine (bastillelaw30_Few.calls kd u f n o ro ve A7 c7 l7 true _ FF.out.c7h L7.out HF.out).mono ?_
  rintro e w2 ⟨rfl, hb⟩
  have FN_ := Aside0.mk (FF.out.step hb)
  clear x0 x1 x2 x3 x4 x5 x6 x7
  clear FF
  have FF := FN_
  clear FN_
  clear hb HF
  obtain ⟨x0, x1, x2, x3, x4, x5, x6, x7⟩ := cb_cells FF.out.bx
  go_wp2_with fail
  refine (call_Write.calls k kd u f n o ro ve A7 c7 l7 [] 13 _ FF.out.c7h L7.out FF.out.gt HW.out).mono ?_
  rintro e w3 ⟨v0, rfl, hR, hb⟩
  obtain ⟨AW, cW, rfl⟩ := Kd.R_slice hR
  have RB := Aside0.mk (Kd.R_reads' hR).2.2
  have LB := Aside0.mk (Kd.R_reads' hR).2.1
  have FN_ := Aside0.mk (FF.out.step hb)
  clear x0 x1 x2 x3 x4 x5 x6 x7
  clear FF
  have FF := FN_
  clear FN_
  clear hb hR HW
  obtain ⟨x0, x1, x2, x3, x4, x5, x6, x7⟩ := cb_cells FF.out.bx
  go_wp2_with fail
  refine (bastilleref30_May.calls k kd u f n o ro ve A7 c7 l7 false _ FF.out.c7h L7.out HM.out).mono ?_
  rintro e w4 ⟨rfl, hb⟩
  have FN_ := Aside0.mk (FF.out.step hb)
  have RBN_ := Aside0.mk (Kd.C_below RB.out hb)
  clear x0 x1 x2 x3 x4 x5 x6 x7
  clear FF
  have FF := FN_
  clear FN_
  clear hb
  clear RB
  have RB := RBN_
  clear RBN_
  obtain ⟨x0, x1, x2, x3, x4, x5, x6, x7⟩ := cb_cells FF.out.bx
  go_wp2_with fail
  refine (call_May.calls k kd u f n o ro ve A7 c7 l7 false _ FF.out.c7h L7.out FF.out.gt HT.out).mono ?_
  rintro e w5 ⟨rfl, hb⟩
  have FN_ := Aside0.mk (FF.out.step hb)
  have RBN_ := Aside0.mk (Kd.C_below RB.out hb)
  clear x0 x1 x2 x3 x4 x5 x6 x7
  clear FF
  have FF := FN_
  clear FN_
  clear hb
  clear RB
  have RB := RBN_
  clear RBN_
  obtain ⟨x0, x1, x2, x3, x4, x5, x6, x7⟩ := cb_cells FF.out.bx
  go_wp2
  go_ret
  exact ⟨rfl, FF.out.hb⟩
set_option maxHeartbeats 4000000 in
set_option maxRecDepth 100000 in
theorem cb_ok (k : Nat) (kd : Int) (u f n o : ByteArray) (ro ve : Int) (A7 : Option Addr) (c7 : Nat) (l7 : List Int) (w : World) (h7 : Kd.C (Kd.int .u8) w A7 l7.length l7) (l7c : l7.length ≤ c7) (hgt : GT w)
    (b y : List Int) (r : Call8) (hA : bastillelaw30_awake.f k = some true) (hF : bastillelaw30_Few.f kd u f n o ro ve l7 = some true) (hW : call_Write.f k kd u f n o ro ve l7 = some (b, 0)) (hM : bastilleref30_May.f k kd u f n o ro ve l7 = some true) (hD : call_Read.f k b = some (r, 0)) (hT : call_May.f k kd u f n o ro ve l7 = some true) (hY : bastilleref30_Bytes.f k kd u f n o ro ve l7 = some y) (hS : bastilleref01_Same.f k b y = some true) (hZ : bastilleref30_Same.f k kd u f n o ro ve l7 r.1 r.2.1 r.2.2.1 r.2.2.2.1 r.2.2.2.2.1 r.2.2.2.2.2.1 r.2.2.2.2.2.2.1 r.2.2.2.2.2.2.2 = some true) :
    Calls Tryd.prog 4 #[.agg #[.int .i64 kd, .string u, .string f, .string n, .string o, .int .i64 ro, .int .i64 ve, .slice A7 l7.length c7]] w fun e w' => e = .returned (.bool true) ∧ Below w.heap.size w w' := by
  have FF := Aside0.mk (show KS w kd u f n o ro ve A7 c7 l7 (w.alloc (.cells #[.int .i64 kd, .string u, .string f, .string n, .string o, .int .i64 ro, .int .i64 ve, .slice A7 l7.length c7] 24)) from ⟨(Below.refl _ w).alloc (Nat.le_refl _) _, gt_below hgt (below_alloc (Below.refl _ _) _), Array.getElem?_push_size, Kd.C_below h7 (below_alloc (Below.refl _ _) _)⟩)
  have L7 := Aside0.mk l7c
  clear h7 l7c hgt
  have HA := Aside0.mk hA
  have HF := Aside0.mk hF
  have HW := Aside0.mk hW
  have HM := Aside0.mk hM
  have HD := Aside0.mk hD
  have HT := Aside0.mk hT
  have HY := Aside0.mk hY
  have HS := Aside0.mk hS
  have HZ := Aside0.mk hZ
  clear hA hF hW hM hD hT hY hS hZ
  obtain ⟨x0, x1, x2, x3, x4, x5, x6, x7⟩ := cb_cells FF.out.bx
  go_enter Tryd.func4, Tryd.ntmps4
  go_wp2_with fail
  refine (bastillelaw30_awake.calls k true _ FF.out.gt HA.out).mono ?_
  rintro e w1 ⟨rfl, hb⟩
  have FN_ := Aside0.mk (FF.out.step hb)
  clear x0 x1 x2 x3 x4 x5 x6 x7
  clear FF
  have FF := FN_
  clear FN_
  clear hb HA
  obtain ⟨x0, x1, x2, x3, x4, x5, x6, x7⟩ := cb_cells FF.out.bx
  go_wp2_with fail
  refine (bastillelaw30_Few.calls kd u f n o ro ve A7 c7 l7 true _ FF.out.c7h L7.out HF.out).mono ?_
  rintro e w2 ⟨rfl, hb⟩
  have FN_ := Aside0.mk (FF.out.step hb)
  clear x0 x1 x2 x3 x4 x5 x6 x7
  clear FF
  have FF := FN_
  clear FN_
  clear hb HF
  obtain ⟨x0, x1, x2, x3, x4, x5, x6, x7⟩ := cb_cells FF.out.bx
  go_wp2_with fail
  refine (call_Write.calls k kd u f n o ro ve A7 c7 l7 b 0 _ FF.out.c7h L7.out FF.out.gt HW.out).mono ?_
  rintro e w3 ⟨v0, rfl, hR, hb⟩
  obtain ⟨AW, cW, rfl⟩ := Kd.R_slice hR
  have RB := Aside0.mk (Kd.R_reads' hR).2.2
  have LB := Aside0.mk (Kd.R_reads' hR).2.1
  have FN_ := Aside0.mk (FF.out.step hb)
  clear x0 x1 x2 x3 x4 x5 x6 x7
  clear FF
  have FF := FN_
  clear FN_
  clear hb hR HW
  obtain ⟨x0, x1, x2, x3, x4, x5, x6, x7⟩ := cb_cells FF.out.bx
  go_wp2_with fail
  refine (bastilleref30_May.calls k kd u f n o ro ve A7 c7 l7 true _ FF.out.c7h L7.out HM.out).mono ?_
  rintro e w4 ⟨rfl, hb⟩
  have FN_ := Aside0.mk (FF.out.step hb)
  have RBN_ := Aside0.mk (Kd.C_below RB.out hb)
  clear x0 x1 x2 x3 x4 x5 x6 x7
  clear FF
  have FF := FN_
  clear FN_
  clear hb
  clear RB
  have RB := RBN_
  clear RBN_
  obtain ⟨x0, x1, x2, x3, x4, x5, x6, x7⟩ := cb_cells FF.out.bx
  clear HM
  go_wp2_with fail
  refine (call_Read.calls k AW cW b r 0 _ RB.out LB.out FF.out.gt HD.out).mono ?_
  rintro e w5 ⟨AD, cD, rfl, hl, hC, hb⟩
  unfold callV
  have FN_ := Aside0.mk (FF.out.step hb)
  have RN_ := Aside0.mk (Kd.C_below RB.out hb)
  have CD := Aside0.mk hC
  have LD := Aside0.mk hl
  clear x0 x1 x2 x3 x4 x5 x6 x7
  clear FF
  have FF := FN_
  clear FN_
  clear hb hC hl HD RB
  have RB := RN_
  clear RN_
  obtain ⟨x0, x1, x2, x3, x4, x5, x6, x7⟩ := cb_cells FF.out.bx
  go_upto_region 9 with (fail)
  have BD := Aside0.mk (show CB w5.heap.size (w5.alloc (.cells #[.int .i64 r.1, .string r.2.1, .string r.2.2.1, .string r.2.2.2.1, .string r.2.2.2.2.1, .int .i64 r.2.2.2.2.2.1, .int .i64 r.2.2.2.2.2.2.1, .slice AD r.2.2.2.2.2.2.2.length cD] 24)) (.int .i64 r.1) (.string r.2.1) (.string r.2.2.1) (.string r.2.2.2.1) (.string r.2.2.2.2.1) (.int .i64 r.2.2.2.2.2.1) (.int .i64 r.2.2.2.2.2.2.1) (.slice AD r.2.2.2.2.2.2.2.length cD) from Array.getElem?_push_size)
  have hb := below_alloc (Below.refl w5.heap.size w5) (.cells #[.int .i64 r.1, .string r.2.1, .string r.2.2.1, .string r.2.2.2.1, .string r.2.2.2.2.1, .int .i64 r.2.2.2.2.2.1, .int .i64 r.2.2.2.2.2.2.1, .slice AD r.2.2.2.2.2.2.2.length cD] 24)
  have FN_ := Aside0.mk (FF.out.step hb)
  have CN_ := Aside0.mk (Kd.C_below CD.out hb)
  have RN_ := Aside0.mk (Kd.C_below RB.out hb)
  clear x0 x1 x2 x3 x4 x5 x6 x7
  clear hb FF CD RB
  have FF := FN_
  have CD := CN_
  have RB := RN_
  clear FN_ CN_ RN_
  generalize w5.alloc (.cells #[.int .i64 r.1, .string r.2.1, .string r.2.2.1, .string r.2.2.2.1, .string r.2.2.2.2.1, .int .i64 r.2.2.2.2.2.1, .int .i64 r.2.2.2.2.2.2.1, .slice AD r.2.2.2.2.2.2.2.length cD] 24) = w6 at FF BD CD RB ⊢
  generalize w5.heap.size = gd at BD ⊢
  obtain ⟨x0, x1, x2, x3, x4, x5, x6, x7⟩ := cb_cells FF.out.bx
  go_wp2_with fail
  refine (call_May.calls k kd u f n o ro ve A7 c7 l7 true _ FF.out.c7h L7.out FF.out.gt HT.out).mono ?_
  rintro e w7 ⟨rfl, hb⟩
  have FN_ := Aside0.mk (FF.out.step hb)
  have BN_ := Aside0.mk (cb_below BD.out hb)
  have CDN_ := Aside0.mk (Kd.C_below CD.out hb)
  have RBN_ := Aside0.mk (Kd.C_below RB.out hb)
  clear x0 x1 x2 x3 x4 x5 x6 x7
  clear FF BD CD RB
  have FF := FN_
  have BD := BN_
  have CD := CDN_
  have RB := RBN_
  clear FN_ BN_ CDN_ RBN_
  clear hb HT
  obtain ⟨x0, x1, x2, x3, x4, x5, x6, x7⟩ := cb_cells FF.out.bx
  go_wp2_with fail
  refine (bastilleref30_Bytes.calls k kd u f n o ro ve A7 c7 l7 y _ FF.out.c7h L7.out HY.out).mono ?_
  rintro e w8 ⟨v9, rfl, hR, hb⟩
  obtain ⟨AY, cY, rfl⟩ := Kd.R_slice hR
  have RY := Aside0.mk (Kd.R_reads' hR).2.2
  have LY := Aside0.mk (Kd.R_reads' hR).2.1
  clear hR
  have FN_ := Aside0.mk (FF.out.step hb)
  have BN_ := Aside0.mk (cb_below BD.out hb)
  have CDN_ := Aside0.mk (Kd.C_below CD.out hb)
  have RBN_ := Aside0.mk (Kd.C_below RB.out hb)
  clear x0 x1 x2 x3 x4 x5 x6 x7
  clear FF BD CD RB
  have FF := FN_
  have BD := BN_
  have CD := CDN_
  have RB := RBN_
  clear FN_ BN_ CDN_ RBN_
  clear hb HY
  obtain ⟨x0, x1, x2, x3, x4, x5, x6, x7⟩ := cb_cells FF.out.bx
  go_wp2_with fail
  refine (bastilleref01_Same.calls k AW cW b AY cY y true _ RB.out LB.out RY.out LY.out HS.out).mono ?_
  rintro e w9 ⟨rfl, hd⟩
  have hb := hd.below
  have FN_ := Aside0.mk (FF.out.step hb)
  have BN_ := Aside0.mk (cb_below BD.out hb)
  have CDN_ := Aside0.mk (Kd.C_below CD.out hb)
  clear x0 x1 x2 x3 x4 x5 x6 x7
  clear FF BD CD
  have FF := FN_
  have BD := BN_
  have CD := CDN_
  clear FN_ BN_ CDN_
  clear hb hd HS RB RY
  obtain ⟨x0, x1, x2, x3, x4, x5, x6, x7⟩ := cb_cells FF.out.bx
  obtain ⟨y0, y1, y2, y3, y4, y5, y6, y7⟩ := cb_cells BD.out
  go_wp2_with fail
  refine (bastilleref30_Same.calls k kd u f n o ro ve A7 c7 l7 r.1 r.2.1 r.2.2.1 r.2.2.2.1 r.2.2.2.2.1 r.2.2.2.2.2.1 r.2.2.2.2.2.2.1 AD cD r.2.2.2.2.2.2.2 true _ FF.out.c7h L7.out CD.out LD.out HZ.out).mono ?_
  rintro e w10 ⟨rfl, hb⟩
  have FN_ := Aside0.mk (FF.out.step hb)
  clear x0 x1 x2 x3 x4 x5 x6 x7
  clear y0 y1 y2 y3 y4 y5 y6 y7
  clear FF BD CD hb
  have FF := FN_
  clear FN_
  go_wp2
  go_ret
  exact ⟨rfl, FF.out.hb⟩
theorem bastillelaw30_CallBack.calls (k : Nat) (kd : Int) (u f n o : ByteArray) (ro ve : Int) (A7 : Option Addr) (c7 : Nat) (l7 : List Int) (r : Bool) (w : World) (hr0_7 : Kd.C (Kd.int .u8) w A7 l7.length l7) (hc0_7 : l7.length ≤ c7) (hgt : GT w) (h : bastillelaw30_CallBack.f k kd u f n o ro ve l7 = some r) :
    Calls Tryd.prog 4 #[.agg #[.int .i64 kd, .string u, .string f, .string n, .string o, .int .i64 ro, .int .i64 ve, .slice A7 l7.length c7]] w fun e w' => e = .returned (.bool r) ∧ Below w.heap.size w w' := by
  unfold bastillelaw30_CallBack.f at h
  obtain ⟨a, hA, h1_⟩ := Option.bind_eq_some_iff.1 h
  cases a
  · simp at h1_
  simp only [if_true] at h1_
  obtain ⟨b, hF, h2_⟩ := Option.bind_eq_some_iff.1 h1_
  cases b
  · simp only [Bool.false_eq_true, if_false] at h2_
    cases h2_
    exact cb_few k kd u f n o ro ve A7 c7 l7 w hr0_7 hc0_7 hgt hA hF
  simp only [if_true] at h2_
  obtain ⟨⟨b, er⟩, hW, h3_⟩ := Option.bind_eq_some_iff.1 h2_
  obtain ⟨m, hM, h4_⟩ := Option.bind_eq_some_iff.1 h3_
  simp only at h4_
  cases m
  · simp only [Bool.false_eq_true, if_false] at h4_
    by_cases he : er = 13
    · rw [if_pos he] at h4_
      by_cases hl : b.length = 0
      · rw [if_pos hl] at h4_
        obtain ⟨t, hT, hq⟩ := Option.bind_eq_some_iff.1 h4_
        cases t
        · simp only [if_true] at hq
          cases hq
          subst he
          obtain rfl := List.eq_nil_of_length_eq_zero hl
          exact cb_bad k kd u f n o ro ve A7 c7 l7 w hr0_7 hc0_7 hgt hA hF hW hM hT
        · simp at hq
      · rw [if_neg hl] at h4_
        cases h4_
    · rw [if_neg he] at h4_
      cases h4_
  simp only [if_true] at h4_
  obtain ⟨⟨d, de⟩, hD, h5_⟩ := Option.bind_eq_some_iff.1 h4_
  obtain ⟨t, hT, h6_⟩ := Option.bind_eq_some_iff.1 h5_
  cases t
  · simp at h6_
  simp only [if_true] at h6_
  by_cases he : er = 0
  rotate_left
  · rw [if_neg he] at h6_
    cases h6_
  rw [if_pos he] at h6_
  subst he
  obtain ⟨y, hY, h7_⟩ := Option.bind_eq_some_iff.1 h6_
  obtain ⟨s, hS, h8_⟩ := Option.bind_eq_some_iff.1 h7_
  cases s
  · simp at h8_
  simp only [if_true] at h8_
  by_cases he : de = 0
  rotate_left
  · rw [if_neg he] at h8_
    cases h8_
  rw [if_pos he] at h8_
  subst he
  obtain ⟨z, hZ, h9_⟩ := Option.bind_eq_some_iff.1 h8_
  cases z
  · simp at h9_
  simp only [if_true] at h9_
  cases h9_
  exact cb_ok k kd u f n o ro ve A7 c7 l7 w hr0_7 hc0_7 hgt b y d hA hF hW hM hD hT hY hS hZ


end Go.Proofs.YtiibnfnjfmcggaaDoor.PCallBack
