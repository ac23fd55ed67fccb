-- Written by drive.py of this work: the kit's print.py with contracts of this work laid in.
import Derived.Test.YtiibnfnjfmcggaaDoorPCallReadsx0
import Derived.Test.YtiibnfnjfmcggaaDoorPCallReadsx2
import Derived.Test.YtiibnfnjfmcggaaDoorPCallReadsx8
import Derived.Test.YtiibnfnjfmcggaaDoorPCallReadsx10
import Derived.Test.YtiibnfnjfmcggaaDoorPCallReadsx11
import Derived.Test.YtiibnfnjfmcggaaDoorPCallReadsx13
namespace Go.Proofs.YtiibnfnjfmcggaaDoor.PCallReads
open Go.RowKit Go.Proofs.YtiibnfnjfmcggaaDoorW.PrintWords Go.Proofs.YtiibnfnjfmcggaaDoorW.PrintLast Go.Proofs.YtiibnfnjfmcggaaDoorW.PrintMore
attribute [local go_sem] max2_int min2_int max_two min_two max_three min_three max_four min_four   -- for this text's walks alone
set_option linter.unusedVariables false
set_option linter.unusedSimpArgs false

/-! ### bastillelaw30_awake: function 6 -/
--ALONE
structure CS (w : World) (W : World) : Prop where
 hb : Below w.heap.size w W
 gt : GT W
 bx : W.heap[w.heap.size]? = some (.cells #[.int .i64 10, .string (⟨#[97]⟩ : ByteArray), .string (⟨#[102]⟩ : ByteArray), .string (⟨#[]⟩ : ByteArray), .string (⟨#[]⟩ : ByteArray), .int .i64 0, .int .i64 0, .slice none 0 0] 24 (0, 0))
theorem CS.step {w W W' : World} (h : CS w W) (hb : Below W.heap.size W W') : CS w W' := ⟨h.hb.trans (hb.mono h.hb.size), gt_below h.gt hb, (hb.block _ (blk_lt h.bx)).trans h.bx⟩
set_option maxHeartbeats 4000000 in
set_option maxRecDepth 100000 in
theorem awake30_walk (k : Nat) (bs b2 : List Int) (hm : call_May.f k 10 (⟨#[97]⟩ : ByteArray) (⟨#[102]⟩ : ByteArray) (⟨#[]⟩ : ByteArray) (⟨#[]⟩ : ByteArray) 0 0 [] = some true) (hd : call_May.f k 10 (⟨#[97]⟩ : ByteArray) (⟨#[102]⟩ : ByteArray) (⟨#[110]⟩ : ByteArray) (⟨#[]⟩ : ByteArray) 0 0 [] = some false)
  (he : codec_Encode.f k 3 0 [] (row8 10 (⟨#[97]⟩ : ByteArray) (⟨#[102]⟩ : ByteArray) (⟨#[]⟩ : ByteArray) (⟨#[]⟩ : ByteArray) 0 0 []) = some (bs, 0)) (hb2 : bastilleref02_Bytes.f k 3 0 [] (row8 10 (⟨#[97]⟩ : ByteArray) (⟨#[102]⟩ : ByteArray) (⟨#[]⟩ : ByteArray) (⟨#[]⟩ : ByteArray) 0 0 []) = some b2) (hq : bastilleref01_Same.f k bs b2 = some true) (w : World) (hgt : GT w) :
  Calls Tryd.prog 6 #[] w fun e w' => e = .returned (.bool true) ∧ Below w.heap.size w w' := by
 have FF := Aside0.mk (show CS w (w.alloc (.cells #[.int .i64 10, .string (⟨#[97]⟩ : ByteArray), .string (⟨#[102]⟩ : ByteArray), .string (⟨#[]⟩ : ByteArray), .string (⟨#[]⟩ : ByteArray), .int .i64 0, .int .i64 0, .slice none 0 0] 24)) from ⟨(Below.refl _ w).alloc (Nat.le_refl _) _, gt_below hgt (below_alloc (Below.refl _ _) _), Array.getElem?_push_size⟩)
 have HM := Aside0.mk hm
 have HD := Aside0.mk hd
 have HE := Aside0.mk he
 have HB2 := Aside0.mk hb2
 have HQ := Aside0.mk hq
 clear hm hd he hb2 hq hgt
 have x0 := (blk_cell FF.out.bx 0).trans rfl
 have x1 := (blk_cell FF.out.bx 1).trans rfl
 have x2 := (blk_cell FF.out.bx 2).trans rfl
 have x3 := (blk_cell FF.out.bx 3).trans rfl
 have x4 := (blk_cell FF.out.bx 4).trans rfl
 have x5 := (blk_cell FF.out.bx 5).trans rfl
 have x6 := (blk_cell FF.out.bx 6).trans rfl
 have x7 := (blk_cell FF.out.bx 7).trans rfl
 go_enter Tryd.func6, Tryd.ntmps6
 go_wp2_with fail
 refine (write_any k 10 (⟨#[97]⟩ : ByteArray) (⟨#[102]⟩ : ByteArray) (⟨#[]⟩ : ByteArray) (⟨#[]⟩ : ByteArray) 0 0 none 0 [] bs 0 _ (by decide) (by decide) (by decide) (by decide) (C_none _ _ none) (Nat.le_refl _) (fun W hW => call_May.calls k 10 (⟨#[97]⟩ : ByteArray) (⟨#[102]⟩ : ByteArray) (⟨#[]⟩ : ByteArray) (⟨#[]⟩ : ByteArray) 0 0 none 0 [] true W (C_none _ _ none) (Nat.le_refl _) (gt_below FF.out.gt hW) HM.out) HE.out).mono ?_
 rintro e w1 ⟨v0, rfl, hR, hb⟩
 obtain ⟨A, c, rfl⟩ := Kd.R_slice hR
 have HR := Aside0.mk hR
 have FN_ := Aside0.mk (FF.out.step hb)
 clear x0 x1 x2 x3 x4 x5 x6 x7
 clear hR hb FF
 have FF := FN_
 clear FN_
 have x0 := (blk_cell FF.out.bx 0).trans rfl
 have x1 := (blk_cell FF.out.bx 1).trans rfl
 have x2 := (blk_cell FF.out.bx 2).trans rfl
 have x3 := (blk_cell FF.out.bx 3).trans rfl
 have x4 := (blk_cell FF.out.bx 4).trans rfl
 have x5 := (blk_cell FF.out.bx 5).trans rfl
 have x6 := (blk_cell FF.out.bx 6).trans rfl
 have x7 := (blk_cell FF.out.bx 7).trans rfl
 go_upto_region 5 with (fail)
 clear x0 x1 x2 x3 x4 x5 x6 x7
 have KD := Aside0.mk (show (w1.alloc (.cells #[.int .i64 10, .string (⟨#[97]⟩ : ByteArray), .string (⟨#[102]⟩ : ByteArray), .string (⟨#[110]⟩ : ByteArray), .string (⟨#[]⟩ : ByteArray), .int .i64 0, .int .i64 0, .slice none 0 0] 24)).heap[w1.heap.size]? = some (.cells #[.int .i64 10, .string (⟨#[97]⟩ : ByteArray), .string (⟨#[102]⟩ : ByteArray), .string (⟨#[110]⟩ : ByteArray), .string (⟨#[]⟩ : ByteArray), .int .i64 0, .int .i64 0, .slice none 0 0] 24 (0, 0)) from Array.getElem?_push_size)
 have FN_ := Aside0.mk (FF.out.step (below_alloc (Below.refl w1.heap.size w1) (.cells #[.int .i64 10, .string (⟨#[97]⟩ : ByteArray), .string (⟨#[102]⟩ : ByteArray), .string (⟨#[110]⟩ : ByteArray), .string (⟨#[]⟩ : ByteArray), .int .i64 0, .int .i64 0, .slice none 0 0] 24)))
 have HR2 := Aside0.mk (Kd.C_below (Kd.R_reads' HR.out).2.2 (below_alloc (Below.refl w1.heap.size w1) (.cells #[.int .i64 10, .string (⟨#[97]⟩ : ByteArray), .string (⟨#[102]⟩ : ByteArray), .string (⟨#[110]⟩ : ByteArray), .string (⟨#[]⟩ : ByteArray), .int .i64 0, .int .i64 0, .slice none 0 0] 24)))
 have LC := Aside0.mk (Kd.R_reads' HR.out).2.1
 clear FF HR
 have FF := FN_
 clear FN_
 generalize w1.alloc (.cells #[.int .i64 10, .string (⟨#[97]⟩ : ByteArray), .string (⟨#[102]⟩ : ByteArray), .string (⟨#[110]⟩ : ByteArray), .string (⟨#[]⟩ : ByteArray), .int .i64 0, .int .i64 0, .slice none 0 0] 24) = w2 at FF KD HR2 ⊢
 generalize w1.heap.size = gd at KD ⊢
 have x0 := (blk_cell FF.out.bx 0).trans rfl
 have x1 := (blk_cell FF.out.bx 1).trans rfl
 have x2 := (blk_cell FF.out.bx 2).trans rfl
 have x3 := (blk_cell FF.out.bx 3).trans rfl
 have x4 := (blk_cell FF.out.bx 4).trans rfl
 have x5 := (blk_cell FF.out.bx 5).trans rfl
 have x6 := (blk_cell FF.out.bx 6).trans rfl
 have x7 := (blk_cell FF.out.bx 7).trans rfl
 go_wp2_with fail
 refine (call_May.calls k 10 (⟨#[97]⟩ : ByteArray) (⟨#[102]⟩ : ByteArray) (⟨#[]⟩ : ByteArray) (⟨#[]⟩ : ByteArray) 0 0 none 0 [] true _ (C_none _ _ none) (Nat.le_refl _) FF.out.gt HM.out).mono ?_
 rintro e w3 ⟨rfl, hb⟩
 have FN_ := Aside0.mk (FF.out.step hb)
 have KN_ := Aside0.mk ((hb.block _ (blk_lt KD.out)).trans KD.out)
 have HN_ := Aside0.mk (Kd.C_below HR2.out hb)
 clear x0 x1 x2 x3 x4 x5 x6 x7
 clear hb FF KD HR2
 have FF := FN_
 have KD := KN_
 have HR2 := HN_
 clear FN_ KN_ HN_
 have x0 := (blk_cell KD.out 0).trans rfl
 have x1 := (blk_cell KD.out 1).trans rfl
 have x2 := (blk_cell KD.out 2).trans rfl
 have x3 := (blk_cell KD.out 3).trans rfl
 have x4 := (blk_cell KD.out 4).trans rfl
 have x5 := (blk_cell KD.out 5).trans rfl
 have x6 := (blk_cell KD.out 6).trans rfl
 have x7 := (blk_cell KD.out 7).trans rfl
 go_wp2_with fail
 refine (call_May.calls k 10 (⟨#[97]⟩ : ByteArray) (⟨#[102]⟩ : ByteArray) (⟨#[110]⟩ : ByteArray) (⟨#[]⟩ : ByteArray) 0 0 none 0 [] false _ (C_none _ _ none) (Nat.le_refl _) FF.out.gt HD.out).mono ?_
 rintro e w4 ⟨rfl, hb⟩
 have FN_ := Aside0.mk (FF.out.step hb)
 have HN_ := Aside0.mk (Kd.C_below HR2.out hb)
 clear x0 x1 x2 x3 x4 x5 x6 x7
 clear hb FF KD HR2
 have FF := FN_
 have HR2 := HN_
 clear FN_ HN_
 have x0 := (blk_cell FF.out.bx 0).trans rfl
 have x1 := (blk_cell FF.out.bx 1).trans rfl
 have x2 := (blk_cell FF.out.bx 2).trans rfl
 have x3 := (blk_cell FF.out.bx 3).trans rfl
 have x4 := (blk_cell FF.out.bx 4).trans rfl
 have x5 := (blk_cell FF.out.bx 5).trans rfl
 have x6 := (blk_cell FF.out.bx 6).trans rfl
 have x7 := (blk_cell FF.out.bx 7).trans rfl
 go_wp2_with fail
 refine (bytes30_any k 10 (⟨#[97]⟩ : ByteArray) (⟨#[102]⟩ : ByteArray) (⟨#[]⟩ : ByteArray) (⟨#[]⟩ : ByteArray) 0 0 none 0 [] b2 _ (by decide) (by decide) (by decide) (by decide) (C_none _ _ none) (Nat.le_refl _) HB2.out).mono ?_
 rintro e w5 ⟨v9, rfl, hR9, hb⟩
 obtain ⟨A9, c9, rfl⟩ := Kd.R_slice hR9
 have HR9 := Aside0.mk hR9
 have FN_ := Aside0.mk (FF.out.step hb)
 have HN_ := Aside0.mk (Kd.C_below HR2.out hb)
 clear x0 x1 x2 x3 x4 x5 x6 x7
 clear hb FF HR2 hR9
 have FF := FN_
 have HR2 := HN_
 clear FN_ HN_
 go_wp2_with fail
 refine (bastilleref01_Same.calls k A c bs A9 c9 b2 true _ HR2.out LC.out (Kd.R_reads' HR9.out).2.2 (Kd.R_reads' HR9.out).2.1 HQ.out).mono ?_
 rintro e w6 ⟨rfl, hd⟩
 have FN_ := Aside0.mk (FF.out.step hd.below)
 clear FF hd
 go_wp2
 go_ret
 exact ⟨rfl, FN_.out.hb⟩
def bastillelaw30_awake.f (k : Nat) : Option Bool :=
 (call_May.f k 10 (⟨#[97]⟩ : ByteArray) (⟨#[102]⟩ : ByteArray) (⟨#[]⟩ : ByteArray) (⟨#[]⟩ : ByteArray) 0 0 []).bind fun m1 => if m1 = true then (call_May.f k 10 (⟨#[97]⟩ : ByteArray) (⟨#[102]⟩ : ByteArray) (⟨#[110]⟩ : ByteArray) (⟨#[]⟩ : ByteArray) 0 0 []).bind fun m2 => if m2 = false then
  (codec_Encode.f k 3 0 [] (row8 10 (⟨#[97]⟩ : ByteArray) (⟨#[102]⟩ : ByteArray) (⟨#[]⟩ : ByteArray) (⟨#[]⟩ : ByteArray) 0 0 [])).bind fun b => if b.2 = 0 then (bastilleref02_Bytes.f k 3 0 [] (row8 10 (⟨#[97]⟩ : ByteArray) (⟨#[102]⟩ : ByteArray) (⟨#[]⟩ : ByteArray) (⟨#[]⟩ : ByteArray) 0 0 [])).bind fun b2 => (bastilleref01_Same.f k b.1 b2).bind fun t => if t = true then some true else none else none else none else none
theorem bastillelaw30_awake.mono : ∀ k, LeO (bastillelaw30_awake.f k) (bastillelaw30_awake.f (k + 1)) := by
 intro k
 unfold bastillelaw30_awake.f
 exact LeO.bind (call_May.mono _ _ _ _ _ _ _ _ _) fun _ => LeO.ite (LeO.bind (call_May.mono _ _ _ _ _ _ _ _ _) fun _ => LeO.ite (LeO.bind (codec_Encode.mono _ _ _ _ _) fun _ => LeO.ite (LeO.bind (bastilleref02_Bytes.mono _ _ _ _ _) fun _ => LeO.bind (bastilleref01_Same.mono _ _ _) fun _ => LeO.refl _) (LeO.refl _)) (LeO.refl _)) (LeO.refl _)
theorem bastillelaw30_awake.calls (k : Nat) (r : Bool) (w : World) (hgt : GT w) (h : bastillelaw30_awake.f k = some r) : Calls Tryd.prog 6 #[] w fun e w' => e = .returned (.bool r) ∧ Below w.heap.size w w' := by
 unfold bastillelaw30_awake.f at h
 obtain ⟨m1, hm1, h1⟩ := Option.bind_eq_some_iff.1 h
 by_cases c1 : m1 = true
 ·subst c1
  rw [if_pos rfl] at h1
  obtain ⟨m2, hm2, h2⟩ := Option.bind_eq_some_iff.1 h1
  by_cases c2 : m2 = false
  ·subst c2
   rw [if_pos rfl] at h2
   obtain ⟨⟨bs, er⟩, he, h3⟩ := Option.bind_eq_some_iff.1 h2
   by_cases c3 : er = 0
   ·subst c3
    rw [if_pos rfl] at h3
    obtain ⟨b2, hb2, h4⟩ := Option.bind_eq_some_iff.1 h3
    obtain ⟨t, ht, h5⟩ := Option.bind_eq_some_iff.1 h4
    by_cases c4 : t = true
    ·subst c4
     rw [if_pos rfl] at h5
     cases h5
     exact awake30_walk k bs b2 hm1 hm2 he hb2 ht w hgt
    ·rw [if_neg c4] at h5
     cases h5
   ·rw [if_neg c3] at h3
    cases h3
  ·rw [if_neg c2] at h2
   cases h2
 ·rw [if_neg c1] at h1
  cases h1


end Go.Proofs.YtiibnfnjfmcggaaDoor.PCallReads
