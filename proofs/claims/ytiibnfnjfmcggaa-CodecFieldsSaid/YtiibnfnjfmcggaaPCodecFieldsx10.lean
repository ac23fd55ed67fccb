-- Written by drive.py of this work: the kit's print.py with contracts of this work laid in.
import Derived.Test.YtiibnfnjfmcggaaPCodecFieldsx0
import Derived.Test.YtiibnfnjfmcggaaPCodecFieldsx9
namespace Go.Proofs.Ytiibnfnjfmcggaa.PCodecFields
open Go.RowKit Go.Proofs.YtiibnfnjfmcggaaW.PrintWords Go.Proofs.YtiibnfnjfmcggaaW.PrintLast Go.Proofs.YtiibnfnjfmcggaaW.PrintMore
attribute [local go_sem] max2_int min2_int max_two min_two max_three min_three max_four min_four   -- for this text's walks alone
set_option linter.unusedVariables false
set_option linter.unusedSimpArgs false

/-! ### codec_Same: function 32 -/
--ALONE
/-! ### codec.Same and slices.EqualFunc at it, by hand -/
def eqL (g : S43 → S43 → Option Bool) : List S43 → List S43 → Option Bool
  | x :: s, y :: t => (g x y).bind fun b => if b = true then eqL g s t else some false
  | _, _ => some true
def codec_Same.f : Nat → Int → Int → List Int → List S43 → Int → Int → List Int → List S43 → Option Bool
  | 0, _, _, _, _, _, _, _, _ => none
  | k + 1, a0, a1, a2, a3, b0, b1, b2, b3 => if a0 = b0 then (if a1 = b1 then (bytes_Equal.f a2 b2).bind fun e => (if e = true then (if a3.length = b3.length then eqL (fun x y => codec_Same.f k x.f0 x.f1 x.f2 x.f3 y.f0 y.f1 y.f2 y.f3) a3 b3 else some false) else some false) else some false) else some false
theorem eqL_mono {g g' : S43 → S43 → Option Bool} (h : ∀ x y, LeO (g x y) (g' x y)) : ∀ s t, LeO (eqL g s t) (eqL g' s t)
  | [], [] => LeO.refl _
  | [], _ :: _ => LeO.refl _
  | _ :: _, [] => LeO.refl _
  | x :: s, y :: t => LeO.bind (h x y) fun _ => LeO.ite (eqL_mono h s t) (LeO.refl _)
theorem codec_Same.mono' : ∀ k a0 a1 a2 a3 b0 b1 b2 b3, LeO (codec_Same.f k a0 a1 a2 a3 b0 b1 b2 b3) (codec_Same.f (k + 1) a0 a1 a2 a3 b0 b1 b2 b3)
  | 0, _, _, _, _, _, _, _, _ => LeO.none _
  | k + 1, a0, a1, a2, a3, b0, b1, b2, b3 => by
    rw [codec_Same.f, codec_Same.f]
    exact LeO.ite (LeO.ite (LeO.bind (LeO.refl _) fun _ => LeO.ite (LeO.ite (eqL_mono (fun x y => codec_Same.mono' k _ _ _ _ _ _ _ _) _ _) (LeO.refl _)) (LeO.refl _)) (LeO.refl _)) (LeO.refl _)
theorem codec_Same.mono : ∀ a0 a1 a2 a3 b0 b1 b2 b3 k, LeO (codec_Same.f k a0 a1 a2 a3 b0 b1 b2 b3) (codec_Same.f (k + 1) a0 a1 a2 a3 b0 b1 b2 b3) := fun a0 a1 a2 a3 b0 b1 b2 b3 k => codec_Same.mono' k a0 a1 a2 a3 b0 b1 b2 b3
def SameAt (k : Nat) : Prop := ∀ (a0 a1 : Int) (a2 : List Int) (a3 : List S43) (b0 b1 : Int) (b2 : List Int) (b3 : List S43) (r : Bool), codec_Same.f k a0 a1 a2 a3 b0 b1 b2 b3 = some r → ∀ (w : World) (A2 : Option Addr) (c2 : Nat) (A3 : Option Addr) (c3 : Nat) (B2 : Option Addr) (d2 : Nat) (B3 : Option Addr) (d3 : Nat),
  Kd.C (Kd.int .u8) w A2 a2.length a2 → a2.length ≤ c2 → Kd.C k43 w A3 a3.length a3 → a3.length ≤ c3 → Kd.C (Kd.int .u8) w B2 b2.length b2 → b2.length ≤ d2 → Kd.C k43 w B3 b3.length b3 → b3.length ≤ d3 →
  Calls Try.prog 32 #[.agg #[.int .i64 a0, .int .i64 a1, .slice A2 a2.length c2, .slice A3 a3.length c3], .agg #[.int .i64 b0, .int .i64 b1, .slice B2 b2.length d2, .slice B3 b3.length d3]] w fun e w' => e = .returned (.bool r) ∧ Below w.heap.size w w'
theorem eq_drop (l : List S43) (i : Nat) (h : i < l.length) : l.drop i = rd_T43 l (i : Int) :: l.drop (i + 1) := by
  rw [List.drop_eq_getElem_cons h]
  congr 1
  unfold rd_T43
  rw [Int.toNat_natCast]
  simp [List.getD, List.getElem?_eq_getElem h]
theorem eq_size_new (w : World) (o : Obj) : (w.alloc o).heap.size = w.heap.size + 1 := Array.size_push _
set_option maxHeartbeats 4000000 in
set_option maxRecDepth 100000 in
theorem eqf_same (k : Nat) (ih : SameAt k) (l m : List S43) (n : Nat) (hl : l.length = n) (hm : m.length = n) (r : Bool) (h : eqL (fun x y => codec_Same.f k x.f0 x.f1 x.f2 x.f3 y.f0 y.f1 y.f2 y.f3) l m = some r) (w : World) (A : Option Addr) (c : Nat) (B : Option Addr) (d : Nat)
    (hA : Kd.C k43 w A n l) (hB : Kd.C k43 w B n m) :
    Calls Try.prog 63 #[.slice A n c, .slice B n d, .func (.func 32) #[] #[]] w fun e w' => e = .returned (.bool r) ∧ Below w.heap.size w w' := by
  have hn : n ≤ 9223372036854775807 := hA.2.1
  have hA' := Aside0.mk hA
  have hB' := Aside0.mk hB
  have h' := Aside0.mk h
  have ih' := Aside0.mk ih
  have hl' := Aside0.mk hl
  have hm' := Aside0.mk hm
  clear hA hB h ih hl hm
  go_enter Try.func63, Try.ntmps63
  go_wp2_with fail
  go_loopg [17] n (fun q v17 wr => ∃ (j : Nat), v17 = .int .i64 (j : Int) ∧ j + q = n ∧ Aside0 (eqL (fun x y => codec_Same.f k x.f0 x.f1 x.f2 x.f3 y.f0 y.f1 y.f2 y.f3) (l.drop j) (m.drop j) = some r) ∧ Aside0 (Below w.heap.size w wr))
  case atStart => exact ⟨0, rfl, by omega, ⟨by rw [List.drop_zero, List.drop_zero]; exact h'.out⟩, ⟨Below.refl _ _⟩⟩
  case round =>
    obtain ⟨j, rfl, hj, HA, HB4⟩ := hrel
    have hs4 := HB4.out.size
    by_cases hlt : j < n
    · have hll := hl'.out
      have hml := hm'.out
      obtain ⟨ad, A2, c2, A3, c3, e1, x0, x1, x2, x3, le2, ge2, le3, ge3⟩ := at_T43 hA'.out (j : Int) (by omega) (by omega)
      obtain ⟨bd, B2, d2, B3, d3, e2, y0, y1, y2, y3, me2, he2, me3, he3⟩ := at_T43 hB'.out (j : Int) (by omega) (by omega)
      subst e1
      subst e2
      rw [Int.toNat_natCast] at x0 x1 x2 x3 y0 y1 y2 y3
      replace x0 := (HB4.out.cell (World.block_lt_of_cell? w _ x0)).trans x0
      replace x1 := (HB4.out.cell (World.block_lt_of_cell? w _ x1)).trans x1
      replace x2 := (HB4.out.cell (World.block_lt_of_cell? w _ x2)).trans x2
      replace x3 := (HB4.out.cell (World.block_lt_of_cell? w _ x3)).trans x3
      have HB5 := Aside0.mk (HB4.out.alloc hs4 (.cells #[.int .i64 (rd_T43 l (j : Int)).f0, .int .i64 (rd_T43 l (j : Int)).f1, .slice A2 (rd_T43 l (j : Int)).f2.length c2, .slice A3 (rd_T43 l (j : Int)).f3.length c3] 43))
      replace y0 := (HB5.out.cell (World.block_lt_of_cell? w _ y0)).trans y0
      replace y1 := (HB5.out.cell (World.block_lt_of_cell? w _ y1)).trans y1
      replace y2 := (HB5.out.cell (World.block_lt_of_cell? w _ y2)).trans y2
      replace y3 := (HB5.out.cell (World.block_lt_of_cell? w _ y3)).trans y3
      have HB6 := Aside0.mk (HB5.out.alloc HB5.out.size (.cells #[.int .i64 (rd_T43 m (j : Int)).f0, .int .i64 (rd_T43 m (j : Int)).f1, .slice B2 (rd_T43 m (j : Int)).f2.length d2, .slice B3 (rd_T43 m (j : Int)).f3.length d3] 43))
      have G := Aside0.mk (And.intro le2 (And.intro ge2 (And.intro le3 (And.intro ge3 (And.intro me2 (And.intro he2 (And.intro me3 he3)))))))
      clear le2 ge2 le3 ge3 me2 he2 me3 he3 hll hml hs4
      have p0 := eq_true (show 0 ≤ (j : Int) by omega)
      have p1 := eq_true (show (j : Int) < (n : Int) by omega)
      have p2 : decide ((j : Int) < (n : Int)) = true := decide_eq_true (by omega)
      have hd1 := eq_drop l j (by have := hl'.out; omega)
      have hd2 := eq_drop m j (by have := hm'.out; omega)
      have HA1 := HA.out
      rw [hd1, hd2, eqL] at HA1
      obtain ⟨b, hb, hrest⟩ := Option.bind_eq_some_iff.1 HA1
      have hb' := Aside0.mk hb
      have hrest' := Aside0.mk hrest
      clear HA HA1 hd1 hd2 hb hrest
      go_wp2_with fail
      refine (ih'.out _ _ _ _ _ _ _ _ b hb'.out _ A2 c2 A3 c3 B2 d2 B3 d3 (Kd.C_below G.out.2.1 HB6.out) G.out.1 (Kd.C_below G.out.2.2.2.1 HB6.out) G.out.2.2.1 (Kd.C_below G.out.2.2.2.2.2.1 HB6.out) G.out.2.2.2.2.1 (Kd.C_below G.out.2.2.2.2.2.2.2 HB6.out) G.out.2.2.2.2.2.2.1).mono ?_
      rintro e w5 ⟨rfl, hB5⟩
      have HB7 := Aside0.mk (HB6.out.trans (hB5.mono HB6.out.size))
      clear hB5 HB4 HB5 HB6 p0 p1 p2 x0 x1 x2 x3 y0 y1 y2 y3
      cases b with
      | false =>
        obtain rfl : false = r := by have := hrest'.out; simpa using this
        clear hrest' hb' h'
        go_wp2
        go_ret
        exact ⟨rfl, HB7.out⟩
      | true =>
        have hr2 := Aside0.mk (show eqL (fun x y => codec_Same.f k x.f0 x.f1 x.f2 x.f3 y.f0 y.f1 y.f2 y.f3) (l.drop (j + 1)) (m.drop (j + 1)) = some r by have := hrest'.out; simpa using this)
        clear hrest' hb'
        go_wp2
        go_roundg (n - (j + 1))
        case measure => omega
        case rel => exact ⟨j + 1, by go_num, by omega, hr2, HB7⟩
    · obtain rfl : true = r := by
        have := HA.out
        rw [List.drop_of_length_le (by have := hl'.out; omega), List.drop_of_length_le (by have := hm'.out; omega), eqL] at this
        · exact Option.some.inj this
        · intro _ _ _ _ h; cases h
      have p2 : decide ((j : Int) < (n : Int)) = false := decide_eq_false (by omega)
      have p3 : decide (j < n) = false := decide_eq_false (by omega)
      clear HA h'
      go_wp2
      go_ret
      exact ⟨rfl, HB4.out⟩
set_option maxHeartbeats 4000000 in
set_option maxRecDepth 100000 in
theorem eqf_ne (n q : Nat) (hnq : n ≠ q) (w : World) (A : Option Addr) (c : Nat) (B : Option Addr) (d : Nat) :
    Calls Try.prog 63 #[.slice A n c, .slice B q d, .func (.func 32) #[] #[]] w fun e w' => e = .returned (.bool false) ∧ Below w.heap.size w w' := by
  have p0 : decide ((n : Int) = (q : Int)) = false := decide_eq_false (by omega)
  have p1 : decide (n = q) = false := decide_eq_false hnq
  have HB := Aside0.mk (Below.refl w.heap.size w)
  go_enter Try.func63, Try.ntmps63
  go_wp2
  go_ret
  exact ⟨rfl, HB.out⟩
theorem eqf_same2 (k : Nat) (ih : SameAt k) (l m : List S43) (hl : l.length = m.length) (r : Bool) (h : eqL (fun x y => codec_Same.f k x.f0 x.f1 x.f2 x.f3 y.f0 y.f1 y.f2 y.f3) l m = some r) (w : World) (A : Option Addr) (c : Nat) (B : Option Addr) (d : Nat)
    (hA : Kd.C k43 w A l.length l) (hB : Kd.C k43 w B m.length m) :
    Calls Try.prog 63 #[.slice A l.length c, .slice B m.length d, .func (.func 32) #[] #[]] w fun e w' => e = .returned (.bool r) ∧ Below w.heap.size w w' := by
  have e := eqf_same k ih l m l.length rfl hl.symm r h w A c B d hA (by rw [hl]; exact hB)
  rw [← hl]
  exact e
set_option maxHeartbeats 8000000 in
set_option maxRecDepth 100000 in
theorem same_any : ∀ k, SameAt k := by
  intro k
  induction k with
  | zero => intro a0 a1 a2 a3 b0 b1 b2 b3 r h; simp [codec_Same.f] at h
  | succ k ih =>
    intro a0 a1 a2 a3 b0 b1 b2 b3 r h w A2 c2 A3 c3 B2 d2 B3 d3 hA2 hc2 hA3 hc3 hB2 hd2 hB3 hd3
    rw [codec_Same.f] at h
    have HB := Aside0.mk (((Below.refl w.heap.size w).alloc (Nat.le_refl _) (.cells #[.int .i64 a0, .int .i64 a1, .slice A2 a2.length c2, .slice A3 a3.length c3] 43)).alloc (by rw [eq_size_new]; omega) (.cells #[.int .i64 b0, .int .i64 b1, .slice B2 b2.length d2, .slice B3 b3.length d3] 43))
    have GA2 := Aside0.mk (Kd.C_below hA2 HB.out)
    have GA3 := Aside0.mk (Kd.C_below hA3 HB.out)
    have GB2 := Aside0.mk (Kd.C_below hB2 HB.out)
    have GB3 := Aside0.mk (Kd.C_below hB3 HB.out)
    have HC2 := Aside0.mk hc2
    have HD2 := Aside0.mk hd2
    clear hA2 hA3 hB2 hB3 hc2 hc3 hd2 hd3
    have ih' := Aside0.mk ih
    clear ih
    by_cases h0 : a0 = b0
    · rw [if_pos h0] at h
      by_cases h1 : a1 = b1
      · rw [if_pos h1] at h
        obtain ⟨e, he, h⟩ := Option.bind_eq_some_iff.1 h
        have he' := Aside0.mk he
        have h' := Aside0.mk h
        subst h0
        subst h1
        clear h he
        go_enter Try.func32, Try.ntmps32
        go_wp2_with fail
        refine (bytes_Equal.calls _ c2 a2 _ d2 b2 e _ GA2.out HC2.out GB2.out HD2.out he'.out).mono ?_
        rintro e5 w5 ⟨rfl, hD⟩
        have HB5 := Aside0.mk (HB.out.trans (hD.below.mono HB.out.size))
        have GA5 := Aside0.mk (Kd.C_below GA3.out hD.below)
        have GB5 := Aside0.mk (Kd.C_below GB3.out hD.below)
        obtain ⟨m, rfl⟩ := hD.out
        clear hD GA2 GB2 GA3 GB3 HB he'
        cases e with
        | false =>
          obtain rfl : false = r := by have := h'.out; simpa using this
          clear h'
          go_wp2
          go_ret
          exact ⟨rfl, HB5.out⟩
        | true =>
          by_cases hl : a3.length = b3.length
          · have h2 := Aside0.mk (show eqL (fun x y => codec_Same.f k x.f0 x.f1 x.f2 x.f3 y.f0 y.f1 y.f2 y.f3) a3 b3 = some r by have := h'.out; simpa [hl] using this)
            have hl' := Aside0.mk hl
            clear h' hl
            go_wp2_with fail
            refine (eqf_same2 k ih'.out a3 b3 hl'.out r h2.out _ _ _ _ _ GA5.out GB5.out).mono ?_
            rintro e6 w6 ⟨rfl, hB6⟩
            have HB6 := Aside0.mk (HB5.out.trans (hB6.mono HB5.out.size))
            clear hB6 HB5 GA5 GB5 h2 ih'
            go_wp2
            go_ret
            exact ⟨rfl, HB6.out⟩
          · obtain rfl : false = r := by have := h'.out; simpa [hl] using this
            have hl' := Aside0.mk hl
            clear h' hl
            go_wp2_with fail
            refine (eqf_ne a3.length b3.length hl'.out _ _ _ _ _).mono ?_
            rintro e6 w6 ⟨rfl, hB6⟩
            have HB6 := Aside0.mk (HB5.out.trans (hB6.mono HB5.out.size))
            clear hB6 HB5 GA5 GB5 ih'
            go_wp2
            go_ret
            exact ⟨rfl, HB6.out⟩
      · rw [if_neg h1] at h
        obtain rfl := Option.some.inj h
        subst h0
        have p1 : (a1 == b1) = false := beq_eq_false_iff_ne.2 h1
        clear h h1
        go_enter Try.func32, Try.ntmps32
        go_wp2
        go_ret
        exact ⟨rfl, HB.out⟩
    · rw [if_neg h0] at h
      obtain rfl := Option.some.inj h
      have p0 : (a0 == b0) = false := beq_eq_false_iff_ne.2 h0
      clear h h0
      go_enter Try.func32, Try.ntmps32
      go_wp2
      go_ret
      exact ⟨rfl, HB.out⟩
theorem codec_Same.calls (k : Nat) (a0_0 : Int) (a0_1 : Int) (A0_2 : Option Addr) (c0_2 : Nat) (l0_2 : List Int) (A0_3 : Option Addr) (c0_3 : Nat) (l0_3 : List S43) (a1_0 : Int) (a1_1 : Int) (A1_2 : Option Addr) (c1_2 : Nat) (l1_2 : List Int) (A1_3 : Option Addr) (c1_3 : Nat) (l1_3 : List S43) (r : Bool) (w : World) (hr0_2 : Kd.C (Kd.int .u8) w A0_2 l0_2.length l0_2) (hc0_2 : l0_2.length ≤ c0_2) (hr0_3 : Kd.C k43 w A0_3 l0_3.length l0_3) (hc0_3 : l0_3.length ≤ c0_3) (hr1_2 : Kd.C (Kd.int .u8) w A1_2 l1_2.length l1_2) (hc1_2 : l1_2.length ≤ c1_2) (hr1_3 : Kd.C k43 w A1_3 l1_3.length l1_3) (hc1_3 : l1_3.length ≤ c1_3)
    (h : codec_Same.f k a0_0 a0_1 l0_2 l0_3 a1_0 a1_1 l1_2 l1_3 = some r) :
    Calls Try.prog 32 #[.agg #[.int .i64 a0_0, .int .i64 a0_1, .slice A0_2 l0_2.length c0_2, .slice A0_3 l0_3.length c0_3], .agg #[.int .i64 a1_0, .int .i64 a1_1, .slice A1_2 l1_2.length c1_2, .slice A1_3 l1_3.length c1_3]] w fun e w' => e = .returned (.bool r) ∧ Below w.heap.size w w' :=
  same_any k a0_0 a0_1 l0_2 l0_3 a1_0 a1_1 l1_2 l1_3 r h w A0_2 c0_2 A0_3 c0_3 A1_2 c1_2 A1_3 c1_3 hr0_2 hc0_2 hr0_3 hc0_3 hr1_2 hc1_2 hr1_3 hc1_3


end Go.Proofs.Ytiibnfnjfmcggaa.PCodecFields
