-- Written by drive.py of this work: the kit's print.py with contracts of this work laid in.
import Derived.Test.YtiibnfnjfmcggaaDoorPCallReadsx0
import Derived.Test.YtiibnfnjfmcggaaDoorPCallReadsx4
import Derived.Test.YtiibnfnjfmcggaaDoorPCallReadsx16
namespace Go.Proofs.YtiibnfnjfmcggaaDoor.PCallReads
open Go.RowKit Go.Proofs.YtiibnfnjfmcggaaDoorW.PrintWords Go.Proofs.YtiibnfnjfmcggaaDoorW.PrintLast Go.Proofs.YtiibnfnjfmcggaaDoorW.PrintMore
attribute [local go_sem] max2_int min2_int max_two min_two max_three min_three max_four min_four   -- for this text's walks alone
set_option linter.unusedVariables false
set_option linter.unusedSimpArgs false

/-! ### codec_reader_value: function 38 -/
--ALONE
/-! ### codec.Decode by hand: a reader in memory (block rb), what it reads lies ahead of a world's end (w0) -/
def takeP (b : List Int) (e n : Int) : Option (List Int × List Int × Int) :=
  if e = 0 then (if n > b.length then some ([], b, 10) else if 0 ≤ n then some (b.take n.toNat, b.drop n.toNat, 0) else none) else some ([], b, e)
structure Rd (w0 w : World) (rb : Nat) (b : List Int) (e : Int) : Prop where
  own : w0.heap.size ≤ rb
  below : Below w0.heap.size w0 w
  blk : ∃ A c, w.heap[rb]? = some (.cells #[.slice A b.length c, .int .i64 e] 67 (0, 0)) ∧ Kd.C (Kd.int .u8) w0 A b.length b ∧ b.length ≤ c
theorem Rd.set {w0 w : World} {rb : Nat} {b : List Int} {e : Int} (h : Rd w0 w rb b e) (e' : Int) : Rd w0 (w.setCell ⟨rb, 1, none⟩ (.int .i64 e')) rb b e' := by
  obtain ⟨A, c, h1, h2, h3⟩ := h.blk
  exact ⟨h.own, h.below.setCell h.own _, A, c, blk_set h1 1 _, h2, h3⟩
theorem Rd.below' {w0 w w' : World} {rb : Nat} {b : List Int} {e : Int} (h : Rd w0 w rb b e) (hb : Below w.heap.size w w') : Rd w0 w' rb b e := by
  obtain ⟨A, c, h1, h2, h3⟩ := h.blk
  exact ⟨h.own, h.below.trans (hb.mono h.below.size), A, c, (hb.block rb (blk_lt h1)).trans h1, h2, h3⟩
theorem Rd.grown {w0 w w' : World} {rb g : Nat} {b : List Int} {e : Int} (h : Rd w0 w rb b e) (hg : w.grownBy w' (some g)) (hne : rb ≠ g) (hb : w0.heap.size ≤ g) : Rd w0 w' rb b e := by
  obtain ⟨A, c, h1, h2, h3⟩ := h.blk
  exact ⟨h.own, h.below.grown hg h.below.size (fun k hk => by cases hk; exact hb), A, c, (hg.block rb (blk_lt h1) (by simpa using hne)).trans h1, h2, h3⟩
theorem grown_set {w w' : World} {rb : Nat} (h : w.grownBy w' (some rb)) (i : Nat) (u : Value) : w.grownBy (w'.setCell ⟨rb, i, none⟩ u) (some rb) :=
  ⟨h.os, h.tape, h.output, by simpa using h.size, fun k hk hne => (Below.heap_setCell w' ⟨rb, i, none⟩ u k (by simpa using hne)).trans (h.block k hk hne)⟩
theorem grown_refl (w : World) (row : Option Nat) : w.grownBy w row := ⟨rfl, rfl, rfl, Nat.le_refl _, fun _ _ _ => rfl⟩
theorem grown_trans {a b c : World} {row : Option Nat} (h : a.grownBy b row) (k : b.grownBy c row) : a.grownBy c row :=
  ⟨k.os.trans h.os, k.tape.trans h.tape, k.output.trans h.output, Nat.le_trans h.size k.size, fun j hj hne => (k.block j (Nat.lt_of_lt_of_le hj h.size) hne).trans (h.block j hj hne)⟩
theorem grown_below {a b c : World} {row : Option Nat} (h : a.grownBy b row) (k : Below b.heap.size b c) : a.grownBy c row :=
  ⟨k.os.trans h.os, k.tape.trans h.tape, k.output.trans h.output, Nat.le_trans h.size k.size, fun j hj hne => (k.block j (Nat.lt_of_lt_of_le hj h.size)).trans (h.block j hj hne)⟩
def TakePost (w0 w : World) (rb : Nat) (o b' : List Int) (e' : Int) (en : Ending) (w' : World) : Prop :=
  ∃ A c, en = .returned (.slice A o.length c) ∧ Kd.C (Kd.int .u8) w0 A o.length o ∧ o.length ≤ c ∧ Rd w0 w' rb b' e' ∧ w.grownBy w' (some rb)
set_option maxHeartbeats 4000000 in
set_option maxRecDepth 100000 in
theorem take_calls (w0 w : World) (rb : Nat) (b : List Int) (e n : Int) (o b' : List Int) (e' : Int) (hR : Rd w0 w rb b e) (h : takeP b e n = some (o, b', e')) :
    Calls Tryd.prog 44 #[.pointer (some ⟨rb, 0, none⟩), .int .i64 n] w (TakePost w0 w rb o b' e') := by
  obtain ⟨A, c, hb, hC, hc⟩ := hR.blk
  have c0 : w.cell? ⟨rb, 0, none⟩ = some (.slice A b.length c) := (blk_cell hb 0).trans rfl
  have c1 : w.cell? ⟨rb, 1, none⟩ = some (.int .i64 e) := (blk_cell hb 1).trans rfl
  have f0 := blk_frozen hb 0
  have f1 := blk_frozen hb 1
  have R' := Aside0.mk hR
  have C' := Aside0.mk hC
  have B' := Aside0.mk hb
  have H := Aside0.mk hc
  unfold takeP at h
  clear hR hC hb hc
  by_cases he : e = 0
  · rw [if_pos he] at h
    subst he
    by_cases hn : n > b.length
    · rw [if_pos hn] at h
      simp only [Option.some.injEq, Prod.mk.injEq] at h
      obtain ⟨rfl, rfl, rfl⟩ := h
      have p1 : decide (n > (b.length : Int)) = true := decide_eq_true hn
      clear hn
      go_enter Tryd.func44, Tryd.ntmps44
      go_wp2
      go_ret
      exact ⟨none, 0, rfl, ⟨rfl, by decide, fun h => absurd h (by decide)⟩, Nat.le_refl _, R'.out.set 10, grown_set (grown_refl _ _) _ _⟩
    · rw [if_neg hn] at h
      by_cases h0 : 0 ≤ n
      · rw [if_pos h0] at h
        simp only [Option.some.injEq, Prod.mk.injEq] at h
        obtain ⟨rfl, rfl, rfl⟩ := h
        obtain ⟨m, rfl⟩ := Int.eq_ofNat_of_zero_le h0
        have hm : m ≤ b.length := by omega
        have p1 : decide ((m : Int) > (b.length : Int)) = false := decide_eq_false (by omega)
        have q1 : m ≤ c := by have := H.out; omega
        have hl : (b.take m).length = m := by rw [List.length_take]; omega
        have RD : Aside0 (∀ u : Value, u = .slice (if c = m then A else A.map (fun x => x.add m)) (b.length - m) (c - m) → Rd w0 (w.setCell ⟨rb, 0, none⟩ u) rb (b.drop m) 0) := by
          refine ⟨fun u hu => ?_⟩
          subst hu
          have hd := Kd.C_drop (m := m) C'.out hm H.out
          rw [show m * (Kd.int IntKind.u8).sz = m from Nat.mul_one m] at hd
          have e : (b.drop m).length = b.length - m := List.length_drop
          refine ⟨R'.out.own, R'.out.below.setCell R'.out.own _, _, c - m, ?_, hd, by rw [e]; have := H.out; omega⟩
          rw [e]
          exact blk_set B'.out 0 _
        have TC := Aside0.mk (Kd.C_take C'.out (m := m) hm)
        have hl' := Aside0.mk hl
        have p2 : (b.length < m) = False := eq_false (by omega)
        clear hn h0 hl R' C' B'
        go_enter Tryd.func44, Tryd.ntmps44
        go_wp2
        all_goals
          go_ret
          refine ⟨A, m, ?_, TC.out, Nat.le_of_eq hl'.out, RD.out _ ?_, grown_set (grown_refl _ _) _ _⟩
          · exact (congrArg (fun q => Ending.returned (.slice A q m)) hl'.out).symm
          · first | (simp; done) | (simp [*]; done)
      · rw [if_neg h0] at h
        cases h
  · rw [if_neg he] at h
    simp only [Option.some.injEq, Prod.mk.injEq] at h
    obtain ⟨rfl, rfl, rfl⟩ := h
    have p1 : (e == 0) = false := beq_eq_false_iff_ne.2 he
    clear he
    go_enter Tryd.func44, Tryd.ntmps44
    go_wp2
    go_ret
    exact ⟨none, 0, rfl, ⟨rfl, by decide, fun h => absurd h (by decide)⟩, Nat.le_refl _, R'.out, grown_refl _ _⟩
def failP (e : Int) : Int := if e = 0 then 11 else e
set_option maxHeartbeats 1000000 in
theorem fail_calls (w0 w : World) (rb : Nat) (b : List Int) (e : Int) (hR : Rd w0 w rb b e) :
    Calls Tryd.prog 48 #[.pointer (some ⟨rb, 0, none⟩)] w fun en w' => en = .returned (.tuple #[]) ∧ Rd w0 w' rb b (failP e) ∧ w.grownBy w' (some rb) := by
  obtain ⟨A, c, hb, hC, hc⟩ := hR.blk
  have c1 : w.cell? ⟨rb, 1, none⟩ = some (.int .i64 e) := (blk_cell hb 1).trans rfl
  have f1 := blk_frozen hb 1
  have R' := Aside0.mk hR
  clear hR hC hb hc
  by_cases he : e = 0
  · subst he
    go_enter Tryd.func48, Tryd.ntmps48
    go_wp2
    go_end0
    exact ⟨rfl, by rw [show failP 0 = 11 from rfl]; exact R'.out.set 11, grown_set (grown_refl _ _) _ _⟩
  · have p1 : (e == 0) = false := beq_eq_false_iff_ne.2 he
    have p2 : failP e = e := if_neg he
    clear he
    go_enter Tryd.func48, Tryd.ntmps48
    go_wp2
    go_end0
    exact ⟨rfl, by rw [p2]; exact R'.out, grown_refl _ _⟩
def countP (k : Nat) (b : List Int) (e s : Int) : Option (Int × List Int × Int) := (takeP b e s).bind fun t => (word_Get.f k t.1).bind fun g => some (g.1, t.2.1, t.2.2)
set_option maxHeartbeats 1000000 in
theorem count_calls (k : Nat) (w0 w : World) (rb : Nat) (b : List Int) (e s n : Int) (b' : List Int) (e' : Int) (hR : Rd w0 w rb b e) (h : countP k b e s = some (n, b', e')) :
    Calls Tryd.prog 47 #[.pointer (some ⟨rb, 0, none⟩), .int .i64 s] w fun en w' => en = .returned (.int .i64 n) ∧ Rd w0 w' rb b' e' ∧ w.grownBy w' (some rb) := by
  unfold countP at h
  obtain ⟨⟨o, b1, e1⟩, ht, h⟩ := Option.bind_eq_some_iff.1 h
  obtain ⟨⟨g, ge⟩, hg, h⟩ := Option.bind_eq_some_iff.1 h
  simp only [Option.some.injEq, Prod.mk.injEq] at h
  obtain ⟨rfl, rfl, rfl⟩ := h
  have R' := Aside0.mk hR
  have T' := Aside0.mk ht
  have G' := Aside0.mk hg
  clear hR ht hg
  go_enter Tryd.func47, Tryd.ntmps47
  go_wp2_with fail
  refine (take_calls w0 w rb b e s o b1 e1 R'.out T'.out).mono ?_
  rintro en w1 ⟨A1, cc1, rfl, hC1, hc1, hR1, hg1⟩
  have R1 := Aside0.mk hR1
  have C1 := Aside0.mk hC1
  have D1 := Aside0.mk hc1
  have G1 := Aside0.mk hg1
  clear hR1 hC1 hc1 hg1
  go_wp2_with fail
  refine (word_Get.calls k A1 cc1 o g ge w1 (Kd.C_below C1.out R1.out.below) D1.out G'.out).mono ?_
  rintro en w2 ⟨rfl, hD⟩
  have R2 := Aside0.mk (R1.out.below' hD.below)
  have G2 := Aside0.mk (grown_below G1.out hD.below)
  clear hD
  go_wp2
  go_ret
  exact ⟨rfl, R2.out, G2.out⟩
theorem dec_num (n : Int) (w : World) : Calls Tryd.prog 21 #[.int .i64 n] w fun e w' => e = .returned (.agg #[.int .i64 1, .int .i64 n, .slice none 0 0, .slice none 0 0]) ∧ Below w.heap.size w w' := by
  go_enter Tryd.func21, Tryd.ntmps21
  go_wp2
  refine bodyPost_ret (results_cell_row rfl _ _ w.heap.size 43 #[.int .i64 1, .int .i64 n, .slice none 0 0, .slice none 0 0] (0, 0) _ rfl (Array.getElem?_push_size) Tryd.underlying43 rfl (by kernel_rfl)) rfl ?_
  exact ⟨rfl, (Below.refl _ w).alloc (Nat.le_refl _) _⟩
theorem dec_raw (A : Option Addr) (n c : Nat) (w : World) : Calls Tryd.prog 23 #[.slice A n c] w fun e w' => e = .returned (.agg #[.int .i64 2, .int .i64 0, .slice A n c, .slice none 0 0]) ∧ Below w.heap.size w w' := by
  go_enter Tryd.func23, Tryd.ntmps23
  go_wp2
  refine bodyPost_ret (results_cell_row rfl _ _ w.heap.size 43 #[.int .i64 2, .int .i64 0, .slice A n c, .slice none 0 0] (0, 0) _ rfl (Array.getElem?_push_size) Tryd.underlying43 rfl (by kernel_rfl)) rfl ?_
  exact ⟨rfl, (Below.refl _ w).alloc (Nat.le_refl _) _⟩
theorem dec_of (w : World) : Calls Tryd.prog 20 #[.slice none 0 0] w fun e w' => e = .returned (.agg #[.int .i64 3, .int .i64 0, .slice none 0 0, .slice none 0 0]) ∧ Below w.heap.size w w' := by
  go_enter Tryd.func20, Tryd.ntmps20
  go_wp2
  refine bodyPost_ret (results_cell_row rfl _ _ w.heap.size 43 #[.int .i64 3, .int .i64 0, .slice none 0 0, .slice none 0 0] (0, 0) _ rfl (Array.getElem?_push_size) Tryd.underlying43 rfl (by kernel_rfl)) rfl ?_
  exact ⟨rfl, (Below.refl _ w).alloc (Nat.le_refl _) _⟩
def numberP (k : Nat) (b : List Int) (e : Int) : Option (Int × List Int × Int) :=
  (countP k b e 1).bind fun c => if c.1 > 8 then some (0, c.2.1, failP c.2.2) else (takeP c.2.1 c.2.2 c.1).bind fun t => if t.1.length = 0 then some (0, t.2.1, t.2.2) else
    (word_Get.f k t.1).bind fun g => some (g.1, t.2.1, if g.2 = 0 then (if rd t.1 0 = 0 then failP t.2.2 else t.2.2) else failP t.2.2)
theorem failP_ne (e : Int) : failP e ≠ 0 := by unfold failP; split <;> omega
def V4 (gb : Nat) (w : World) (u0 u1 u2 u3 : Value) : Prop := w.heap[gb]? = some (.cells #[u0, u1, u2, u3] 43 (0, 0))
theorem put4 {w : World} {gb : Nat} {u0 u1 u2 u3 : Value} (h : V4 gb w u0 u1 u2 u3) (v0 v1 v2 v3 : Value) : V4 gb ((((w.setCell ⟨gb, 0, none⟩ v0).setCell ⟨gb, 1, none⟩ v1).setCell ⟨gb, 2, none⟩ v2).setCell ⟨gb, 3, none⟩ v3) v0 v1 v2 v3 :=
  blk_set (blk_set (blk_set (blk_set h 0 v0) 1 v1) 2 v2) 3 v3
theorem put4_below {a w : World} {base gb : Nat} (h : Below base a w) (hg : base ≤ gb) (v0 v1 v2 v3 : Value) : Below base a ((((w.setCell ⟨gb, 0, none⟩ v0).setCell ⟨gb, 1, none⟩ v1).setCell ⟨gb, 2, none⟩ v2).setCell ⟨gb, 3, none⟩ v3) :=
  (((h.setCell hg v0).setCell hg v1).setCell hg v2).setCell hg v3
theorem Rd.far {w0 w : World} {rb g : Nat} {b : List Int} {e : Int} (h : Rd w0 w rb b e) (hg : w0.heap.size ≤ g) (hne : rb ≠ g) (i : Nat) (u : Value) : Rd w0 (w.setCell ⟨g, i, none⟩ u) rb b e := by
  obtain ⟨A, c, h1, h2, h3⟩ := h.blk
  exact ⟨h.own, h.below.setCell hg _, A, c, blk_far h1 hne _, h2, h3⟩
theorem grown_far {w w' : World} {row : Option Nat} {g : Nat} (h : w.grownBy w' row) (hg : w.heap.size ≤ g) (i : Nat) (u : Value) : w.grownBy (w'.setCell ⟨g, i, none⟩ u) row :=
  ⟨h.os, h.tape, h.output, by simpa using h.size, fun k hk hne => (Below.heap_setCell w' ⟨g, i, none⟩ u k (by simp only; omega)).trans (h.block k hk hne)⟩
theorem fin4 {w0 w w' : World} {rb gb : Nat} {b : List Int} {e : Int} (hR : Rd w0 w' rb b e) (hG : w.grownBy w' (some rb)) (hgb : w.heap.size ≤ gb) (h0 : w0.heap.size ≤ gb) (hne : rb ≠ gb) (v0 v1 v2 v3 : Value) :
    Rd w0 ((((w'.setCell ⟨gb, 0, none⟩ v0).setCell ⟨gb, 1, none⟩ v1).setCell ⟨gb, 2, none⟩ v2).setCell ⟨gb, 3, none⟩ v3) rb b e ∧ w.grownBy ((((w'.setCell ⟨gb, 0, none⟩ v0).setCell ⟨gb, 1, none⟩ v1).setCell ⟨gb, 2, none⟩ v2).setCell ⟨gb, 3, none⟩ v3) (some rb) :=
  ⟨(((hR.far h0 hne 0 v0).far h0 hne 1 v1).far h0 hne 2 v2).far h0 hne 3 v3, grown_far (grown_far (grown_far (grown_far hG hgb 0 v0) hgb 1 v1) hgb 2 v2) hgb 3 v3⟩
theorem v4_cells {gb : Nat} {w : World} {u0 u1 u2 u3 : Value} (h : V4 gb w u0 u1 u2 u3) : w.cell? ⟨gb, 0, none⟩ = some u0 ∧ w.cell? ⟨gb, 1, none⟩ = some u1 ∧ w.cell? ⟨gb, 2, none⟩ = some u2 ∧ w.cell? ⟨gb, 3, none⟩ = some u3 ∧ w.frozen? ⟨gb, 0, none⟩ = false ∧ w.frozen? ⟨gb, 1, none⟩ = false ∧ w.frozen? ⟨gb, 2, none⟩ = false ∧ w.frozen? ⟨gb, 3, none⟩ = false :=
  ⟨(blk_cell h 0).trans rfl, (blk_cell h 1).trans rfl, (blk_cell h 2).trans rfl, (blk_cell h 3).trans rfl, blk_frozen h 0, blk_frozen h 1, blk_frozen h 2, blk_frozen h 3⟩
theorem at_u8 {w : World} {A : Option Addr} {xs : List Int} (h : Kd.C (Kd.int .u8) w A xs.length xs) (hl : 0 < xs.length) : ∃ ad, A = some ad ∧ w.cell? ad = some (.int .u8 (rd xs 0)) := by
  obtain ⟨ad, c, e, _, hK, hc⟩ := Kd.C_get h 0 0 (by omega) (by omega)
  have hc0 := hc 0 (.int .u8 (xs.getD (0 : Int).toNat 0)) (by rw [show c = [Value.int .u8 (xs.getD (0 : Int).toNat 0)] from hK]; rfl)
  refine ⟨ad, e, ?_⟩
  rw [show ad.add ((0 : Int).toNat * (Kd.int IntKind.u8).sz + 0) = ad by simp [Addr.add]] at hc0
  exact hc0
theorem at_u8_at {w : World} {A : Option Addr} {xs : List Int} (h : Kd.C (Kd.int .u8) w A xs.length xs) (hl : 0 < xs.length) : ∃ ad, A = some ad ∧ w.cell? (ad.add 0) = some (.int .u8 (rd xs 0)) := by
  obtain ⟨ad, e, hc⟩ := at_u8 h hl
  exact ⟨ad, e, by rw [show ad.add 0 = ad by simp [Addr.add]]; exact hc⟩
def NumPost (w0 w : World) (rb : Nat) (n : Int) (b' : List Int) (e' : Int) (en : Ending) (w' : World) : Prop := en = .returned (.agg #[.int .i64 1, .int .i64 n, .slice none 0 0, .slice none 0 0]) ∧ Rd w0 w' rb b' e' ∧ w.grownBy w' (some rb)
set_option maxHeartbeats 4000000 in
set_option maxRecDepth 100000 in
theorem number_calls (k : Nat) (w0 w : World) (rb : Nat) (b : List Int) (e n : Int) (b' : List Int) (e' : Int) (hR : Rd w0 w rb b e) (h : numberP k b e = some (n, b', e')) :
    Calls Tryd.prog 45 #[.pointer (some ⟨rb, 0, none⟩)] w (NumPost w0 w rb n b' e') := by
  unfold numberP at h
  obtain ⟨⟨c, b1, e1⟩, hc, h⟩ := Option.bind_eq_some_iff.1 h
  simp only at h
  have hs := hR.below.size
  have hlt : rb < w.heap.size := by obtain ⟨A, c, h1, _⟩ := hR.blk; exact blk_lt h1
  have hne : rb ≠ w.heap.size := by omega
  have R' := Aside0.mk (hR.below' ((Below.refl w.heap.size w).alloc (Nat.le_refl _) (.cells #[.int .i64 0, .int .i64 0, .slice none 0 0, .slice none 0 0] 43)))
  have K0 := Aside0.mk (show V4 w.heap.size (w.alloc (.cells #[.int .i64 0, .int .i64 0, .slice none 0 0, .slice none 0 0] 43)) (.int .i64 0) (.int .i64 0) (.slice none 0 0) (.slice none 0 0) from Array.getElem?_push_size)
  have G0 := Aside0.mk (grown_below (grown_refl w (some rb)) ((Below.refl w.heap.size w).alloc (Nat.le_refl _) (.cells #[.int .i64 0, .int .i64 0, .slice none 0 0, .slice none 0 0] 43)))
  have C' := Aside0.mk hc
  have H' := Aside0.mk h
  clear hR hc h
  go_enter Tryd.func45, Tryd.ntmps45
  go_wp2_with fail
  refine (count_calls k w0 _ rb b e 1 c b1 e1 R'.out C'.out).mono ?_
  rintro en w1 ⟨rfl, hR1, hg1⟩
  have R1 := Aside0.mk hR1
  have G1 := Aside0.mk (grown_trans G0.out hg1)
  have K1 := Aside0.mk (show V4 w.heap.size w1 _ _ _ _ from blk_grown K0.out hg1 (by simpa using hne.symm))
  clear hR1 hg1 R' G0 K0 C'
  by_cases h8 : c > 8
  · have H1 := H'.out
    rw [if_pos h8] at H1
    simp only [Option.some.injEq, Prod.mk.injEq] at H1
    obtain ⟨rfl, rfl, rfl⟩ := H1
    have p1 : decide (c > 8) = true := decide_eq_true h8
    clear H' h8
    go_wp2_with fail
    refine (fail_calls w0 w1 rb b1 e1 R1.out).mono ?_
    rintro en w2 ⟨rfl, hR2, hg2⟩
    have R2 := Aside0.mk hR2
    have G2 := Aside0.mk (grown_trans G1.out hg2)
    have K2 := Aside0.mk (show V4 w.heap.size w2 _ _ _ _ from blk_grown K1.out hg2 (by simpa using hne.symm))
    clear hR2 hg2 R1 G1 K1
    go_wp2_with fail
    refine (take_calls w0 w2 rb b1 (failP e1) c [] b1 (failP e1) R2.out (by unfold takeP; rw [if_neg (failP_ne e1)])).mono ?_
    rintro en w3 ⟨A3, c3, rfl, _, _, hR3, hg3⟩
    have R3 := Aside0.mk hR3
    have G3 := Aside0.mk (grown_trans G2.out hg3)
    have K3 := Aside0.mk (show V4 w.heap.size w3 _ _ _ _ from blk_grown K2.out hg3 (by simpa using hne.symm))
    clear hR3 hg3 R2 G2 K2
    go_wp2_with fail
    refine (dec_num 0 w3).mono ?_
    rintro en wz ⟨rfl, hBz⟩
    have Rz := Aside0.mk (R3.out.below' hBz)
    have Gz := Aside0.mk (grown_below G3.out hBz)
    have Kz := Aside0.mk (show V4 w.heap.size wz _ _ _ _ from (hBz.block _ (blk_lt K3.out)).trans K3.out)
    obtain ⟨d0, d1, d2, d3, z0, z1, z2, z3⟩ := v4_cells Kz.out
    clear hBz R3 G3 K3
    go_wp2
    refine bodyPost_ret (results_cell_row rfl _ _ w.heap.size 43 #[.int .i64 1, .int .i64 (0), .slice none 0 0, .slice none 0 0] (0, 0) _ rfl (put4 Kz.out _ _ _ _) Tryd.underlying43 rfl (by kernel_rfl)) rfl ?_
    have hz := fin4 Rz.out Gz.out (Nat.le_refl _) hs hne (.int .i64 1) (.int .i64 (0)) (.slice none 0 0) (.slice none 0 0)
    exact ⟨rfl, hz.1, hz.2⟩
  · have H1 := H'.out
    rw [if_neg h8] at H1
    obtain ⟨⟨o, b2, e2⟩, ht, H1⟩ := Option.bind_eq_some_iff.1 H1
    simp only at H1
    have p1 : decide (c > 8) = false := decide_eq_false h8
    have T' := Aside0.mk ht
    have H2 := Aside0.mk H1
    clear H' h8 ht H1
    go_wp2_with fail
    refine (take_calls w0 w1 rb b1 e1 c o b2 e2 R1.out T'.out).mono ?_
    rintro en w3 ⟨A3, c3, rfl, hC3, hc3, hR3, hg3⟩
    have R3 := Aside0.mk hR3
    have C3 := Aside0.mk hC3
    have D3 := Aside0.mk hc3
    have G3 := Aside0.mk (grown_trans G1.out hg3)
    have K3 := Aside0.mk (show V4 w.heap.size w3 _ _ _ _ from blk_grown K1.out hg3 (by simpa using hne.symm))
    clear hR3 hg3 R1 G1 K1 hC3 hc3 T'
    by_cases h0 : o.length = 0
    · have H1 := H2.out
      rw [if_pos h0] at H1
      simp only [Option.some.injEq, Prod.mk.injEq] at H1
      obtain ⟨rfl, rfl, rfl⟩ := H1
      have p2 : ((o.length : Int) == 0) = true := beq_iff_eq.2 (by omega)
      have p3 : (o.length == 0) = true := beq_iff_eq.2 h0
      clear H2 C3 D3
      go_wp2_with fail
      refine (dec_num 0 w3).mono ?_
      rintro en wz ⟨rfl, hBz⟩
      have Rz := Aside0.mk (R3.out.below' hBz)
      have Gz := Aside0.mk (grown_below G3.out hBz)
      have Kz := Aside0.mk (show V4 w.heap.size wz _ _ _ _ from (hBz.block _ (blk_lt K3.out)).trans K3.out)
      obtain ⟨d0, d1, d2, d3, z0, z1, z2, z3⟩ := v4_cells Kz.out
      clear hBz R3 G3 K3
      go_wp2
      refine bodyPost_ret (results_cell_row rfl _ _ w.heap.size 43 #[.int .i64 1, .int .i64 (0), .slice none 0 0, .slice none 0 0] (0, 0) _ rfl (put4 Kz.out _ _ _ _) Tryd.underlying43 rfl (by kernel_rfl)) rfl ?_
      have hz := fin4 Rz.out Gz.out (Nat.le_refl _) hs hne (.int .i64 1) (.int .i64 (0)) (.slice none 0 0) (.slice none 0 0)
      exact ⟨rfl, hz.1, hz.2⟩
    · have H1 := H2.out
      rw [if_neg h0] at H1
      obtain ⟨⟨x, ge⟩, hg, H1⟩ := Option.bind_eq_some_iff.1 H1
      simp only [Option.some.injEq, Prod.mk.injEq] at H1
      obtain ⟨rfl, rfl, he'⟩ := H1
      have p2 : ((o.length : Int) == 0) = false := beq_eq_false_iff_ne.2 (by omega)
      have p3 : (o.length == 0) = false := beq_eq_false_iff_ne.2 h0
      have E' := Aside0.mk he'
      have W' := Aside0.mk hg
      have hpos : 0 < o.length := by omega
      clear H2 he' hg h0
      go_wp2_with fail
      refine (word_Get.calls k A3 c3 o x ge w3 (Kd.C_below C3.out R3.out.below) D3.out W'.out).mono ?_
      rintro en w4 ⟨rfl, hD⟩
      have R4 := Aside0.mk (R3.out.below' hD.below)
      have G4 := Aside0.mk (grown_below G3.out hD.below)
      have K4 := Aside0.mk (show V4 w.heap.size w4 _ _ _ _ from (hD.below.block _ (blk_lt K3.out)).trans K3.out)
      obtain ⟨ad, rfl, hcell⟩ := at_u8 (Kd.C_below C3.out R4.out.below) hpos
      clear hD R3 G3 K3 W' C3 D3
      by_cases hge : ge = 0
      · subst hge
        by_cases hz0 : rd o 0 = 0
        · have q1 : (rd o 0 == 0) = true := beq_iff_eq.2 hz0
          have e1 := E'.out
          rw [if_pos rfl, if_pos hz0] at e1
          subst e1
          clear hz0 E'
          go_wp2_with fail
          refine (fail_calls w0 w4 rb b2 e2 R4.out).mono ?_
          rintro en w5 ⟨rfl, hR5, hg5⟩
          have R5 := Aside0.mk hR5
          have G5 := Aside0.mk (grown_trans G4.out hg5)
          have K5 := Aside0.mk (show V4 w.heap.size w5 _ _ _ _ from blk_grown K4.out hg5 (by simpa using hne.symm))
          clear hR5 hg5 R4 G4 K4 hcell
          go_wp2_with fail
          refine (dec_num x w5).mono ?_
          rintro en wz ⟨rfl, hBz⟩
          have Rz := Aside0.mk (R5.out.below' hBz)
          have Gz := Aside0.mk (grown_below G5.out hBz)
          have Kz := Aside0.mk (show V4 w.heap.size wz _ _ _ _ from (hBz.block _ (blk_lt K5.out)).trans K5.out)
          obtain ⟨d0, d1, d2, d3, z0, z1, z2, z3⟩ := v4_cells Kz.out
          clear hBz R5 G5 K5
          go_wp2
          refine bodyPost_ret (results_cell_row rfl _ _ w.heap.size 43 #[.int .i64 1, .int .i64 (x), .slice none 0 0, .slice none 0 0] (0, 0) _ rfl (put4 Kz.out _ _ _ _) Tryd.underlying43 rfl (by kernel_rfl)) rfl ?_
          have hz := fin4 Rz.out Gz.out (Nat.le_refl _) hs hne (.int .i64 1) (.int .i64 (x)) (.slice none 0 0) (.slice none 0 0)
          exact ⟨rfl, hz.1, hz.2⟩
        · have q1 : (rd o 0 == 0) = false := beq_eq_false_iff_ne.2 hz0
          have e1 := E'.out
          rw [if_pos rfl, if_neg hz0] at e1
          subst e1
          clear hz0 E'
          go_wp2_with fail
          refine (dec_num x w4).mono ?_
          rintro en wz ⟨rfl, hBz⟩
          have Rz := Aside0.mk (R4.out.below' hBz)
          have Gz := Aside0.mk (grown_below G4.out hBz)
          have Kz := Aside0.mk (show V4 w.heap.size wz _ _ _ _ from (hBz.block _ (blk_lt K4.out)).trans K4.out)
          obtain ⟨d0, d1, d2, d3, z0, z1, z2, z3⟩ := v4_cells Kz.out
          clear hBz R4 G4 K4
          go_wp2
          refine bodyPost_ret (results_cell_row rfl _ _ w.heap.size 43 #[.int .i64 1, .int .i64 (x), .slice none 0 0, .slice none 0 0] (0, 0) _ rfl (put4 Kz.out _ _ _ _) Tryd.underlying43 rfl (by kernel_rfl)) rfl ?_
          have hz := fin4 Rz.out Gz.out (Nat.le_refl _) hs hne (.int .i64 1) (.int .i64 (x)) (.slice none 0 0) (.slice none 0 0)
          exact ⟨rfl, hz.1, hz.2⟩
      · have q1 : (ge == 0) = false := beq_eq_false_iff_ne.2 hge
        have q2 : (ge != 0) = true := by simp [hge]
        have e1 := E'.out
        rw [if_neg hge] at e1
        subst e1
        clear hge E'
        go_wp2_with fail
        refine (fail_calls w0 w4 rb b2 e2 R4.out).mono ?_
        rintro en w5 ⟨rfl, hR5, hg5⟩
        have R5 := Aside0.mk hR5
        have G5 := Aside0.mk (grown_trans G4.out hg5)
        have K5 := Aside0.mk (show V4 w.heap.size w5 _ _ _ _ from blk_grown K4.out hg5 (by simpa using hne.symm))
        clear hR5 hg5 R4 G4 K4 hcell
        go_wp2_with fail
        refine (dec_num x w5).mono ?_
        rintro en wz ⟨rfl, hBz⟩
        have Rz := Aside0.mk (R5.out.below' hBz)
        have Gz := Aside0.mk (grown_below G5.out hBz)
        have Kz := Aside0.mk (show V4 w.heap.size wz _ _ _ _ from (hBz.block _ (blk_lt K5.out)).trans K5.out)
        obtain ⟨d0, d1, d2, d3, z0, z1, z2, z3⟩ := v4_cells Kz.out
        clear hBz R5 G5 K5
        go_wp2
        refine bodyPost_ret (results_cell_row rfl _ _ w.heap.size 43 #[.int .i64 1, .int .i64 (x), .slice none 0 0, .slice none 0 0] (0, 0) _ rfl (put4 Kz.out _ _ _ _) Tryd.underlying43 rfl (by kernel_rfl)) rfl ?_
        have hz := fin4 Rz.out Gz.out (Nat.le_refl _) hs hne (.int .i64 1) (.int .i64 (x)) (.slice none 0 0) (.slice none 0 0)
        exact ⟨rfl, hz.1, hz.2⟩
def elemsP (g : List Int → Int → Option (S43 × List Int × Int)) : Nat → List S43 → List Int → Int → Option (List S43 × List Int × Int)
  | 0, acc, b, e => some (acc, b, e)
  | m + 1, acc, b, e => if e = 0 then (g b e).bind fun r => if acc.length < 1000000 then elemsP g m (acc ++ [r.1]) r.2.1 r.2.2 else none else some (acc, b, e)
def valueP : Nat → List Int → Int → Int → Option (S43 × List Int × Int)
  | 0, _, _, _ => none
  | k + 1, b, e, d => (takeP b e 1).bind fun t => if t.2.2 = 0 then
      (if wrap64 (rd t.1 0) = 1 then (numberP k t.2.1 t.2.2).bind fun r => some (⟨1, r.1, [], []⟩, r.2.1, r.2.2)
      else if wrap64 (rd t.1 0) = 2 then (countP k t.2.1 t.2.2 3).bind fun c => (takeP c.2.1 c.2.2 c.1).bind fun u => if u.1.length ≤ 140737488355328 then some (⟨2, 0, u.1, []⟩, u.2.1, u.2.2) else none
      else if wrap64 (rd t.1 0) = 3 then (countP k t.2.1 t.2.2 2).bind fun c => (elemsP (fun b e => valueP k b e (wrap64 (d - 1))) c.1.toNat [] c.2.1 (if c.1 > 4096 then failP c.2.2 else if d = 0 then failP c.2.2 else c.2.2)).bind fun r => some (⟨3, 0, [], r.1⟩, r.2.1, r.2.2)
      else some (⟨0, 0, [], []⟩, t.2.1, failP t.2.2))
    else some (⟨0, 0, [], []⟩, t.2.1, t.2.2)
def ValPost (w0 w : World) (rb : Nat) (v : S43) (b' : List Int) (e' : Int) (en : Ending) (w' : World) : Prop :=
  ∃ v2 v3 : Value, en = .returned (.agg #[.int .i64 v.f0, .int .i64 v.f1, v2, v3]) ∧ Kd.R (Kd.int .u8) 5 w' w0.heap.size (fun k => w.heap.size ≤ k) v2 v.f2 ∧ Kd.R k43 43 w' w0.heap.size (fun k => w.heap.size ≤ k) v3 v.f3 ∧ (v2 = .slice none 0 0 ∨ v3 = .slice none 0 0) ∧ Rd w0 w' rb b' e' ∧ w.grownBy w' (some rb)
def ValAt (w0 : World) (rb k : Nat) : Prop := ∀ (w : World) (b : List Int) (e d : Int) (v : S43) (b' : List Int) (e' : Int), Rd w0 w rb b e → valueP k b e d = some (v, b', e') →
  Calls Tryd.prog 38 #[.pointer (some ⟨rb, 0, none⟩), .int .i64 d] w (ValPost w0 w rb v b' e')
/- word_turned_byte.calls -/
theorem clone_any (A : Option Addr) (c : Nat) (l : List Int) (w : World) (hm : l.length ≤ 140737488355328) (hC : Kd.C (Kd.int .u8) w A l.length l) (base : Nat) (hb : base ≤ w.heap.size) :
    Calls Tryd.prog 46 #[.slice A l.length c] w fun e w' => ∃ v', e = .returned v' ∧ Kd.R (Kd.int .u8) 5 w' base (fun k => w.heap.size ≤ k) v' l ∧ Below w.heap.size w w' := by
  cases A with
  | none =>
    have h0 : l = [] := by
      obtain ⟨_, _, h3⟩ := hC
      by_cases hz : 0 < l.length
      · obtain ⟨ad, e1, _⟩ := h3 hz
        cases e1
      · exact List.eq_nil_of_length_eq_zero (by omega)
    subst h0
    refine (clone80_nil _ _ _).mono ?_
    rintro e w1 ⟨rfl, rfl⟩
    exact ⟨_, rfl, Kd.R_nil _ _ _ _ _, Below.refl _ _⟩
  | some ad =>
    refine (clone80 ad _ l _ hm hC).mono ?_
    rintro e w1 ⟨v', rfl, hown, hne, hb1⟩
    exact ⟨v', rfl, Kd.R_lower (Kd.R_mono (Kd.R_bound (R_of_own_u8 hown)) (fun k hk => hk.2.1)) hb, hb1⟩
theorem Rd.c1 {w0 w : World} {rb : Nat} {b : List Int} {e : Int} (h : Rd w0 w rb b e) : w.cell? ⟨rb, 1, none⟩ = some (.int .i64 e) := by
  obtain ⟨A, c, h1, _⟩ := h.blk
  exact (blk_cell h1 1).trans rfl
theorem v4_below {gb : Nat} {w w' : World} {u0 u1 u2 u3 : Value} (h : V4 gb w u0 u1 u2 u3) (hb : Below w.heap.size w w') : V4 gb w' u0 u1 u2 u3 := (hb.block _ (blk_lt h)).trans h
theorem v4_grown {gb rb : Nat} {w w' : World} {u0 u1 u2 u3 : Value} (h : V4 gb w u0 u1 u2 u3) (hg : w.grownBy w' (some rb)) (hne : rb ≠ gb) : V4 gb w' u0 u1 u2 u3 := blk_grown h hg (by simpa using hne.symm)
theorem len64 {n : Nat} (h : n < 1000000) : (n + 1) * 64 ≤ 140737488355328 := by omega
theorem grown_off {a b c : World} {row row' : Option Nat} (h : a.grownBy b row) (k : b.grownBy c row') (hr : ∀ j, row' = some j → a.heap.size ≤ j) : a.grownBy c row :=
  ⟨k.os.trans h.os, k.tape.trans h.tape, k.output.trans h.output, Nat.le_trans h.size k.size, fun j hj hne => (k.block j (Nat.lt_of_lt_of_le hj h.size) (fun e => by have := hr j e.symm; omega)).trans (h.block j hj hne)⟩
theorem grown_drew {a b : World} {row : Option Nat} (h : a.grownBy b row) : a.grownBy b.drew row := ⟨h.os, h.tape, h.output, h.size, h.block⟩
theorem Rd.grownO {w0 w w' : World} {rb : Nat} {row : Option Nat} {b : List Int} {e : Int} (h : Rd w0 w rb b e) (hg : w.grownBy w' row) (hr : ∀ k, row = some k → rb ≠ k ∧ w0.heap.size ≤ k) : Rd w0 w' rb b e := by
  obtain ⟨A, c, h1, h2, h3⟩ := h.blk
  exact ⟨h.own, h.below.grown hg h.below.size (fun k hk => (hr k hk).2), A, c, (hg.block rb (blk_lt h1) (fun e => (hr rb e.symm).1 rfl)).trans h1, h2, h3⟩
theorem far4 {α : Type} {dd : Kd α} {e : Nat} {w : World} {base gb : Nat} {ok : Nat → Prop} {v : Value} {xs : List α} (h : dd.R e w base ok v xs) (hok : ∀ k, ok k → k ≠ gb) (v0 v1 v2 v3 : Value) : dd.R e ((((w.setCell ⟨gb, 0, none⟩ v0).setCell ⟨gb, 1, none⟩ v1).setCell ⟨gb, 2, none⟩ v2).setCell ⟨gb, 3, none⟩ v3) base ok v xs :=
  Kd.R_far (Kd.R_far (Kd.R_far (Kd.R_far h (p := ⟨gb, 0, none⟩) hok v0) (p := ⟨gb, 1, none⟩) hok v1) (p := ⟨gb, 2, none⟩) hok v2) (p := ⟨gb, 3, none⟩) hok v3
set_option maxHeartbeats 8000000 in
set_option maxRecDepth 100000 in
theorem value_any (w0 : World) (rb : Nat) : ∀ k, ValAt w0 rb k := by
  intro k
  induction k with
  | zero => intro w b e d v b' e' _ h; simp [valueP] at h
  | succ k ih =>
  intro w b e d v b' e' hR h
  rw [valueP] at h
  obtain ⟨⟨o, b1, e1⟩, ht, h⟩ := Option.bind_eq_some_iff.1 h
  simp only at h
  have hs := hR.below.size
  have hlt : rb < w.heap.size := by obtain ⟨A, c, h1, _⟩ := hR.blk; exact blk_lt h1
  have hne : rb ≠ w.heap.size := by omega
  have R' := Aside0.mk (hR.below' ((Below.refl w.heap.size w).alloc (Nat.le_refl _) (.cells #[.int .i64 0, .int .i64 0, .slice none 0 0, .slice none 0 0] 43)))
  have K0 := Aside0.mk (show V4 w.heap.size (w.alloc (.cells #[.int .i64 0, .int .i64 0, .slice none 0 0, .slice none 0 0] 43)) (.int .i64 0) (.int .i64 0) (.slice none 0 0) (.slice none 0 0) from Array.getElem?_push_size)
  have G0 := Aside0.mk (grown_below (grown_refl w (some rb)) ((Below.refl w.heap.size w).alloc (Nat.le_refl _) (.cells #[.int .i64 0, .int .i64 0, .slice none 0 0, .slice none 0 0] 43)))
  have hpos : e1 = 0 → 0 < o.length := by
    intro he
    unfold takeP at ht
    split at ht
    · split at ht
      · cases ht; cases he
      · rename_i _ hn
        rw [if_pos (by decide)] at ht
        cases ht
        rw [List.length_take, show (1 : Int).toNat = 1 from rfl]
        omega
    · rename_i hne'
      cases ht
      exact absurd he hne'
  have hpos' := Aside0.mk hpos
  have ih' := Aside0.mk ih
  have C' := Aside0.mk ht
  have H' := Aside0.mk h
  clear hR ht h ih hpos
  go_enter Tryd.func38, Tryd.ntmps38
  go_wp2_with fail
  refine (take_calls w0 _ rb b e 1 o b1 e1 R'.out C'.out).mono ?_
  rintro en w1 ⟨A1, c1, rfl, hC1, hc1, hR1, hg1⟩
  have R1 := Aside0.mk hR1
  have C1 := Aside0.mk hC1
  have D1 := Aside0.mk hc1
  have G1 := Aside0.mk (grown_trans G0.out hg1)
  have K1 := Aside0.mk (v4_grown K0.out hg1 hne)
  have s1 := hR1.c1
  obtain ⟨d0, d1, d2, d3, z0, z1, z2, z3⟩ := v4_cells K1.out
  clear hR1 hg1 R' G0 K0 C' hC1 hc1
  by_cases he1 : e1 = 0
  · subst he1
    have H1 := H'.out
    rw [if_pos rfl] at H1
    have hp := hpos'.out rfl
    obtain ⟨ad, rfl, hcell⟩ := at_u8 (Kd.C_below C1.out R1.out.below) hp
    have P' := Aside0.mk hp
    by_cases hk1 : wrap64 (rd o 0) = 1
    · rw [if_pos hk1] at H1
      obtain ⟨⟨x, b2, e2⟩, hn, H1⟩ := Option.bind_eq_some_iff.1 H1
      simp only [Option.some.injEq, Prod.mk.injEq] at H1
      obtain ⟨rfl, rfl, rfl⟩ := H1
      have N' := Aside0.mk hn
      have q1 : (wrap64 (rd o 0) == 1) = true := beq_iff_eq.2 hk1
      clear H' hn
      go_wp2_with fail
      refine (number_calls k w0 w1 rb b1 0 x b2 e2 R1.out N'.out).mono ?_
      rintro en w2 ⟨rfl, hR2, hg2⟩
      have R2 := Aside0.mk hR2
      have G2 := Aside0.mk (grown_trans G1.out hg2)
      have K2 := Aside0.mk (v4_grown K1.out hg2 hne)
      clear hR2 hg2 R1 G1 K1 d0 d1 d2 d3 z0 z1 z2 z3 s1 hcell
      obtain ⟨d0, d1, d2, d3, z0, z1, z2, z3⟩ := v4_cells K2.out
      go_wp2
      refine bodyPost_ret (results_cell_row rfl _ _ w.heap.size 43 #[.int .i64 1, .int .i64 x, .slice none 0 0, .slice none 0 0] (0, 0) _ rfl (put4 K2.out _ _ _ _) Tryd.underlying43 rfl (by kernel_rfl)) rfl ?_
      have hz := fin4 R2.out G2.out (Nat.le_refl _) hs hne (.int .i64 1) (.int .i64 x) (.slice none 0 0) (.slice none 0 0)
      exact ⟨_, _, rfl, Kd.R_nil _ _ _ _ _, Kd.R_nil _ _ _ _ _, .inl rfl, hz.1, hz.2⟩
    · rw [if_neg hk1] at H1
      have q1 : (wrap64 (rd o 0) == 1) = false := beq_eq_false_iff_ne.2 hk1
      by_cases hk2 : wrap64 (rd o 0) = 2
      · rw [if_pos hk2] at H1
        obtain ⟨⟨c, b2, e2⟩, hn, H1⟩ := Option.bind_eq_some_iff.1 H1
        obtain ⟨⟨o3, b3, e3⟩, ht3, H1⟩ := Option.bind_eq_some_iff.1 H1
        simp only at H1 ht3
        by_cases hl : o3.length ≤ 140737488355328
        · rw [if_pos hl] at H1
          simp only [Option.some.injEq, Prod.mk.injEq] at H1
          obtain ⟨rfl, rfl, rfl⟩ := H1
          have N' := Aside0.mk hn
          have T' := Aside0.mk ht3
          have L' := Aside0.mk hl
          have q2 : (wrap64 (rd o 0) == 2) = true := beq_iff_eq.2 hk2
          clear H' hn ht3 hl
          go_wp2_with fail
          refine (count_calls k w0 w1 rb b1 0 3 c b2 e2 R1.out N'.out).mono ?_
          rintro en w2 ⟨rfl, hR2, hg2⟩
          have R2 := Aside0.mk hR2
          have G2 := Aside0.mk (grown_trans G1.out hg2)
          have K2 := Aside0.mk (v4_grown K1.out hg2 hne)
          clear hR2 hg2 R1 G1 K1 d0 d1 d2 d3 z0 z1 z2 z3 s1 hcell
          go_wp2_with fail
          refine (take_calls w0 w2 rb b2 e2 c o3 b3 e3 R2.out T'.out).mono ?_
          rintro en w3 ⟨A3, c3, rfl, hC3, hc3, hR3, hg3⟩
          have R3 := Aside0.mk hR3
          have C3 := Aside0.mk hC3
          have G3 := Aside0.mk (grown_trans G2.out hg3)
          have K3 := Aside0.mk (v4_grown K2.out hg3 hne)
          clear hR3 hg3 R2 G2 K2 hC3 hc3
          go_wp2_with fail
          refine (clone_any A3 c3 o3 w3 L'.out (Kd.C_below C3.out R3.out.below) w0.heap.size R3.out.below.size).mono ?_
          rintro en w4 ⟨v', rfl, hv', hb4⟩
          have R4 := Aside0.mk (R3.out.below' hb4)
          have G4 := Aside0.mk (grown_below G3.out hb4)
          have K4 := Aside0.mk (v4_below K3.out hb4)
          have V4' := Aside0.mk (Kd.R_mono hv' (fun k hk => Nat.lt_of_lt_of_le (blk_lt K3.out) hk) : Kd.R (Kd.int .u8) 5 w4 w0.heap.size (fun k => w.heap.size < k) v' o3)
          obtain ⟨A4, c4, rfl⟩ := Kd.R_slice hv'
          clear hv' hb4 R3 G3 K3
          go_wp2_with fail
          refine (dec_raw A4 o3.length c4 w4).mono ?_
          rintro en w5 ⟨rfl, hb5⟩
          have R5 := Aside0.mk (R4.out.below' hb5)
          have G5 := Aside0.mk (grown_below G4.out hb5)
          have K5 := Aside0.mk (v4_below K4.out hb5)
          have V5 := Aside0.mk (Kd.R_below V4'.out hb5)
          clear hb5 R4 G4 K4 V4'
          obtain ⟨d0, d1, d2, d3, z0, z1, z2, z3⟩ := v4_cells K5.out
          go_wp2
          refine bodyPost_ret (results_cell_row rfl _ _ w.heap.size 43 #[.int .i64 2, .int .i64 0, .slice A4 o3.length c4, .slice none 0 0] (0, 0) _ rfl (put4 K5.out _ _ _ _) Tryd.underlying43 rfl (by kernel_rfl)) rfl ?_
          have hz := fin4 R5.out G5.out (Nat.le_refl _) hs hne (.int .i64 2) (.int .i64 0) (.slice A4 o3.length c4) (.slice none 0 0)
          exact ⟨_, _, rfl, Kd.R_mono (far4 V5.out (fun k hk => by omega) _ _ _ _) (fun k hk => Nat.le_of_lt hk), Kd.R_nil _ _ _ _ _, .inr rfl, hz.1, hz.2⟩
        · rw [if_neg hl] at H1
          cases H1
      · rw [if_neg hk2] at H1
        have q2 : (wrap64 (rd o 0) == 2) = false := beq_eq_false_iff_ne.2 hk2
        by_cases hk3 : wrap64 (rd o 0) = 3
        · rw [if_pos hk3] at H1
          have q3 : (wrap64 (rd o 0) == 3) = true := beq_iff_eq.2 hk3
          obtain ⟨⟨c, b2, e2⟩, hn, H1⟩ := Option.bind_eq_some_iff.1 H1
          obtain ⟨⟨l, b4, e4⟩, hel, H1⟩ := Option.bind_eq_some_iff.1 H1
          simp only [Option.some.injEq, Prod.mk.injEq] at H1
          obtain ⟨rfl, rfl, rfl⟩ := H1
          have N' := Aside0.mk hn
          have E' := Aside0.mk hel
          clear H' hn hel hk1 hk2 hk3
          go_wp2_with fail
          refine (count_calls k w0 w1 rb b1 0 2 c b2 e2 R1.out N'.out).mono ?_
          rintro en w2 ⟨rfl, hR2, hg2⟩
          have R2 := Aside0.mk hR2
          have G2 := Aside0.mk (grown_trans G1.out hg2)
          have K2 := Aside0.mk (v4_grown K1.out hg2 hne)
          clear hR2 hg2 R1 G1 K1 d0 d1 d2 d3 z0 z1 z2 z3 s1 hcell
          by_cases h4 : c > 4096
          · have EL := Aside0.mk (show elemsP (fun b e => valueP k b e (wrap64 (d - 1))) c.toNat [] b2 (failP e2) = some (l, b4, e4) by have := E'.out; rwa [if_pos h4] at this)
            have p1 : decide (c > 4096) = true := decide_eq_true h4
            clear E' h4
            go_wp2_with fail
            refine (fail_calls w0 w2 rb b2 e2 R2.out).mono ?_
            rintro en w3 ⟨rfl, hR3, hg3⟩
            have R3 := Aside0.mk hR3
            have G3 := Aside0.mk (grown_trans G2.out hg3)
            have K3 := Aside0.mk (v4_grown K2.out hg3 hne)
            clear hR3 hg3 R2 G2 K2
            go_wp2_with fail
            refine (dec_of w3).mono ?_
            rintro en w5 ⟨rfl, hb5⟩
            have hB6 := (Below.refl w5.heap.size w5).alloc (Nat.le_refl _) (.cells #[.int .i64 3, .int .i64 0, .slice none 0 0, .slice none 0 0] 43)
            have R5 := Aside0.mk ((R3.out.below' hb5).below' hB6)
            have G5 := Aside0.mk (grown_below (grown_below G3.out hb5) hB6)
            have K5 := Aside0.mk (v4_below (v4_below K3.out hb5) hB6)
            have hg7 : w.heap.size < w5.heap.size := blk_lt (v4_below K3.out hb5)
            have Q5 := Aside0.mk (show V4 w5.heap.size (w5.alloc (.cells #[.int .i64 3, .int .i64 0, .slice none 0 0, .slice none 0 0] 43)) (.int .i64 3) (.int .i64 0) (.slice none 0 0) (.slice none 0 0) from Array.getElem?_push_size)
            have t2 : (failP e2 == 0) = false := beq_eq_false_iff_ne.2 (failP_ne e2)
            obtain ⟨rfl, rfl, rfl⟩ : l = [] ∧ b2 = b4 ∧ e4 = failP e2 := by
              have HA1 := EL.out
              cases hcn : c.toNat with
              | zero => rw [hcn, elemsP] at HA1; cases HA1; exact ⟨rfl, rfl, rfl⟩
              | succ q' => rw [hcn, elemsP, if_neg (failP_ne e2)] at HA1; cases HA1; exact ⟨rfl, rfl, rfl⟩
            clear hb5 hB6 R3 G3 K3 EL
            go_wp2_with fail
            go_loopg [8] 1 (fun _ v8 wr => v8 = .int .i64 0 ∧ Aside0 (Rd w0 wr rb b2 (failP e2)) ∧ Aside0 (w.grownBy wr (some rb)) ∧ Aside0 (V4 w.heap.size wr (.int .i64 0) (.int .i64 0) (.slice none 0 0) (.slice none 0 0)) ∧ Aside0 (V4 w5.heap.size wr (.int .i64 3) (.int .i64 0) (.slice none 0 0) (.slice none 0 0)))
            case atStart => exact ⟨rfl, R5, G5, K5, Q5⟩
            case round =>
              obtain ⟨rfl, R6, G6, K6, Q6⟩ := hrel
              have s1 := R6.out.c1
              obtain ⟨m0, m1, m2, m3, y0, y1, y2, y3⟩ := v4_cells Q6.out
              obtain ⟨d0, d1, d2, d3, z0, z1, z2, z3⟩ := v4_cells K6.out
              clear R5 G5 K5 Q5
              cases hj : decide ((0 : Int) < c) with
              | true =>
                go_wp2
                refine bodyPost_ret (results_cell_row rfl _ _ w.heap.size 43 #[.int .i64 3, .int .i64 0, .slice none 0 0, .slice none 0 0] (0, 0) _ rfl (put4 K6.out _ _ _ _) Tryd.underlying43 rfl (by kernel_rfl)) rfl ?_
                have hz := fin4 R6.out G6.out (Nat.le_refl _) hs hne (.int .i64 3) (.int .i64 0) (.slice none 0 0) (.slice none 0 0)
                exact ⟨_, _, rfl, Kd.R_nil _ _ _ _ _, Kd.R_nil _ _ _ _ _, .inl rfl, hz.1, hz.2⟩
              | false =>
                go_wp2
                refine bodyPost_ret (results_cell_row rfl _ _ w.heap.size 43 #[.int .i64 3, .int .i64 0, .slice none 0 0, .slice none 0 0] (0, 0) _ rfl (put4 K6.out _ _ _ _) Tryd.underlying43 rfl (by kernel_rfl)) rfl ?_
                have hz := fin4 R6.out G6.out (Nat.le_refl _) hs hne (.int .i64 3) (.int .i64 0) (.slice none 0 0) (.slice none 0 0)
                exact ⟨_, _, rfl, Kd.R_nil _ _ _ _ _, Kd.R_nil _ _ _ _ _, .inl rfl, hz.1, hz.2⟩
          · by_cases hd : d = 0
            · have EL := Aside0.mk (show elemsP (fun b e => valueP k b e (wrap64 (d - 1))) c.toNat [] b2 (failP e2) = some (l, b4, e4) by have := E'.out; rwa [if_neg h4, if_pos hd] at this)
              have p1 : decide (c > 4096) = false := decide_eq_false h4
              have p2 : (d == 0) = true := beq_iff_eq.2 hd
              clear E' h4 hd
              go_wp2_with fail
              refine (fail_calls w0 w2 rb b2 e2 R2.out).mono ?_
              rintro en w3 ⟨rfl, hR3, hg3⟩
              have R3 := Aside0.mk hR3
              have G3 := Aside0.mk (grown_trans G2.out hg3)
              have K3 := Aside0.mk (v4_grown K2.out hg3 hne)
              clear hR3 hg3 R2 G2 K2
              go_wp2_with fail
              refine (dec_of w3).mono ?_
              rintro en w5 ⟨rfl, hb5⟩
              have hB6 := (Below.refl w5.heap.size w5).alloc (Nat.le_refl _) (.cells #[.int .i64 3, .int .i64 0, .slice none 0 0, .slice none 0 0] 43)
              have R5 := Aside0.mk ((R3.out.below' hb5).below' hB6)
              have G5 := Aside0.mk (grown_below (grown_below G3.out hb5) hB6)
              have K5 := Aside0.mk (v4_below (v4_below K3.out hb5) hB6)
              have hg7 : w.heap.size < w5.heap.size := blk_lt (v4_below K3.out hb5)
              have Q5 := Aside0.mk (show V4 w5.heap.size (w5.alloc (.cells #[.int .i64 3, .int .i64 0, .slice none 0 0, .slice none 0 0] 43)) (.int .i64 3) (.int .i64 0) (.slice none 0 0) (.slice none 0 0) from Array.getElem?_push_size)
              have t2 : (failP e2 == 0) = false := beq_eq_false_iff_ne.2 (failP_ne e2)
              obtain ⟨rfl, rfl, rfl⟩ : l = [] ∧ b2 = b4 ∧ e4 = failP e2 := by
                have HA1 := EL.out
                cases hcn : c.toNat with
                | zero => rw [hcn, elemsP] at HA1; cases HA1; exact ⟨rfl, rfl, rfl⟩
                | succ q' => rw [hcn, elemsP, if_neg (failP_ne e2)] at HA1; cases HA1; exact ⟨rfl, rfl, rfl⟩
              clear hb5 hB6 R3 G3 K3 EL
              go_wp2_with fail
              go_loopg [8] 1 (fun _ v8 wr => v8 = .int .i64 0 ∧ Aside0 (Rd w0 wr rb b2 (failP e2)) ∧ Aside0 (w.grownBy wr (some rb)) ∧ Aside0 (V4 w.heap.size wr (.int .i64 0) (.int .i64 0) (.slice none 0 0) (.slice none 0 0)) ∧ Aside0 (V4 w5.heap.size wr (.int .i64 3) (.int .i64 0) (.slice none 0 0) (.slice none 0 0)))
              case atStart => exact ⟨rfl, R5, G5, K5, Q5⟩
              case round =>
                obtain ⟨rfl, R6, G6, K6, Q6⟩ := hrel
                have s1 := R6.out.c1
                obtain ⟨m0, m1, m2, m3, y0, y1, y2, y3⟩ := v4_cells Q6.out
                obtain ⟨d0, d1, d2, d3, z0, z1, z2, z3⟩ := v4_cells K6.out
                clear R5 G5 K5 Q5
                cases hj : decide ((0 : Int) < c) with
                | true =>
                  go_wp2
                  refine bodyPost_ret (results_cell_row rfl _ _ w.heap.size 43 #[.int .i64 3, .int .i64 0, .slice none 0 0, .slice none 0 0] (0, 0) _ rfl (put4 K6.out _ _ _ _) Tryd.underlying43 rfl (by kernel_rfl)) rfl ?_
                  have hz := fin4 R6.out G6.out (Nat.le_refl _) hs hne (.int .i64 3) (.int .i64 0) (.slice none 0 0) (.slice none 0 0)
                  exact ⟨_, _, rfl, Kd.R_nil _ _ _ _ _, Kd.R_nil _ _ _ _ _, .inl rfl, hz.1, hz.2⟩
                | false =>
                  go_wp2
                  refine bodyPost_ret (results_cell_row rfl _ _ w.heap.size 43 #[.int .i64 3, .int .i64 0, .slice none 0 0, .slice none 0 0] (0, 0) _ rfl (put4 K6.out _ _ _ _) Tryd.underlying43 rfl (by kernel_rfl)) rfl ?_
                  have hz := fin4 R6.out G6.out (Nat.le_refl _) hs hne (.int .i64 3) (.int .i64 0) (.slice none 0 0) (.slice none 0 0)
                  exact ⟨_, _, rfl, Kd.R_nil _ _ _ _ _, Kd.R_nil _ _ _ _ _, .inl rfl, hz.1, hz.2⟩
            · have EL := Aside0.mk (show elemsP (fun b e => valueP k b e (wrap64 (d - 1))) c.toNat [] b2 e2 = some (l, b4, e4) by have := E'.out; rwa [if_neg h4, if_neg hd] at this)
              have p1 : decide (c > 4096) = false := decide_eq_false h4
              have p2 : (d == 0) = false := beq_eq_false_iff_ne.2 hd
              have hc4 : c ≤ 4096 := by omega
              clear E' h4 hd
              go_wp2_with fail
              refine (dec_of w2).mono ?_
              rintro en w5 ⟨rfl, hb5⟩
              have hB6 := (Below.refl w5.heap.size w5).alloc (Nat.le_refl _) (.cells #[.int .i64 3, .int .i64 0, .slice none 0 0, .slice none 0 0] 43)
              have R5 := Aside0.mk ((R2.out.below' hb5).below' hB6)
              have G5 := Aside0.mk (grown_below (grown_below G2.out hb5) hB6)
              have K5 := Aside0.mk (v4_below (v4_below K2.out hb5) hB6)
              have hg7 : w.heap.size < w5.heap.size := blk_lt (v4_below K2.out hb5)
              have h7 : rb ≠ w5.heap.size := by omega
              have h07 : w0.heap.size ≤ w5.heap.size := by omega
              have Q5 := Aside0.mk (show V4 w5.heap.size (w5.alloc (.cells #[.int .i64 3, .int .i64 0, .slice none 0 0, .slice none 0 0] 43)) (.int .i64 3) (.int .i64 0) (.slice none 0 0) (.slice none 0 0) from Array.getElem?_push_size)
              clear hb5 hB6 R2 G2 K2
              go_wp2_with fail
              go_loopg [8] c.toNat (fun q v8 wr => ∃ (j : Nat) (acc : List S43) (bb : List Int) (ee : Int) (vL : Value), v8 = .int .i64 (j : Int) ∧ j + q = c.toNat ∧ Aside0 (elemsP (fun b e => valueP k b e (wrap64 (d - 1))) q acc bb ee = some (l, b4, e4)) ∧ Aside0 (Rd w0 wr rb bb ee) ∧ Aside0 (w.grownBy wr (some rb)) ∧ Aside0 (V4 w.heap.size wr (.int .i64 0) (.int .i64 0) (.slice none 0 0) (.slice none 0 0)) ∧ Aside0 (V4 w5.heap.size wr (.int .i64 3) (.int .i64 0) (.slice none 0 0) vL) ∧ Aside0 (Kd.R k43 43 wr w0.heap.size (fun k => w5.heap.size < k) vL acc))
              case atStart => exact ⟨0, [], b2, e2, .slice none 0 0, rfl, by omega, EL, R5, G5, K5, Q5, ⟨Kd.R_nil _ _ _ _ _⟩⟩
              case round =>
                obtain ⟨j, acc, bb, ee, vL, rfl, hj, HA, R6, G6, K6, Q6, L6⟩ := hrel
                obtain ⟨AL, cL, rfl⟩ := Kd.R_slice L6.out
                have s1 := R6.out.c1
                obtain ⟨m0, m1, m2, m3, y0, y1, y2, y3⟩ := v4_cells Q6.out
                obtain ⟨d0, d1, d2, d3, z0, z1, z2, z3⟩ := v4_cells K6.out
                clear EL R5 G5 K5 Q5
                by_cases hjc : (j : Int) < c
                · by_cases hee : ee = 0
                  · subst hee
                    have t1 : decide ((j : Int) < c) = true := decide_eq_true hjc
                    obtain ⟨q', rfl⟩ : ∃ q', gk = q' + 1 := ⟨gk - 1, by omega⟩
                    have HA1 := HA.out
                    rw [elemsP, if_pos rfl] at HA1
                    obtain ⟨⟨x, bx, ex⟩, hx, HA1⟩ := Option.bind_eq_some_iff.1 HA1
                    simp only at HA1
                    by_cases hac : acc.length < 1000000
                    · rw [if_pos hac] at HA1
                      have X' := Aside0.mk (show valueP k bb 0 (wrap64 (d - 1)) = some (x, bx, ex) from hx)
                      have HA2 := Aside0.mk HA1
                      have R7 := Aside0.mk (R6.out.below' (below_drew (Below.refl _ _)))
                      have hac' := Aside0.mk hac
                      have hwr : IntKind.i64.wrap (d - 1) = wrap64 (d - 1) := by unfold wrap64; exact IntKind.wrap_i64 (d - 1)
                      have hvl := Aside0.mk (show ∀ k, (Value.slice AL acc.length cL).ownBlock = some k → w5.heap.size < k ∧ k < wr.heap.size from fun k hk => ⟨L6.out.1 k hk, ((Kd.R_bound L6.out).1 k hk).2.2.1⟩)
                      have HOK := Aside0.mk (show ∀ k, wr.drew.heap.size ≤ k → w5.heap.size < k ∧ some k ≠ (Value.slice AL acc.length cL).ownBlock from fun k hk => ⟨Nat.lt_of_lt_of_le (blk_lt Q6.out) hk, fun he => Nat.lt_irrefl _ (Nat.lt_of_lt_of_le (hvl.out k he.symm).2 hk)⟩)
                      have IHx := Aside0.mk (show Calls Tryd.prog 38 #[.pointer (some ⟨rb, 0, none⟩), .int .i64 (wrap64 (d - 1))] wr.drew (ValPost w0 wr.drew rb x bx ex) from ih'.out wr.drew bb 0 (wrap64 (d - 1)) x bx ex R7.out X'.out)
                      clear HA HA1 hx hac
                      go_wp2_with fail
                      go_region_law (first
                        | (refine goes_ Tryd.func38 (by kernel_rfl) rfl #[.pointer (some ⟨rb, 0, none⟩), .int .i64 (wrap64 (d - 1))] (by rfl) rfl rfl (by simp only [List.map_toArray, List.map_cons, List.map_nil]; rfl) ?_
                           refine IHx.out.mono ?_
                           rintro en w6 ⟨v2, v3, rfl, hv2, hv3, _, hR6, hg6⟩
                           refine ⟨_, rfl, ?_⟩
                           have R8 := Aside0.mk hR6
                           have G8 := Aside0.mk hg6
                           have M8 := Aside0.mk (k43_mkM w6 w0.heap.size _ x hv2 hv3)
                           have L8 := Aside0.mk (Kd.R_grown (Kd.R_drew L6.out) hg6 (fun k hk he => Nat.lt_asymm (Nat.lt_trans hlt hg7) ((Option.some.inj he) ▸ hk)))
                           have Q8 := Aside0.mk (v4_grown (w := wr.drew) Q6.out hg6 h7)
                           have K8 := Aside0.mk (v4_grown (w := wr.drew) K6.out hg6 hne)
                           have i3 : w6.cell? ⟨w5.heap.size, 3, none⟩ = some (.slice AL acc.length cL) := (v4_cells Q8.out).2.2.2.1
                           have bq : w5.heap.size < w6.heap.size := blk_lt Q8.out
                           have i4 : (w6.alloc (.cells #[.int .i64 x.f0, .int .i64 x.f1, v2, v3] 43)).cell? ⟨w5.heap.size, 3, none⟩ = some (.slice AL acc.length cL) := (blk_cell (blk_alloc Q8.out _) 3).trans rfl
                           clear hR6 hg6 hv2 hv3)
                        | (refine Kd.R_append_step k43 (w0 := w0) w0.heap.size rfl (.tmp 59) (.tmp 64) 41 43 (.agg #[.int .i64 0, .int .i64 0, .slice none 0 0, .slice none 0 0]) 64 rfl Tryd.underlying41 (by kernel_rfl) rfl (by decide) (by decide) (.slice AL acc.length cL) acc x [.int .i64 x.f0, .int .i64 x.f1, v2, v3] (fun k => w5.heap.size < k) _ rfl rfl M8.out HOK.out (fun k hk => Nat.lt_of_lt_of_le (blk_lt Q8.out) hk) L8.out R8.out.below R8.out.below.size (len64 hac'.out) ?_
                           intro vN w7 h1 h2 h3 h4
                           obtain ⟨AN, cN, rfl⟩ := Kd.R_slice h1
                           rw [List.length_append, List.length_singleton] at h1
                           have L9 := Aside0.mk h1
                           have G9 := Aside0.mk h3
                           have Q9 := Aside0.mk (show V4 w5.heap.size w7 _ _ _ _ from blk_grown Q8.out h3 (fun he => absurd (hvl.out _ he.symm).1 (Nat.lt_irrefl _)))
                           have y9 := blk_frozen Q9.out 3
                           have i9 : w7.cell? ⟨w5.heap.size, 3, none⟩ = some (.slice AL acc.length cL) := (v4_cells Q9.out).2.2.2.1
                           clear h1 h2 h3 h4))
                      all_goals
                        go_wp2
                        go_roundg q'
                        case measure => omega
                        case rel =>
                          have hgo : w.grownBy w7 (some rb) := grown_off (grown_trans (grown_drew G6.out) G8.out) G9.out (fun k hk => Nat.le_of_lt (Nat.lt_trans hg7 (hvl.out k hk).1))
                          exact ⟨j + 1, acc ++ [x], bx, ex, _, by go_num, by omega, HA2, ⟨(R8.out.grownO G9.out (fun k hk => ⟨fun e => Nat.lt_asymm (Nat.lt_trans hlt hg7) (e ▸ (hvl.out k hk).1), Nat.le_of_lt (Nat.lt_of_le_of_lt h07 (hvl.out k hk).1)⟩)).far h07 h7 3 _⟩, ⟨grown_far hgo (Nat.le_of_lt hg7) 3 _⟩, ⟨blk_far (p := ⟨w5.heap.size, 3, none⟩) (blk_grown K8.out G9.out (fun he => Nat.lt_asymm hg7 (hvl.out _ he.symm).1)) (Nat.ne_of_lt hg7) _⟩, ⟨blk_set Q9.out 3 _⟩, ⟨Kd.R_far L9.out (p := ⟨w5.heap.size, 3, none⟩) (fun k hk => (Nat.ne_of_lt hk).symm) _⟩⟩
                    · rw [if_neg hac] at HA1
                      cases HA1
                  · have hz1 : l = acc ∧ b4 = bb ∧ e4 = ee := by
                      have HA1 := HA.out
                      obtain ⟨q', rfl⟩ : ∃ q', gk = q' + 1 := ⟨gk - 1, by omega⟩
                      rw [elemsP, if_neg hee] at HA1
                      cases HA1
                      exact ⟨rfl, rfl, rfl⟩
                    obtain ⟨rfl, rfl, rfl⟩ := hz1
                    have t1 : decide ((j : Int) < c) = true := decide_eq_true hjc
                    have t2 : (e4 == 0) = false := beq_eq_false_iff_ne.2 hee
                    clear HA hee hjc
                    go_wp2
                    refine bodyPost_ret (results_cell_row rfl _ _ w.heap.size 43 #[.int .i64 3, .int .i64 0, .slice none 0 0, .slice AL l.length cL] (0, 0) _ rfl (put4 K6.out _ _ _ _) Tryd.underlying43 rfl (by kernel_rfl)) rfl ?_
                    have hz := fin4 R6.out G6.out (Nat.le_refl _) hs hne (.int .i64 3) (.int .i64 0) (.slice none 0 0) (.slice AL l.length cL)
                    exact ⟨_, _, rfl, Kd.R_nil _ _ _ _ _, Kd.R_mono (far4 L6.out (fun k hk => by omega) _ _ _ _) (fun k hk => by omega), .inl rfl, hz.1, hz.2⟩
                · have hz1 : l = acc ∧ b4 = bb ∧ e4 = ee := by
                    have HA1 := HA.out
                    obtain rfl : gk = 0 := by omega
                    rw [elemsP] at HA1
                    cases HA1
                    exact ⟨rfl, rfl, rfl⟩
                  obtain ⟨rfl, rfl, rfl⟩ := hz1
                  have t1 : decide ((j : Int) < c) = false := decide_eq_false hjc
                  clear HA hjc
                  go_wp2
                  refine bodyPost_ret (results_cell_row rfl _ _ w.heap.size 43 #[.int .i64 3, .int .i64 0, .slice none 0 0, .slice AL l.length cL] (0, 0) _ rfl (put4 K6.out _ _ _ _) Tryd.underlying43 rfl (by kernel_rfl)) rfl ?_
                  have hz := fin4 R6.out G6.out (Nat.le_refl _) hs hne (.int .i64 3) (.int .i64 0) (.slice none 0 0) (.slice AL l.length cL)
                  exact ⟨_, _, rfl, Kd.R_nil _ _ _ _ _, Kd.R_mono (far4 L6.out (fun k hk => by omega) _ _ _ _) (fun k hk => by omega), .inl rfl, hz.1, hz.2⟩
        · rw [if_neg hk3] at H1
          simp only [Option.some.injEq, Prod.mk.injEq] at H1
          obtain ⟨rfl, rfl, rfl⟩ := H1
          have q3 : (wrap64 (rd o 0) == 3) = false := beq_eq_false_iff_ne.2 hk3
          clear H' hk1 hk2 hk3
          go_wp2_with fail
          refine (fail_calls w0 w1 rb b1 0 R1.out).mono ?_
          rintro en w2 ⟨rfl, hR2, hg2⟩
          have R2 := Aside0.mk hR2
          have G2 := Aside0.mk (grown_trans G1.out hg2)
          have K2 := Aside0.mk (v4_grown K1.out hg2 hne)
          clear hR2 hg2 R1 G1 K1 d0 d1 d2 d3 z0 z1 z2 z3 s1 hcell
          obtain ⟨d0, d1, d2, d3, z0, z1, z2, z3⟩ := v4_cells K2.out
          go_wp2
          refine bodyPost_ret (results_cell_row rfl _ _ w.heap.size 43 #[.int .i64 0, .int .i64 0, .slice none 0 0, .slice none 0 0] (0, 0) _ rfl (put4 K2.out _ _ _ _) Tryd.underlying43 rfl (by kernel_rfl)) rfl ?_
          have hz := fin4 R2.out G2.out (Nat.le_refl _) hs hne (.int .i64 0) (.int .i64 0) (.slice none 0 0) (.slice none 0 0)
          exact ⟨_, _, rfl, Kd.R_nil _ _ _ _ _, Kd.R_nil _ _ _ _ _, .inl rfl, hz.1, hz.2⟩
  · have H1 := H'.out
    rw [if_neg he1] at H1
    simp only [Option.some.injEq, Prod.mk.injEq] at H1
    obtain ⟨rfl, rfl, rfl⟩ := H1
    have q1 : (e1 == 0) = false := beq_eq_false_iff_ne.2 he1
    have q2 : (e1 != 0) = true := by simp [he1]
    clear H' he1
    go_wp2
    refine bodyPost_ret (results_cell_row rfl _ _ w.heap.size 43 #[.int .i64 0, .int .i64 0, .slice none 0 0, .slice none 0 0] (0, 0) _ rfl (put4 K1.out _ _ _ _) Tryd.underlying43 rfl (by kernel_rfl)) rfl ?_
    have hz := fin4 R1.out G1.out (Nat.le_refl _) hs hne (.int .i64 0) (.int .i64 0) (.slice none 0 0) (.slice none 0 0)
    exact ⟨_, _, rfl, Kd.R_nil _ _ _ _ _, Kd.R_nil _ _ _ _ _, .inl rfl, hz.1, hz.2⟩
theorem countP_mono (k : Nat) (b : List Int) (e s : Int) : LeO (countP k b e s) (countP (k + 1) b e s) :=
  LeO.bind (LeO.refl _) fun _ => LeO.bind (word_Get.mono _ _) fun _ => LeO.refl _
theorem numberP_mono (k : Nat) (b : List Int) (e : Int) : LeO (numberP k b e) (numberP (k + 1) b e) :=
  LeO.bind (countP_mono _ _ _ _) fun _ => LeO.ite (LeO.refl _) (LeO.bind (LeO.refl _) fun _ => LeO.ite (LeO.refl _) (LeO.bind (word_Get.mono _ _) fun _ => LeO.refl _))
theorem elemsP_mono {g g' : List Int → Int → Option (S43 × List Int × Int)} (h : ∀ b e, LeO (g b e) (g' b e)) : ∀ m acc b e, LeO (elemsP g m acc b e) (elemsP g' m acc b e)
  | 0, _, _, _ => LeO.refl _
  | m + 1, acc, b, e => by
    rw [elemsP, elemsP]
    exact LeO.ite (LeO.bind (h b e) fun _ => LeO.ite (elemsP_mono h m _ _ _) (LeO.refl _)) (LeO.refl _)
theorem valueP_mono : ∀ k b e d, LeO (valueP k b e d) (valueP (k + 1) b e d)
  | 0, _, _, _ => LeO.none _
  | k + 1, b, e, d => by
    rw [valueP, valueP]
    exact LeO.bind (LeO.refl _) fun _ => LeO.ite (LeO.ite (LeO.bind (numberP_mono _ _ _) fun _ => LeO.refl _) (LeO.ite (LeO.bind (countP_mono _ _ _ _) fun _ => LeO.bind (LeO.refl _) fun _ => LeO.refl _) (LeO.ite (LeO.bind (countP_mono _ _ _ _) fun _ => LeO.bind (elemsP_mono (fun b e => valueP_mono k b e _) _ _ _ _) fun _ => LeO.refl _) (LeO.refl _)))) (LeO.refl _)


end Go.Proofs.YtiibnfnjfmcggaaDoor.PCallReads
