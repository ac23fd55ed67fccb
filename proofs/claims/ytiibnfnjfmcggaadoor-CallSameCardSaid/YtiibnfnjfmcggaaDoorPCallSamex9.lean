-- Written by drive.py of this work: the kit's print.py with contracts of this work laid in.
import Derived.Test.YtiibnfnjfmcggaaDoorPCallSamex0
import Derived.Test.YtiibnfnjfmcggaaDoorPCallSamex1
import Derived.Test.YtiibnfnjfmcggaaDoorPCallSamex6
import Derived.Test.YtiibnfnjfmcggaaDoorPCallSamex7
import Derived.Test.YtiibnfnjfmcggaaDoorPCallSamex8
namespace Go.Proofs.YtiibnfnjfmcggaaDoor.PCallSame
open Go.RowKit Go.Proofs.YtiibnfnjfmcggaaDoorW.PrintWords Go.Proofs.YtiibnfnjfmcggaaDoorW.PrintLast Go.Proofs.YtiibnfnjfmcggaaDoorW.PrintMore
attribute [local go_sem] max2_int min2_int max_two min_two max_three min_three max_four min_four   -- for this text's walks alone
set_option linter.unusedVariables false
set_option linter.unusedSimpArgs false

/-! ### bastillelaw30_awake: function 6 -/
--ALONE
theorem fsz (w : World) (o : Obj) : (w.alloc o).heap.size = w.heap.size + 1 := Array.size_push _
def VB (g : Nat) (w : World) (u0 u1 u2 u3 : Value) : Prop := w.heap[g]? = some (.cells #[u0, u1, u2, u3] 43 (0, 0))
theorem vb_below {g : Nat} {w w' : World} {u0 u1 u2 u3 : Value} (h : VB g w u0 u1 u2 u3) (hb : Below w.heap.size w w') : VB g w' u0 u1 u2 u3 := (hb.block _ (blk_lt h)).trans h
theorem vb_put4 {g : Nat} {w : World} {u0 u1 u2 u3 : Value} (h : VB g w u0 u1 u2 u3) (v0 v1 v2 v3 : Value) : VB g ((((w.setCell ⟨g, 0, none⟩ v0).setCell ⟨g, 1, none⟩ v1).setCell ⟨g, 2, none⟩ v2).setCell ⟨g, 3, none⟩ v3) v0 v1 v2 v3 :=
  blk_set (blk_set (blk_set (blk_set h 0 v0) 1 v1) 2 v2) 3 v3
theorem below_put4 {n g : Nat} {w0 w : World} (h : Below n w0 w) (hg : n ≤ g) (v0 v1 v2 v3 : Value) : Below n w0 ((((w.setCell ⟨g, 0, none⟩ v0).setCell ⟨g, 1, none⟩ v1).setCell ⟨g, 2, none⟩ v2).setCell ⟨g, 3, none⟩ v3) :=
  (((h.setCell hg _).setCell hg _).setCell hg _).setCell hg _
theorem far_put4 {k g : Nat} {w : World} {o : Obj} (h : w.heap[k]? = some o) (hne : k ≠ g) (v0 v1 v2 v3 : Value) : ((((w.setCell ⟨g, 0, none⟩ v0).setCell ⟨g, 1, none⟩ v1).setCell ⟨g, 2, none⟩ v2).setCell ⟨g, 3, none⟩ v3).heap[k]? = some o :=
  ((Below.heap_setCell _ _ _ k hne).trans ((Below.heap_setCell _ _ _ k hne).trans ((Below.heap_setCell _ _ _ k hne).trans (Below.heap_setCell _ _ _ k hne)))).trans h
theorem C_none {α : Type} (d : Kd α) (W : World) (A : Option Addr) : d.C W A ([] : List α).length [] := ⟨rfl, by simp, fun h => absurd h (Nat.lt_irrefl 0)⟩
theorem C_bytes {W : World} {g : Nat} {s : ByteArray} {cap t : Nat} {fr : Nat × Nat} (h : W.heap[g]? = some (.cells (bytesRow s cap) t fr)) (hs : s.size ≤ 9223372036854775807) : Kd.C (Kd.int .u8) W (some ⟨g, 0, none⟩) (bytesOf s).length (bytesOf s) :=
  ⟨rfl, by rw [bytesOf_length]; exact hs, fun _ => ⟨_, rfl, fun j p hj => ⟨[.int .u8 p], rfl, rfl, fun i u hi => by
    match i, hi with
    | 0, hi =>
      cases hi
      have s1 : (Kd.int IntKind.u8).sz = 1 := rfl
      have e : (Addr.add ⟨g, 0, none⟩ (j * (Kd.int IntKind.u8).sz + 0)) = (⟨g, j, none⟩ : Addr) := by
        rw [s1]
        simp only [Addr.add, Nat.mul_one, Nat.add_zero]
        split
        · rename_i h0
          rw [h0]
        · simp
      rw [e]
      have hl : j < s.size := by
        have := (List.getElem?_eq_some_iff.1 hj).1
        rwa [bytesOf_length] at this
      unfold World.cell?
      rw [h]
      show (bytesRow s cap)[j]? = _
      unfold bytesRow
      rw [Array.getElem?_append_left (by simpa using hl)]
      unfold bytesOf at hj
      rw [List.getElem?_map] at hj
      rw [Array.getElem?_map, ← Array.getElem?_toList]
      cases hq : s.data.toList[j]? with
      | none => rw [hq] at hj; cases hj
      | some b => rw [hq] at hj; cases hj; rfl
    | n + 1, hi => simp at hi⟩⟩⟩
theorem of_any (A : Option Addr) (n c : Nat) (w : World) : Calls Tryd.prog 20 #[.slice A n c] w fun e w' => e = .returned (.agg #[.int .i64 3, .int .i64 0, .slice none 0 0, .slice A n c]) ∧ Below w.heap.size w w' := by
  go_enter Tryd.func20, Tryd.ntmps20
  go_wp2
  refine bodyPost_ret (results_cell_row rfl _ _ w.heap.size 43 #[.int .i64 3, .int .i64 0, .slice none 0 0, .slice A n c] (0, 0) _ rfl (Array.getElem?_push_size) Tryd.underlying43 rfl (by kernel_rfl)) rfl ?_
  exact ⟨rfl, (Below.refl _ w).alloc (Nat.le_refl _) _⟩
theorem num_any (n : Int) (w : World) : Calls Tryd.prog 21 #[.int .i64 n] w fun e w' => e = .returned (.agg #[.int .i64 1, .int .i64 n, .slice none 0 0, .slice none 0 0]) ∧ Below w.heap.size w w' := by
  go_enter Tryd.func21, Tryd.ntmps21
  go_wp2
  refine bodyPost_ret (results_cell_row rfl _ _ w.heap.size 43 #[.int .i64 1, .int .i64 n, .slice none 0 0, .slice none 0 0] (0, 0) _ rfl (Array.getElem?_push_size) Tryd.underlying43 rfl (by kernel_rfl)) rfl ?_
  exact ⟨rfl, (Below.refl _ w).alloc (Nat.le_refl _) _⟩
theorem raw_any (A : Option Addr) (n c : Nat) (w : World) : Calls Tryd.prog 23 #[.slice A n c] w fun e w' => e = .returned (.agg #[.int .i64 2, .int .i64 0, .slice A n c, .slice none 0 0]) ∧ Below w.heap.size w w' := by
  go_enter Tryd.func23, Tryd.ntmps23
  go_wp2
  refine bodyPost_ret (results_cell_row rfl _ _ w.heap.size 43 #[.int .i64 2, .int .i64 0, .slice A n c, .slice none 0 0] (0, 0) _ rfl (Array.getElem?_push_size) Tryd.underlying43 rfl (by kernel_rfl)) rfl ?_
  exact ⟨rfl, (Below.refl _ w).alloc (Nat.le_refl _) _⟩
theorem of28 (A : Option Addr) (n c : Nat) (w : World) : Calls Tryd.prog 31 #[.slice A n c] w fun e w' => e = .returned (.agg #[.int .i64 3, .int .i64 0, .slice none 0 0, .slice A n c]) ∧ Below w.heap.size w w' := by
  go_enter Tryd.func31, Tryd.ntmps31
  go_wp2
  refine bodyPost_ret (results_cell_row rfl _ _ w.heap.size 43 #[.int .i64 3, .int .i64 0, .slice none 0 0, .slice A n c] (0, 0) _ rfl (Array.getElem?_push_size) Tryd.underlying43 rfl (by kernel_rfl)) rfl ?_
  exact ⟨rfl, (Below.refl _ w).alloc (Nat.le_refl _) _⟩
theorem num28 (n : Int) (w : World) : Calls Tryd.prog 32 #[.int .i64 n] w fun e w' => e = .returned (.agg #[.int .i64 1, .int .i64 n, .slice none 0 0, .slice none 0 0]) ∧ Below w.heap.size w w' := by
  go_enter Tryd.func32, Tryd.ntmps32
  go_wp2
  refine bodyPost_ret (results_cell_row rfl _ _ w.heap.size 43 #[.int .i64 1, .int .i64 n, .slice none 0 0, .slice none 0 0] (0, 0) _ rfl (Array.getElem?_push_size) Tryd.underlying43 rfl (by kernel_rfl)) rfl ?_
  exact ⟨rfl, (Below.refl _ w).alloc (Nat.le_refl _) _⟩
theorem raw28 (A : Option Addr) (n c : Nat) (w : World) : Calls Tryd.prog 33 #[.slice A n c] w fun e w' => e = .returned (.agg #[.int .i64 2, .int .i64 0, .slice A n c, .slice none 0 0]) ∧ Below w.heap.size w w' := by
  go_enter Tryd.func33, Tryd.ntmps33
  go_wp2
  refine bodyPost_ret (results_cell_row rfl _ _ w.heap.size 43 #[.int .i64 2, .int .i64 0, .slice A n c, .slice none 0 0] (0, 0) _ rfl (Array.getElem?_push_size) Tryd.underlying43 rfl (by kernel_rfl)) rfl ?_
  exact ⟨rfl, (Below.refl _ w).alloc (Nat.le_refl _) _⟩
theorem word_any (s : ByteArray) (hs : s.size ≤ 9223372036854775807) (w : World) : Calls Tryd.prog 22 #[.string s] w fun e w' => ∃ A c, e = .returned (.agg #[.int .i64 2, .int .i64 0, .slice A (bytesOf s).length c, .slice none 0 0]) ∧ (bytesOf s).length ≤ c ∧ Kd.C (Kd.int .u8) w' A (bytesOf s).length (bytesOf s) ∧ Below w.heap.size w w' := by
  have hcv2 := fun w s => run_bytes_of_string (P := Tryd.prog) w 9 22 5 s Tryd.underlying9 Tryd.underlying22 Tryd.underlying5
  go_enter Tryd.func22, Tryd.ntmps22
  go_wp2_with fail
  refine (raw_any _ _ _ _).mono ?_
  rintro e w2 ⟨rfl, hb⟩
  have HB1 : Below w.heap.size w w2 := by
    refine Below.trans ?_ (hb.mono (by simp only [fsz, World.drew]; omega))
    repeat (first | exact Below.refl _ _ | refine Below.alloc ?_ (by (try simp only [fsz, World.drew]); omega) _ | refine below_drew ?_)
  have K1 : VB w.heap.size w2 (.int .i64 0) (.int .i64 0) (.slice none 0 0) (.slice none 0 0) := (hb.block _ (by simp only [fsz, World.drew]; omega)).trans (blk_alloc (show (w.alloc _).heap[w.heap.size]? = some _ from Array.getElem?_push_size) _)
  obtain ⟨fr, K2⟩ : ∃ fr, w2.heap[w.heap.size + 1]? = some (.cells (bytesRow s (grownCap (w.alloc (.cells #[.int .i64 0, .int .i64 0, .slice none 0 0, .slice none 0 0] 43)) s.size 0 5)) 5 fr) := ⟨_, (hb.block (w.heap.size + 1) (by simp only [fsz, World.drew]; omega)).trans (by rw [← fsz w (.cells #[.int .i64 0, .int .i64 0, .slice none 0 0, .slice none 0 0] 43)]; exact Array.getElem?_push_size)⟩
  clear hb
  have hcap := grownCap_ge (w.alloc (.cells #[.int .i64 0, .int .i64 0, .slice none 0 0, .slice none 0 0] 43)) s.size 0 5
  have z0 := (blk_cell K1 0).trans rfl
  have z1 := (blk_cell K1 1).trans rfl
  have z2 := (blk_cell K1 2).trans rfl
  have z3 := (blk_cell K1 3).trans rfl
  have f0 := blk_frozen K1 0
  have f1 := blk_frozen K1 1
  have f2 := blk_frozen K1 2
  have f3 := blk_frozen K1 3
  go_wp2
  refine bodyPost_ret (results_cell_row rfl _ _ w.heap.size 43 #[.int .i64 2, .int .i64 0, .slice _ _ _, .slice none 0 0] (0, 0) _ rfl (vb_put4 K1 _ _ _ _) Tryd.underlying43 rfl (by kernel_rfl)) rfl ?_
  refine ⟨_, _, by rw [bytesOf_length], ?_, C_bytes (far_put4 K2 (Nat.succ_ne_self _) _ _ _ _) hs, below_put4 HB1 (Nat.le_refl _) _ _ _ _⟩
  rw [bytesOf_length]
  exact hcap
def row8 (k : Int) (u f n o : ByteArray) (ro ve : Int) (l7 : List Int) : List S43 := [⟨1, k, [], []⟩, ⟨2, 0, bytesOf u, []⟩, ⟨2, 0, bytesOf f, []⟩, ⟨2, 0, bytesOf n, []⟩, ⟨2, 0, bytesOf o, []⟩, ⟨1, ro, [], []⟩, ⟨1, ve, [], []⟩, ⟨2, 0, l7, []⟩]
theorem C_row8 {W : World} {g : Nat} {A1 A2 A3 A4 A7 : Option Addr} {c1 c2 c3 c4 c7 : Nat} {k : Int} {u f n o : ByteArray} {ro ve : Int} {l7 : List Int} (h : W.heap[g]? = some (.cells #[.int .i64 1, .int .i64 k, .slice none 0 0, .slice none 0 0, .int .i64 2, .int .i64 0, .slice A1 (bytesOf u).length c1, .slice none 0 0, .int .i64 2, .int .i64 0, .slice A2 (bytesOf f).length c2, .slice none 0 0, .int .i64 2, .int .i64 0, .slice A3 (bytesOf n).length c3, .slice none 0 0, .int .i64 2, .int .i64 0, .slice A4 (bytesOf o).length c4, .slice none 0 0, .int .i64 1, .int .i64 ro, .slice none 0 0, .slice none 0 0, .int .i64 1, .int .i64 ve, .slice none 0 0, .slice none 0 0, .int .i64 2, .int .i64 0, .slice A7 l7.length c7, .slice none 0 0] 43 (0, 0)))
  (h1 : Kd.C (Kd.int .u8) W A1 (bytesOf u).length (bytesOf u)) (s1 : (bytesOf u).length ≤ c1) (h2 : Kd.C (Kd.int .u8) W A2 (bytesOf f).length (bytesOf f)) (s2 : (bytesOf f).length ≤ c2) (h3 : Kd.C (Kd.int .u8) W A3 (bytesOf n).length (bytesOf n)) (s3 : (bytesOf n).length ≤ c3) (h4 : Kd.C (Kd.int .u8) W A4 (bytesOf o).length (bytesOf o)) (s4 : (bytesOf o).length ≤ c4) (h7 : Kd.C (Kd.int .u8) W A7 l7.length l7) (s7 : l7.length ≤ c7) : Kd.C k43 W (some ⟨g, 0, none⟩) 8 (row8 k u f n o ro ve l7) :=
  ⟨rfl, by decide, fun _ => ⟨_, rfl, fun j p hj => by
    match j, hj with
    | 0, hj =>
      cases hj
      refine ⟨[.int .i64 1, .int .i64 k, .slice none 0 0, .slice none 0 0], rfl, k43_mk W ⟨1, k, [], []⟩ (Nat.zero_le _) (C_none _ _ none) (Nat.zero_le _) (C_none _ _ none), fun i u hi => ?_⟩
      match i, hi with
      | 0, hi => cases hi; exact (blk_cell h 0).trans rfl
      | 1, hi => cases hi; exact (blk_cell h 1).trans rfl
      | 2, hi => cases hi; exact (blk_cell h 2).trans rfl
      | 3, hi => cases hi; exact (blk_cell h 3).trans rfl
      | n + 4, hi => simp at hi
    | 1, hj =>
      cases hj
      refine ⟨[.int .i64 2, .int .i64 0, .slice A1 (bytesOf u).length c1, .slice none 0 0], rfl, k43_mk W ⟨2, 0, bytesOf u, []⟩ s1 h1 (Nat.zero_le _) (C_none _ _ none), fun i u hi => ?_⟩
      match i, hi with
      | 0, hi => cases hi; exact (blk_cell h 4).trans rfl
      | 1, hi => cases hi; exact (blk_cell h 5).trans rfl
      | 2, hi => cases hi; exact (blk_cell h 6).trans rfl
      | 3, hi => cases hi; exact (blk_cell h 7).trans rfl
      | n + 4, hi => simp at hi
    | 2, hj =>
      cases hj
      refine ⟨[.int .i64 2, .int .i64 0, .slice A2 (bytesOf f).length c2, .slice none 0 0], rfl, k43_mk W ⟨2, 0, bytesOf f, []⟩ s2 h2 (Nat.zero_le _) (C_none _ _ none), fun i u hi => ?_⟩
      match i, hi with
      | 0, hi => cases hi; exact (blk_cell h 8).trans rfl
      | 1, hi => cases hi; exact (blk_cell h 9).trans rfl
      | 2, hi => cases hi; exact (blk_cell h 10).trans rfl
      | 3, hi => cases hi; exact (blk_cell h 11).trans rfl
      | n + 4, hi => simp at hi
    | 3, hj =>
      cases hj
      refine ⟨[.int .i64 2, .int .i64 0, .slice A3 (bytesOf n).length c3, .slice none 0 0], rfl, k43_mk W ⟨2, 0, bytesOf n, []⟩ s3 h3 (Nat.zero_le _) (C_none _ _ none), fun i u hi => ?_⟩
      match i, hi with
      | 0, hi => cases hi; exact (blk_cell h 12).trans rfl
      | 1, hi => cases hi; exact (blk_cell h 13).trans rfl
      | 2, hi => cases hi; exact (blk_cell h 14).trans rfl
      | 3, hi => cases hi; exact (blk_cell h 15).trans rfl
      | n + 4, hi => simp at hi
    | 4, hj =>
      cases hj
      refine ⟨[.int .i64 2, .int .i64 0, .slice A4 (bytesOf o).length c4, .slice none 0 0], rfl, k43_mk W ⟨2, 0, bytesOf o, []⟩ s4 h4 (Nat.zero_le _) (C_none _ _ none), fun i u hi => ?_⟩
      match i, hi with
      | 0, hi => cases hi; exact (blk_cell h 16).trans rfl
      | 1, hi => cases hi; exact (blk_cell h 17).trans rfl
      | 2, hi => cases hi; exact (blk_cell h 18).trans rfl
      | 3, hi => cases hi; exact (blk_cell h 19).trans rfl
      | n + 4, hi => simp at hi
    | 5, hj =>
      cases hj
      refine ⟨[.int .i64 1, .int .i64 ro, .slice none 0 0, .slice none 0 0], rfl, k43_mk W ⟨1, ro, [], []⟩ (Nat.zero_le _) (C_none _ _ none) (Nat.zero_le _) (C_none _ _ none), fun i u hi => ?_⟩
      match i, hi with
      | 0, hi => cases hi; exact (blk_cell h 20).trans rfl
      | 1, hi => cases hi; exact (blk_cell h 21).trans rfl
      | 2, hi => cases hi; exact (blk_cell h 22).trans rfl
      | 3, hi => cases hi; exact (blk_cell h 23).trans rfl
      | n + 4, hi => simp at hi
    | 6, hj =>
      cases hj
      refine ⟨[.int .i64 1, .int .i64 ve, .slice none 0 0, .slice none 0 0], rfl, k43_mk W ⟨1, ve, [], []⟩ (Nat.zero_le _) (C_none _ _ none) (Nat.zero_le _) (C_none _ _ none), fun i u hi => ?_⟩
      match i, hi with
      | 0, hi => cases hi; exact (blk_cell h 24).trans rfl
      | 1, hi => cases hi; exact (blk_cell h 25).trans rfl
      | 2, hi => cases hi; exact (blk_cell h 26).trans rfl
      | 3, hi => cases hi; exact (blk_cell h 27).trans rfl
      | n + 4, hi => simp at hi
    | 7, hj =>
      cases hj
      refine ⟨[.int .i64 2, .int .i64 0, .slice A7 l7.length c7, .slice none 0 0], rfl, k43_mk W ⟨2, 0, l7, []⟩ s7 h7 (Nat.zero_le _) (C_none _ _ none), fun i u hi => ?_⟩
      match i, hi with
      | 0, hi => cases hi; exact (blk_cell h 28).trans rfl
      | 1, hi => cases hi; exact (blk_cell h 29).trans rfl
      | 2, hi => cases hi; exact (blk_cell h 30).trans rfl
      | 3, hi => cases hi; exact (blk_cell h 31).trans rfl
      | n + 4, hi => simp at hi
    | n + 8, hj => simp [row8] at hj⟩⟩
theorem enc_lit (kk : Nat) (g : Nat) (xs : List S43) (h8 : xs.length = 8) (bs : List Int) (er : Int) (w : World) (hC : Kd.C k43 w (some ⟨g, 0, none⟩) 8 xs) (he : codec_Encode.f kk 3 0 [] xs = some (bs, er)) :
    Calls Tryd.prog 19 #[.agg #[.int .i64 3, .int .i64 0, .slice none 0 0, .slice (some ⟨g, 0, none⟩) 8 8]] w fun e w' => ∃ v0, e = .returned (.tuple #[v0, .int .i64 er]) ∧ Kd.R (Kd.int .u8) 5 w' w.heap.size (fun _ => True) v0 bs ∧ Below w.heap.size w w' := by
  have h := codec_Encode.calls kk 3 0 none 0 [] (some ⟨g, 0, none⟩) 8 xs bs er w (C_none _ _ none) (Nat.le_refl _) (by rw [h8]; exact hC) (by rw [h8]; exact Nat.le_refl _) he
  rw [h8] at h
  exact h
theorem bytes_lit (kk : Nat) (g : Nat) (xs : List S43) (h8 : xs.length = 8) (bs : List Int) (w : World) (hC : Kd.C k43 w (some ⟨g, 0, none⟩) 8 xs) (he : bastilleref02_Bytes.f kk 3 0 [] xs = some bs) :
    Calls Tryd.prog 30 #[.agg #[.int .i64 3, .int .i64 0, .slice none 0 0, .slice (some ⟨g, 0, none⟩) 8 8]] w fun e w' => ∃ v0, e = .returned v0 ∧ Kd.R (Kd.int .u8) 5 w' w.heap.size (fun _ => True) v0 bs ∧ Below w.heap.size w w' := by
  have h := bastilleref02_Bytes.calls kk 3 0 none 0 [] (some ⟨g, 0, none⟩) 8 xs bs w (C_none _ _ none) (Nat.le_refl _) (by rw [h8]; exact hC) (by rw [h8]; exact Nat.le_refl _) he
  rw [h8] at h
  exact h
theorem conv_any (s : ByteArray) (hs : s.size ≤ 9223372036854775807) (W : World) : ∃ w9 c, (convert 9 22 (.string s)).run Tryd.prog W = .ok (.slice (some ⟨W.heap.size, 0, none⟩) (bytesOf s).length c) w9 ∧ (bytesOf s).length ≤ c ∧ Kd.C (Kd.int .u8) w9 (some ⟨W.heap.size, 0, none⟩) (bytesOf s).length (bytesOf s) ∧ Below W.heap.size W w9 := by
  refine ⟨_, _, by rw [bytesOf_length]; exact run_bytes_of_string (P := Tryd.prog) W 9 22 5 s Tryd.underlying9 Tryd.underlying22 Tryd.underlying5, by rw [bytesOf_length]; exact grownCap_ge _ _ _ _, C_bytes (show (W.drew.alloc _).heap[W.heap.size]? = some _ from Array.getElem?_push_size) hs, ?_⟩
  exact Below.alloc (below_drew (Below.refl _ _)) (Nat.le_refl _) _
structure WS (w : World) (k : Int) (u f n o : ByteArray) (ro ve : Int) (A7 : Option Addr) (c7 : Nat) (l7 : List Int) (W : World) : Prop where
  hb : Below w.heap.size w W
  bx : W.heap[w.heap.size]? = some (.cells #[.int .i64 k, .string u, .string f, .string n, .string o, .int .i64 ro, .int .i64 ve, .slice A7 l7.length c7] 24 (0, 0))
  c7 : Kd.C (Kd.int .u8) W A7 l7.length l7
theorem WS.step {w : World} {k : Int} {u f n o : ByteArray} {ro ve : Int} {A7 : Option Addr} {c7 : Nat} {l7 : List Int} {W W' : World} (h : WS w k u f n o ro ve A7 c7 l7 W) (hb : Below W.heap.size W W') : WS w k u f n o ro ve A7 c7 l7 W' := ⟨h.hb.trans (hb.mono h.hb.size), (hb.block _ (blk_lt h.bx)).trans h.bx, Kd.C_below h.c7 hb⟩
def call_Write.T3 : Bool × List (List Nat × List Nat) := (true, [([], []), ([0], [0]), ([1], [1]), ([], []), ([3], [3]), ([4, 2], [4]), ([], []), ([6], [6]), ([7, 5], [7]), ([], []), ([9], [9]), ([10, 8], [10]), ([], []), ([12], [12]), ([13, 11], [13]), ([], []), ([15], [15]), ([16, 14], [16]), ([], []), ([18], [18]), ([19, 17], [19]), ([], []), ([21], [21]), ([22, 20], [22]), ([2, 5, 8, 11, 14, 17, 20, 23], [2, 5, 8, 11, 14, 17, 20, 23]), ([24, 23], [24]), ([25, 25], [25]), ([26], [26]), ([26], [26]), ([27, 26, 0, 1, 2, 3, 4, 5, 6, 7, 8, 9, 10, 11, 12, 13, 14, 15, 16, 17, 18, 19, 20, 21, 22, 23, 24, 25, 26, 27, 28], [27]), ([28, 29, 0, 1, 2, 3, 4, 5, 6, 7, 8, 9, 10, 11, 12, 13, 14, 15, 16, 17, 18, 19, 20, 21, 22, 23, 24, 25, 26, 27, 28, 29], [28])])
def call_Write.B3 : List Nat := [0, 1, 3, 0, 8, 31, 0, 64, 255, 0, 512, 2047, 0, 4096, 16383, 0, 32768, 131071, 0, 262144, 1048575, 0, 2097152, 8388607, 16777215, 33554431, 67108863, 134217727, 134217727, 536870911, 1073741823]
theorem call_Write.tab3 : rtab .any (opsOf Tryd.f11 3) = call_Write.T3 := by kernel_rfl
theorem call_Write.bits3 : waitsOk call_Write.T3.2 call_Write.B3 = true := by kernel_rfl
def ref30_Bytes.T1 : Bool × List (List Nat × List Nat) := (true, [([], []), ([0], [0]), ([1], [1]), ([], []), ([3], [3]), ([4], [4]), ([5, 2], [5]), ([], []), ([7], [7]), ([8], [8]), ([9, 6], [9]), ([], []), ([11], [11]), ([12], [12]), ([13, 10], [13]), ([], []), ([15], [15]), ([16], [16]), ([17, 14], [17]), ([], []), ([19], [19]), ([20, 18], [20]), ([], []), ([22], [22]), ([23, 21], [23]), ([], []), ([25], [25]), ([26, 24], [26]), ([2, 6, 10, 14, 18, 21, 24, 27], [2, 6, 10, 14, 18, 21, 24, 27]), ([28, 27], [28]), ([29, 29], [29]), ([30, 30, 0, 1, 2, 3, 4, 5, 6, 7, 8, 9, 10, 11, 12, 13, 14, 15, 16, 17, 18, 19, 20, 21, 22, 23, 24, 25, 26, 27, 28, 29, 30], [30])])
def ref30_Bytes.B1 : List Nat := [0, 1, 3, 0, 8, 24, 63, 0, 128, 384, 1023, 0, 2048, 6144, 16383, 0, 32768, 98304, 262143, 0, 524288, 2097151, 0, 4194304, 16777215, 0, 33554432, 134217727, 268435455, 536870911, 1073741823, 2147483647]
theorem ref30_Bytes.tab1 : rtab .any (opsOf Tryd.f16 1) = ref30_Bytes.T1 := by kernel_rfl
theorem ref30_Bytes.bits1 : waitsOk ref30_Bytes.T1.2 ref30_Bytes.B1 = true := by kernel_rfl
set_option maxHeartbeats 4000000 in
set_option maxRecDepth 100000 in
theorem write_any (kk : Nat) (k : Int) (u f n o : ByteArray) (ro ve : Int) (A7 : Option Addr) (c7 : Nat) (l7 : List Int) (bs : List Int) (er : Int) (w : World) (hu : u.size ≤ 9223372036854775807) (hf : f.size ≤ 9223372036854775807) (hn : n.size ≤ 9223372036854775807) (ho : o.size ≤ 9223372036854775807) (h7 : Kd.C (Kd.int .u8) w A7 l7.length l7) (l7c : l7.length ≤ c7)
    (hmay : ∀ W, Below w.heap.size w W → Calls Tryd.prog 13 #[.agg #[.int .i64 k, .string u, .string f, .string n, .string o, .int .i64 ro, .int .i64 ve, .slice A7 l7.length c7]] W fun e w' => e = .returned (.bool true) ∧ Below W.heap.size W w') (he : codec_Encode.f kk 3 0 [] (row8 k u f n o ro ve l7) = some (bs, er)) :
    Calls Tryd.prog 11 #[.agg #[.int .i64 k, .string u, .string f, .string n, .string o, .int .i64 ro, .int .i64 ve, .slice A7 l7.length c7]] w fun e w' => ∃ v0, e = .returned (.tuple #[v0, .int .i64 er]) ∧ Kd.R (Kd.int .u8) 5 w' w.heap.size (fun _ => True) v0 bs ∧ Below w.heap.size w w' := by
  have HU := Aside0.mk hu
  have HF := Aside0.mk hf
  have HN := Aside0.mk hn
  have HO := Aside0.mk ho
  have L7 := Aside0.mk l7c
  have HE := Aside0.mk he
  have FF0 := Aside0.mk (show WS w k u f n o ro ve A7 c7 l7 _ from ⟨(Below.refl _ w).alloc (Nat.le_refl _) (.cells #[.int .i64 k, .string u, .string f, .string n, .string o, .int .i64 ro, .int .i64 ve, .slice A7 l7.length c7] 24), Array.getElem?_push_size, Kd.C_below h7 (below_alloc (Below.refl _ _) _)⟩)
  clear hu hf hn ho l7c he h7
  go_enter Tryd.func11, Tryd.ntmps11
  go_wp2_with fail
  refine (hmay _ FF0.out.hb).mono ?_
  rintro e w1 ⟨rfl, hb⟩
  have FF := Aside0.mk ((FF0.out.step hb).step (below_drew (Below.refl _ _)))
  clear FF0 hb
  go_upto_region 3 with (fail)
  refine start_ (n := 31) (S := fun w' => w'.cell? ⟨w.heap.size, 0, none⟩ = some (.int .i64 k) ∧ w'.cell? ⟨w.heap.size, 1, none⟩ = some (.string u) ∧ w'.cell? ⟨w.heap.size, 2, none⟩ = some (.string f) ∧ w'.cell? ⟨w.heap.size, 3, none⟩ = some (.string n) ∧ w'.cell? ⟨w.heap.size, 4, none⟩ = some (.string o) ∧ w'.cell? ⟨w.heap.size, 5, none⟩ = some (.int .i64 ro) ∧ w'.cell? ⟨w.heap.size, 6, none⟩ = some (.int .i64 ve) ∧ w'.cell? ⟨w.heap.size, 7, none⟩ = some (.slice A7 l7.length c7)) (ds := []) #[false, false, false, false, false, false, false, false, false, false, false, false, false, false, false, false, false, false, false, false, false, false, false, false, false, false, false, false, false, false, false] (by kernel_rfl) rfl rfl ⟨(blk_cell FF.out.bx 0).trans rfl, (blk_cell FF.out.bx 1).trans rfl, (blk_cell FF.out.bx 2).trans rfl, (blk_cell FF.out.bx 3).trans rfl, (blk_cell FF.out.bx 4).trans rfl, (blk_cell FF.out.bx 5).trans rfl, (blk_cell FF.out.bx 6).trans rfl, (blk_cell FF.out.bx 7).trans rfl⟩ (fun hHeld => ?_)
  refine with_tabW call_Write.tab3 call_Write.bits3 (fun HT_ HW_ => ?_)
  generalize World.drew _ = wd at FF hHeld ⊢
  refine pure_ (i := 0) (N := some 7) (v := ?_) (a' := ?_) #[true, false, false, false, false, false, false, false, false, false, false, false, false, false, false, false, false, false, false, false, false, false, false, false, false, false, false, false, false, false, false] rfl rfl (any_of HT_.out (by kernel_rfl)) (fun _ _ _ h => h) (Or.inl ⟨by rfl, ?_⟩) ?_ ?_
  rotate_left
  · intro w'
    go_simp
    with_reducible rfl
  rotate_left
  · simp only [Act.put, List.setIfInBounds_toArray, List.set_cons_zero, List.set_cons_succ, i64_w, i32_w]
    rfl
  refine pure_ (i := 3) (N := some 10) (v := ?_) (a' := ?_) #[true, false, false, true, false, false, false, false, false, false, false, false, false, false, false, false, false, false, false, false, false, false, false, false, false, false, false, false, false, false, false] rfl rfl (any_of HT_.out (by kernel_rfl)) (fun _ _ _ h => h) (Or.inl ⟨by rfl, ?_⟩) ?_ ?_
  rotate_left
  · intro w'
    go_simp
    with_reducible rfl
  rotate_left
  · simp only [Act.put, List.setIfInBounds_toArray, List.set_cons_zero, List.set_cons_succ, i64_w, i32_w]
    rfl
  refine pure_ (i := 6) (N := some 13) (v := ?_) (a' := ?_) #[true, false, false, true, false, false, true, false, false, false, false, false, false, false, false, false, false, false, false, false, false, false, false, false, false, false, false, false, false, false, false] rfl rfl (any_of HT_.out (by kernel_rfl)) (fun _ _ _ h => h) (Or.inl ⟨by rfl, ?_⟩) ?_ ?_
  rotate_left
  · intro w'
    go_simp
    with_reducible rfl
  rotate_left
  · simp only [Act.put, List.setIfInBounds_toArray, List.set_cons_zero, List.set_cons_succ, i64_w, i32_w]
    rfl
  refine pure_ (i := 9) (N := some 16) (v := ?_) (a' := ?_) #[true, false, false, true, false, false, true, false, false, true, false, false, false, false, false, false, false, false, false, false, false, false, false, false, false, false, false, false, false, false, false] rfl rfl (any_of HT_.out (by kernel_rfl)) (fun _ _ _ h => h) (Or.inl ⟨by rfl, ?_⟩) ?_ ?_
  rotate_left
  · intro w'
    go_simp
    with_reducible rfl
  rotate_left
  · simp only [Act.put, List.setIfInBounds_toArray, List.set_cons_zero, List.set_cons_succ, i64_w, i32_w]
    rfl
  refine pure_ (i := 12) (N := some 19) (v := ?_) (a' := ?_) #[true, false, false, true, false, false, true, false, false, true, false, false, true, false, false, false, false, false, false, false, false, false, false, false, false, false, false, false, false, false, false] rfl rfl (any_of HT_.out (by kernel_rfl)) (fun _ _ _ h => h) (Or.inl ⟨by rfl, ?_⟩) ?_ ?_
  rotate_left
  · intro w'
    go_simp
    with_reducible rfl
  rotate_left
  · simp only [Act.put, List.setIfInBounds_toArray, List.set_cons_zero, List.set_cons_succ, i64_w, i32_w]
    rfl
  refine pure_ (i := 15) (N := some 22) (v := ?_) (a' := ?_) #[true, false, false, true, false, false, true, false, false, true, false, false, true, false, false, true, false, false, false, false, false, false, false, false, false, false, false, false, false, false, false] rfl rfl (any_of HT_.out (by kernel_rfl)) (fun _ _ _ h => h) (Or.inl ⟨by rfl, ?_⟩) ?_ ?_
  rotate_left
  · intro w'
    go_simp
    with_reducible rfl
  rotate_left
  · simp only [Act.put, List.setIfInBounds_toArray, List.set_cons_zero, List.set_cons_succ, i64_w, i32_w]
    rfl
  refine pure_ (i := 18) (N := some 25) (v := ?_) (a' := ?_) #[true, false, false, true, false, false, true, false, false, true, false, false, true, false, false, true, false, false, true, false, false, false, false, false, false, false, false, false, false, false, false] rfl rfl (any_of HT_.out (by kernel_rfl)) (fun _ _ _ h => h) (Or.inl ⟨by rfl, ?_⟩) ?_ ?_
  rotate_left
  · intro w'
    go_simp
    with_reducible rfl
  rotate_left
  · simp only [Act.put, List.setIfInBounds_toArray, List.set_cons_zero, List.set_cons_succ, i64_w, i32_w]
    rfl
  refine pure_ (i := 21) (N := some 28) (v := ?_) (a' := ?_) #[true, false, false, true, false, false, true, false, false, true, false, false, true, false, false, true, false, false, true, false, false, true, false, false, false, false, false, false, false, false, false] rfl rfl (any_of HT_.out (by kernel_rfl)) (fun _ _ _ h => h) (Or.inl ⟨by rfl, ?_⟩) ?_ ?_
  rotate_left
  · intro w'
    go_simp
    with_reducible rfl
  rotate_left
  · simp only [Act.put, List.setIfInBounds_toArray, List.set_cons_zero, List.set_cons_succ, i64_w, i32_w]
    rfl
  refine take_ (i := 1) (N := some 8) (v := ?_) (a' := ?_) #[true, true, false, true, false, false, true, false, false, true, false, false, true, false, false, true, false, false, true, false, false, true, false, false, false, false, false, false, false, false, false] rfl rfl (take_ofW HT_.out HW_.out (by kernel_rfl)) (fun _ _ _ h => h) (Or.inl ⟨by rfl, ?_⟩) hHeld ?_ ?_
  rotate_left
  · rintro w' ⟨s0, s1, s2, s3, s4, s5, s6, s7⟩
    go_simp
    with_reducible rfl
  rotate_left
  · simp only [Act.put, List.setIfInBounds_toArray, List.set_cons_zero, List.set_cons_succ, i64_w, i32_w]
    rfl
  refine take_ (i := 4) (N := some 11) (v := ?_) (a' := ?_) #[true, true, false, true, true, false, true, false, false, true, false, false, true, false, false, true, false, false, true, false, false, true, false, false, false, false, false, false, false, false, false] rfl rfl (take_ofW HT_.out HW_.out (by kernel_rfl)) (fun _ _ _ h => h) (Or.inl ⟨by rfl, ?_⟩) hHeld ?_ ?_
  rotate_left
  · rintro w' ⟨s0, s1, s2, s3, s4, s5, s6, s7⟩
    go_simp
    with_reducible rfl
  rotate_left
  · simp only [Act.put, List.setIfInBounds_toArray, List.set_cons_zero, List.set_cons_succ, i64_w, i32_w]
    rfl
  refine take_ (i := 7) (N := some 14) (v := ?_) (a' := ?_) #[true, true, false, true, true, false, true, true, false, true, false, false, true, false, false, true, false, false, true, false, false, true, false, false, false, false, false, false, false, false, false] rfl rfl (take_ofW HT_.out HW_.out (by kernel_rfl)) (fun _ _ _ h => h) (Or.inl ⟨by rfl, ?_⟩) hHeld ?_ ?_
  rotate_left
  · rintro w' ⟨s0, s1, s2, s3, s4, s5, s6, s7⟩
    go_simp
    with_reducible rfl
  rotate_left
  · simp only [Act.put, List.setIfInBounds_toArray, List.set_cons_zero, List.set_cons_succ, i64_w, i32_w]
    rfl
  refine take_ (i := 10) (N := some 17) (v := ?_) (a' := ?_) #[true, true, false, true, true, false, true, true, false, true, true, false, true, false, false, true, false, false, true, false, false, true, false, false, false, false, false, false, false, false, false] rfl rfl (take_ofW HT_.out HW_.out (by kernel_rfl)) (fun _ _ _ h => h) (Or.inl ⟨by rfl, ?_⟩) hHeld ?_ ?_
  rotate_left
  · rintro w' ⟨s0, s1, s2, s3, s4, s5, s6, s7⟩
    go_simp
    with_reducible rfl
  rotate_left
  · simp only [Act.put, List.setIfInBounds_toArray, List.set_cons_zero, List.set_cons_succ, i64_w, i32_w]
    rfl
  refine take_ (i := 13) (N := some 20) (v := ?_) (a' := ?_) #[true, true, false, true, true, false, true, true, false, true, true, false, true, true, false, true, false, false, true, false, false, true, false, false, false, false, false, false, false, false, false] rfl rfl (take_ofW HT_.out HW_.out (by kernel_rfl)) (fun _ _ _ h => h) (Or.inl ⟨by rfl, ?_⟩) hHeld ?_ ?_
  rotate_left
  · rintro w' ⟨s0, s1, s2, s3, s4, s5, s6, s7⟩
    go_simp
    with_reducible rfl
  rotate_left
  · simp only [Act.put, List.setIfInBounds_toArray, List.set_cons_zero, List.set_cons_succ, i64_w, i32_w]
    rfl
  refine take_ (i := 16) (N := some 23) (v := ?_) (a' := ?_) #[true, true, false, true, true, false, true, true, false, true, true, false, true, true, false, true, true, false, true, false, false, true, false, false, false, false, false, false, false, false, false] rfl rfl (take_ofW HT_.out HW_.out (by kernel_rfl)) (fun _ _ _ h => h) (Or.inl ⟨by rfl, ?_⟩) hHeld ?_ ?_
  rotate_left
  · rintro w' ⟨s0, s1, s2, s3, s4, s5, s6, s7⟩
    go_simp
    with_reducible rfl
  rotate_left
  · simp only [Act.put, List.setIfInBounds_toArray, List.set_cons_zero, List.set_cons_succ, i64_w, i32_w]
    rfl
  refine take_ (i := 19) (N := some 26) (v := ?_) (a' := ?_) #[true, true, false, true, true, false, true, true, false, true, true, false, true, true, false, true, true, false, true, true, false, true, false, false, false, false, false, false, false, false, false] rfl rfl (take_ofW HT_.out HW_.out (by kernel_rfl)) (fun _ _ _ h => h) (Or.inl ⟨by rfl, ?_⟩) hHeld ?_ ?_
  rotate_left
  · rintro w' ⟨s0, s1, s2, s3, s4, s5, s6, s7⟩
    go_simp
    with_reducible rfl
  rotate_left
  · simp only [Act.put, List.setIfInBounds_toArray, List.set_cons_zero, List.set_cons_succ, i64_w, i32_w]
    rfl
  refine take_ (i := 22) (N := some 29) (v := ?_) (a' := ?_) #[true, true, false, true, true, false, true, true, false, true, true, false, true, true, false, true, true, false, true, true, false, true, true, false, false, false, false, false, false, false, false] rfl rfl (take_ofW HT_.out HW_.out (by kernel_rfl)) (fun _ _ _ h => h) (Or.inl ⟨by rfl, ?_⟩) hHeld ?_ ?_
  rotate_left
  · rintro w' ⟨s0, s1, s2, s3, s4, s5, s6, s7⟩
    go_simp
    with_reducible rfl
  rotate_left
  · simp only [Act.put, List.setIfInBounds_toArray, List.set_cons_zero, List.set_cons_succ, i64_w, i32_w]
    rfl
  refine one_ (i := 2) (N := some 9) #[true, true, true, true, true, false, true, true, false, true, true, false, true, true, false, true, true, false, true, true, false, true, true, false, false, false, false, false, false, false, false] rfl rfl (one_of HT_.out (by kernel_rfl)) (by decide) (fun K hK => ?_)
  refine goes_ Tryd.func21 (by kernel_rfl) rfl #[.int .i64 k] (by rfl) rfl rfl (by simp only [List.map_toArray, List.map_cons, List.map_nil]; rfl) ?_
  with_reducible refine (num_any _ _).mono ?_
  rintro e wn ⟨rfl, hb⟩
  refine ⟨_, rfl, ?_⟩
  have FN_ := Aside0.mk (FF.out.step hb)
  clear FF hb
  have FF := FN_
  clear FN_
  refine hK.out _ _ ⟨(blk_cell FF.out.bx 0).trans rfl, (blk_cell FF.out.bx 1).trans rfl, (blk_cell FF.out.bx 2).trans rfl, (blk_cell FF.out.bx 3).trans rfl, (blk_cell FF.out.bx 4).trans rfl, (blk_cell FF.out.bx 5).trans rfl, (blk_cell FF.out.bx 6).trans rfl, (blk_cell FF.out.bx 7).trans rfl⟩ (fun hHeld => ?_)
  clear hK K
  refine norm_ (a' := ?_) ?_ ?_
  rotate_left
  · show Act.put _ (some 9) _ = _
    simp only [Act.put, List.setIfInBounds_toArray, List.set_cons_zero, List.set_cons_succ, i64_w, i32_w]
    rfl
  refine one_ (i := 5) (N := some 12) #[true, true, true, true, true, true, true, true, false, true, true, false, true, true, false, true, true, false, true, true, false, true, true, false, false, false, false, false, false, false, false] rfl rfl (one_of HT_.out (by kernel_rfl)) (by decide) (fun K hK => ?_)
  refine goes_ Tryd.func22 (by kernel_rfl) rfl #[.string u] (by rfl) rfl rfl (by simp only [List.map_toArray, List.map_cons, List.map_nil]; rfl) ?_
  with_reducible refine (word_any u HU.out _).mono ?_
  rintro e wn ⟨A1, c1, rfl, hs, hc, hb⟩
  refine ⟨_, rfl, ?_⟩
  have C1 := Aside0.mk hc
  have S1 := Aside0.mk hs
  clear hc hs
  have FN_ := Aside0.mk (FF.out.step hb)
  clear FF hb
  have FF := FN_
  clear FN_
  refine hK.out _ _ ⟨(blk_cell FF.out.bx 0).trans rfl, (blk_cell FF.out.bx 1).trans rfl, (blk_cell FF.out.bx 2).trans rfl, (blk_cell FF.out.bx 3).trans rfl, (blk_cell FF.out.bx 4).trans rfl, (blk_cell FF.out.bx 5).trans rfl, (blk_cell FF.out.bx 6).trans rfl, (blk_cell FF.out.bx 7).trans rfl⟩ (fun hHeld => ?_)
  clear hK K
  refine norm_ (a' := ?_) ?_ ?_
  rotate_left
  · show Act.put _ (some 12) _ = _
    simp only [Act.put, List.setIfInBounds_toArray, List.set_cons_zero, List.set_cons_succ, i64_w, i32_w]
    rfl
  refine one_ (i := 8) (N := some 15) #[true, true, true, true, true, true, true, true, true, true, true, false, true, true, false, true, true, false, true, true, false, true, true, false, false, false, false, false, false, false, false] rfl rfl (one_of HT_.out (by kernel_rfl)) (by decide) (fun K hK => ?_)
  refine goes_ Tryd.func22 (by kernel_rfl) rfl #[.string f] (by rfl) rfl rfl (by simp only [List.map_toArray, List.map_cons, List.map_nil]; rfl) ?_
  with_reducible refine (word_any f HF.out _).mono ?_
  rintro e wn ⟨A2, c2, rfl, hs, hc, hb⟩
  refine ⟨_, rfl, ?_⟩
  have T_ := Aside0.mk (Kd.C_below C1.out hb)
  clear C1
  have C1 := T_
  clear T_
  have C2 := Aside0.mk hc
  have S2 := Aside0.mk hs
  clear hc hs
  have FN_ := Aside0.mk (FF.out.step hb)
  clear FF hb
  have FF := FN_
  clear FN_
  refine hK.out _ _ ⟨(blk_cell FF.out.bx 0).trans rfl, (blk_cell FF.out.bx 1).trans rfl, (blk_cell FF.out.bx 2).trans rfl, (blk_cell FF.out.bx 3).trans rfl, (blk_cell FF.out.bx 4).trans rfl, (blk_cell FF.out.bx 5).trans rfl, (blk_cell FF.out.bx 6).trans rfl, (blk_cell FF.out.bx 7).trans rfl⟩ (fun hHeld => ?_)
  clear hK K
  refine norm_ (a' := ?_) ?_ ?_
  rotate_left
  · show Act.put _ (some 15) _ = _
    simp only [Act.put, List.setIfInBounds_toArray, List.set_cons_zero, List.set_cons_succ, i64_w, i32_w]
    rfl
  refine one_ (i := 11) (N := some 18) #[true, true, true, true, true, true, true, true, true, true, true, true, true, true, false, true, true, false, true, true, false, true, true, false, false, false, false, false, false, false, false] rfl rfl (one_of HT_.out (by kernel_rfl)) (by decide) (fun K hK => ?_)
  refine goes_ Tryd.func22 (by kernel_rfl) rfl #[.string n] (by rfl) rfl rfl (by simp only [List.map_toArray, List.map_cons, List.map_nil]; rfl) ?_
  with_reducible refine (word_any n HN.out _).mono ?_
  rintro e wn ⟨A3, c3, rfl, hs, hc, hb⟩
  refine ⟨_, rfl, ?_⟩
  have T_ := Aside0.mk (Kd.C_below C1.out hb)
  clear C1
  have C1 := T_
  clear T_
  have T_ := Aside0.mk (Kd.C_below C2.out hb)
  clear C2
  have C2 := T_
  clear T_
  have C3 := Aside0.mk hc
  have S3 := Aside0.mk hs
  clear hc hs
  have FN_ := Aside0.mk (FF.out.step hb)
  clear FF hb
  have FF := FN_
  clear FN_
  refine hK.out _ _ ⟨(blk_cell FF.out.bx 0).trans rfl, (blk_cell FF.out.bx 1).trans rfl, (blk_cell FF.out.bx 2).trans rfl, (blk_cell FF.out.bx 3).trans rfl, (blk_cell FF.out.bx 4).trans rfl, (blk_cell FF.out.bx 5).trans rfl, (blk_cell FF.out.bx 6).trans rfl, (blk_cell FF.out.bx 7).trans rfl⟩ (fun hHeld => ?_)
  clear hK K
  refine norm_ (a' := ?_) ?_ ?_
  rotate_left
  · show Act.put _ (some 18) _ = _
    simp only [Act.put, List.setIfInBounds_toArray, List.set_cons_zero, List.set_cons_succ, i64_w, i32_w]
    rfl
  refine one_ (i := 14) (N := some 21) #[true, true, true, true, true, true, true, true, true, true, true, true, true, true, true, true, true, false, true, true, false, true, true, false, false, false, false, false, false, false, false] rfl rfl (one_of HT_.out (by kernel_rfl)) (by decide) (fun K hK => ?_)
  refine goes_ Tryd.func22 (by kernel_rfl) rfl #[.string o] (by rfl) rfl rfl (by simp only [List.map_toArray, List.map_cons, List.map_nil]; rfl) ?_
  with_reducible refine (word_any o HO.out _).mono ?_
  rintro e wn ⟨A4, c4, rfl, hs, hc, hb⟩
  refine ⟨_, rfl, ?_⟩
  have T_ := Aside0.mk (Kd.C_below C1.out hb)
  clear C1
  have C1 := T_
  clear T_
  have T_ := Aside0.mk (Kd.C_below C2.out hb)
  clear C2
  have C2 := T_
  clear T_
  have T_ := Aside0.mk (Kd.C_below C3.out hb)
  clear C3
  have C3 := T_
  clear T_
  have C4 := Aside0.mk hc
  have S4 := Aside0.mk hs
  clear hc hs
  have FN_ := Aside0.mk (FF.out.step hb)
  clear FF hb
  have FF := FN_
  clear FN_
  refine hK.out _ _ ⟨(blk_cell FF.out.bx 0).trans rfl, (blk_cell FF.out.bx 1).trans rfl, (blk_cell FF.out.bx 2).trans rfl, (blk_cell FF.out.bx 3).trans rfl, (blk_cell FF.out.bx 4).trans rfl, (blk_cell FF.out.bx 5).trans rfl, (blk_cell FF.out.bx 6).trans rfl, (blk_cell FF.out.bx 7).trans rfl⟩ (fun hHeld => ?_)
  clear hK K
  refine norm_ (a' := ?_) ?_ ?_
  rotate_left
  · show Act.put _ (some 21) _ = _
    simp only [Act.put, List.setIfInBounds_toArray, List.set_cons_zero, List.set_cons_succ, i64_w, i32_w]
    rfl
  refine one_ (i := 17) (N := some 24) #[true, true, true, true, true, true, true, true, true, true, true, true, true, true, true, true, true, true, true, true, false, true, true, false, false, false, false, false, false, false, false] rfl rfl (one_of HT_.out (by kernel_rfl)) (by decide) (fun K hK => ?_)
  refine goes_ Tryd.func21 (by kernel_rfl) rfl #[.int .i64 ro] (by rfl) rfl rfl (by simp only [List.map_toArray, List.map_cons, List.map_nil]; rfl) ?_
  with_reducible refine (num_any _ _).mono ?_
  rintro e wn ⟨rfl, hb⟩
  refine ⟨_, rfl, ?_⟩
  have T_ := Aside0.mk (Kd.C_below C1.out hb)
  clear C1
  have C1 := T_
  clear T_
  have T_ := Aside0.mk (Kd.C_below C2.out hb)
  clear C2
  have C2 := T_
  clear T_
  have T_ := Aside0.mk (Kd.C_below C3.out hb)
  clear C3
  have C3 := T_
  clear T_
  have T_ := Aside0.mk (Kd.C_below C4.out hb)
  clear C4
  have C4 := T_
  clear T_
  have FN_ := Aside0.mk (FF.out.step hb)
  clear FF hb
  have FF := FN_
  clear FN_
  refine hK.out _ _ ⟨(blk_cell FF.out.bx 0).trans rfl, (blk_cell FF.out.bx 1).trans rfl, (blk_cell FF.out.bx 2).trans rfl, (blk_cell FF.out.bx 3).trans rfl, (blk_cell FF.out.bx 4).trans rfl, (blk_cell FF.out.bx 5).trans rfl, (blk_cell FF.out.bx 6).trans rfl, (blk_cell FF.out.bx 7).trans rfl⟩ (fun hHeld => ?_)
  clear hK K
  refine norm_ (a' := ?_) ?_ ?_
  rotate_left
  · show Act.put _ (some 24) _ = _
    simp only [Act.put, List.setIfInBounds_toArray, List.set_cons_zero, List.set_cons_succ, i64_w, i32_w]
    rfl
  refine one_ (i := 20) (N := some 27) #[true, true, true, true, true, true, true, true, true, true, true, true, true, true, true, true, true, true, true, true, true, true, true, false, false, false, false, false, false, false, false] rfl rfl (one_of HT_.out (by kernel_rfl)) (by decide) (fun K hK => ?_)
  refine goes_ Tryd.func21 (by kernel_rfl) rfl #[.int .i64 ve] (by rfl) rfl rfl (by simp only [List.map_toArray, List.map_cons, List.map_nil]; rfl) ?_
  with_reducible refine (num_any _ _).mono ?_
  rintro e wn ⟨rfl, hb⟩
  refine ⟨_, rfl, ?_⟩
  have T_ := Aside0.mk (Kd.C_below C1.out hb)
  clear C1
  have C1 := T_
  clear T_
  have T_ := Aside0.mk (Kd.C_below C2.out hb)
  clear C2
  have C2 := T_
  clear T_
  have T_ := Aside0.mk (Kd.C_below C3.out hb)
  clear C3
  have C3 := T_
  clear T_
  have T_ := Aside0.mk (Kd.C_below C4.out hb)
  clear C4
  have C4 := T_
  clear T_
  have FN_ := Aside0.mk (FF.out.step hb)
  clear FF hb
  have FF := FN_
  clear FN_
  refine hK.out _ _ ⟨(blk_cell FF.out.bx 0).trans rfl, (blk_cell FF.out.bx 1).trans rfl, (blk_cell FF.out.bx 2).trans rfl, (blk_cell FF.out.bx 3).trans rfl, (blk_cell FF.out.bx 4).trans rfl, (blk_cell FF.out.bx 5).trans rfl, (blk_cell FF.out.bx 6).trans rfl, (blk_cell FF.out.bx 7).trans rfl⟩ (fun hHeld => ?_)
  clear hK K
  refine norm_ (a' := ?_) ?_ ?_
  rotate_left
  · show Act.put _ (some 27) _ = _
    simp only [Act.put, List.setIfInBounds_toArray, List.set_cons_zero, List.set_cons_succ, i64_w, i32_w]
    rfl
  refine one_ (i := 23) (N := some 30) #[true, true, true, true, true, true, true, true, true, true, true, true, true, true, true, true, true, true, true, true, true, true, true, true, false, false, false, false, false, false, false] rfl rfl (one_of HT_.out (by kernel_rfl)) (by decide) (fun K hK => ?_)
  refine goes_ Tryd.func23 (by kernel_rfl) rfl #[.slice A7 l7.length c7] (by rfl) rfl rfl (by simp only [List.map_toArray, List.map_cons, List.map_nil]; rfl) ?_
  with_reducible refine (raw_any _ _ _ _).mono ?_
  rintro e wn ⟨rfl, hb⟩
  refine ⟨_, rfl, ?_⟩
  have T_ := Aside0.mk (Kd.C_below C1.out hb)
  clear C1
  have C1 := T_
  clear T_
  have T_ := Aside0.mk (Kd.C_below C2.out hb)
  clear C2
  have C2 := T_
  clear T_
  have T_ := Aside0.mk (Kd.C_below C3.out hb)
  clear C3
  have C3 := T_
  clear T_
  have T_ := Aside0.mk (Kd.C_below C4.out hb)
  clear C4
  have C4 := T_
  clear T_
  have FN_ := Aside0.mk (FF.out.step hb)
  clear FF hb
  have FF := FN_
  clear FN_
  refine hK.out _ _ ⟨(blk_cell FF.out.bx 0).trans rfl, (blk_cell FF.out.bx 1).trans rfl, (blk_cell FF.out.bx 2).trans rfl, (blk_cell FF.out.bx 3).trans rfl, (blk_cell FF.out.bx 4).trans rfl, (blk_cell FF.out.bx 5).trans rfl, (blk_cell FF.out.bx 6).trans rfl, (blk_cell FF.out.bx 7).trans rfl⟩ (fun hHeld => ?_)
  clear hK K
  refine norm_ (a' := ?_) ?_ ?_
  rotate_left
  · show Act.put _ (some 30) _ = _
    simp only [Act.put, List.setIfInBounds_toArray, List.set_cons_zero, List.set_cons_succ, i64_w, i32_w]
    rfl
  refine one_ (i := 24) (N := some 31) #[true, true, true, true, true, true, true, true, true, true, true, true, true, true, true, true, true, true, true, true, true, true, true, true, true, false, false, false, false, false, false] rfl rfl (one_of HT_.out (by kernel_rfl)) (by decide) (fun K hK => ?_)
  refine event_step (w1 := wn.alloc (.cells #[.int .i64 1, .int .i64 k, .slice none 0 0, .slice none 0 0, .int .i64 2, .int .i64 0, .slice A1 (bytesOf u).length c1, .slice none 0 0, .int .i64 2, .int .i64 0, .slice A2 (bytesOf f).length c2, .slice none 0 0, .int .i64 2, .int .i64 0, .slice A3 (bytesOf n).length c3, .slice none 0 0, .int .i64 2, .int .i64 0, .slice A4 (bytesOf o).length c4, .slice none 0 0, .int .i64 1, .int .i64 ro, .slice none 0 0, .slice none 0 0, .int .i64 1, .int .i64 ve, .slice none 0 0, .slice none 0 0, .int .i64 2, .int .i64 0, .slice A7 l7.length c7, .slice none 0 0] 43)) (v := .slice (some ⟨wn.heap.size, 0, none⟩) 8 8) (by rfl) ?_ ?_
  · first | (go_simp; done) | (go_simp; rfl)
  have hb := below_alloc (Below.refl wn.heap.size wn) (.cells #[.int .i64 1, .int .i64 k, .slice none 0 0, .slice none 0 0, .int .i64 2, .int .i64 0, .slice A1 (bytesOf u).length c1, .slice none 0 0, .int .i64 2, .int .i64 0, .slice A2 (bytesOf f).length c2, .slice none 0 0, .int .i64 2, .int .i64 0, .slice A3 (bytesOf n).length c3, .slice none 0 0, .int .i64 2, .int .i64 0, .slice A4 (bytesOf o).length c4, .slice none 0 0, .int .i64 1, .int .i64 ro, .slice none 0 0, .slice none 0 0, .int .i64 1, .int .i64 ve, .slice none 0 0, .slice none 0 0, .int .i64 2, .int .i64 0, .slice A7 l7.length c7, .slice none 0 0] 43)
  have G8 := Aside0.mk (show (wn.alloc (.cells #[.int .i64 1, .int .i64 k, .slice none 0 0, .slice none 0 0, .int .i64 2, .int .i64 0, .slice A1 (bytesOf u).length c1, .slice none 0 0, .int .i64 2, .int .i64 0, .slice A2 (bytesOf f).length c2, .slice none 0 0, .int .i64 2, .int .i64 0, .slice A3 (bytesOf n).length c3, .slice none 0 0, .int .i64 2, .int .i64 0, .slice A4 (bytesOf o).length c4, .slice none 0 0, .int .i64 1, .int .i64 ro, .slice none 0 0, .slice none 0 0, .int .i64 1, .int .i64 ve, .slice none 0 0, .slice none 0 0, .int .i64 2, .int .i64 0, .slice A7 l7.length c7, .slice none 0 0] 43)).heap[wn.heap.size]? = some (.cells #[.int .i64 1, .int .i64 k, .slice none 0 0, .slice none 0 0, .int .i64 2, .int .i64 0, .slice A1 (bytesOf u).length c1, .slice none 0 0, .int .i64 2, .int .i64 0, .slice A2 (bytesOf f).length c2, .slice none 0 0, .int .i64 2, .int .i64 0, .slice A3 (bytesOf n).length c3, .slice none 0 0, .int .i64 2, .int .i64 0, .slice A4 (bytesOf o).length c4, .slice none 0 0, .int .i64 1, .int .i64 ro, .slice none 0 0, .slice none 0 0, .int .i64 1, .int .i64 ve, .slice none 0 0, .slice none 0 0, .int .i64 2, .int .i64 0, .slice A7 l7.length c7, .slice none 0 0] 43 (0, 0)) from blk_new wn _)
  have T_ := Aside0.mk (Kd.C_below C1.out hb)
  clear C1
  have C1 := T_
  clear T_
  have T_ := Aside0.mk (Kd.C_below C2.out hb)
  clear C2
  have C2 := T_
  clear T_
  have T_ := Aside0.mk (Kd.C_below C3.out hb)
  clear C3
  have C3 := T_
  clear T_
  have T_ := Aside0.mk (Kd.C_below C4.out hb)
  clear C4
  have C4 := T_
  clear T_
  have FN_ := Aside0.mk (FF.out.step hb)
  clear FF hb
  have FF := FN_
  clear FN_
  generalize wn.alloc (.cells #[.int .i64 1, .int .i64 k, .slice none 0 0, .slice none 0 0, .int .i64 2, .int .i64 0, .slice A1 (bytesOf u).length c1, .slice none 0 0, .int .i64 2, .int .i64 0, .slice A2 (bytesOf f).length c2, .slice none 0 0, .int .i64 2, .int .i64 0, .slice A3 (bytesOf n).length c3, .slice none 0 0, .int .i64 2, .int .i64 0, .slice A4 (bytesOf o).length c4, .slice none 0 0, .int .i64 1, .int .i64 ro, .slice none 0 0, .slice none 0 0, .int .i64 1, .int .i64 ve, .slice none 0 0, .slice none 0 0, .int .i64 2, .int .i64 0, .slice A7 l7.length c7, .slice none 0 0] 43) = wm at FF G8 C1 C2 C3 C4 ⊢
  generalize wn.heap.size = g8 at G8 ⊢
  refine hK.out _ _ ⟨(blk_cell FF.out.bx 0).trans rfl, (blk_cell FF.out.bx 1).trans rfl, (blk_cell FF.out.bx 2).trans rfl, (blk_cell FF.out.bx 3).trans rfl, (blk_cell FF.out.bx 4).trans rfl, (blk_cell FF.out.bx 5).trans rfl, (blk_cell FF.out.bx 6).trans rfl, (blk_cell FF.out.bx 7).trans rfl⟩ (fun hHeld => ?_)
  clear hK K
  refine norm_ (a' := ?_) ?_ ?_
  rotate_left
  · show Act.put _ (some 31) _ = _
    simp only [Act.put, List.setIfInBounds_toArray, List.set_cons_zero, List.set_cons_succ, i64_w, i32_w]
    rfl
  refine one_ (i := 25) (N := some 32) #[true, true, true, true, true, true, true, true, true, true, true, true, true, true, true, true, true, true, true, true, true, true, true, true, true, true, false, false, false, false, false] rfl rfl (one_of HT_.out (by kernel_rfl)) (by decide) (fun K hK => ?_)
  refine goes_ Tryd.func20 (by kernel_rfl) rfl #[.slice (some ⟨g8, 0, none⟩) 8 8] (by rfl) rfl rfl (by simp only [List.map_toArray, List.map_cons, List.map_nil]; rfl) ?_
  with_reducible refine (of_any _ _ _ _).mono ?_
  rintro e wn ⟨rfl, hb⟩
  refine ⟨_, rfl, ?_⟩
  have T_ := Aside0.mk (Kd.C_below C1.out hb)
  clear C1
  have C1 := T_
  clear T_
  have T_ := Aside0.mk (Kd.C_below C2.out hb)
  clear C2
  have C2 := T_
  clear T_
  have T_ := Aside0.mk (Kd.C_below C3.out hb)
  clear C3
  have C3 := T_
  clear T_
  have T_ := Aside0.mk (Kd.C_below C4.out hb)
  clear C4
  have C4 := T_
  clear T_
  have G9 := Aside0.mk ((hb.block _ (blk_lt G8.out)).trans G8.out)
  clear G8
  have G8 := G9
  clear G9
  have FN_ := Aside0.mk (FF.out.step hb)
  clear FF hb
  have FF := FN_
  clear FN_
  refine hK.out _ _ ⟨(blk_cell FF.out.bx 0).trans rfl, (blk_cell FF.out.bx 1).trans rfl, (blk_cell FF.out.bx 2).trans rfl, (blk_cell FF.out.bx 3).trans rfl, (blk_cell FF.out.bx 4).trans rfl, (blk_cell FF.out.bx 5).trans rfl, (blk_cell FF.out.bx 6).trans rfl, (blk_cell FF.out.bx 7).trans rfl⟩ (fun hHeld => ?_)
  clear hK K
  refine norm_ (a' := ?_) ?_ ?_
  rotate_left
  · show Act.put _ (some 32) _ = _
    simp only [Act.put, List.setIfInBounds_toArray, List.set_cons_zero, List.set_cons_succ, i64_w, i32_w]
    rfl
  refine one_ (i := 26) (N := some 33) #[true, true, true, true, true, true, true, true, true, true, true, true, true, true, true, true, true, true, true, true, true, true, true, true, true, true, true, false, false, false, false] rfl rfl (one_of HT_.out (by kernel_rfl)) (by decide) (fun K hK => ?_)
  refine goes_ Tryd.func19 (by kernel_rfl) rfl #[.agg #[.int .i64 3, .int .i64 0, .slice none 0 0, .slice (some ⟨g8, 0, none⟩) 8 8]] (by rfl) rfl rfl (by simp only [List.map_toArray, List.map_cons, List.map_nil]; rfl) ?_
  with_reducible refine (enc_lit kk g8 (row8 k u f n o ro ve l7) rfl bs er _ (C_row8 G8.out C1.out S1.out C2.out S2.out C3.out S3.out C4.out S4.out FF.out.c7 L7.out) HE.out).mono ?_
  rintro e wn ⟨v0, rfl, hr, hb⟩
  refine ⟨_, rfl, ?_⟩
  have HR := Aside0.mk (Kd.R_lower hr FF.out.hb.size)
  clear hr
  have FN_ := Aside0.mk (FF.out.step hb)
  clear FF hb
  have FF := FN_
  clear FN_
  refine hK.out _ _ ⟨(blk_cell FF.out.bx 0).trans rfl, (blk_cell FF.out.bx 1).trans rfl, (blk_cell FF.out.bx 2).trans rfl, (blk_cell FF.out.bx 3).trans rfl, (blk_cell FF.out.bx 4).trans rfl, (blk_cell FF.out.bx 5).trans rfl, (blk_cell FF.out.bx 6).trans rfl, (blk_cell FF.out.bx 7).trans rfl⟩ (fun hHeld => ?_)
  clear hK K
  refine norm_ (a' := ?_) ?_ ?_
  rotate_left
  · show Act.put _ (some 33) _ = _
    simp only [Act.put, List.setIfInBounds_toArray, List.set_cons_zero, List.set_cons_succ, i64_w, i32_w]
    rfl
  refine pure_ (i := 27) (N := some 34) (v := ?_) (a' := ?_) #[true, true, true, true, true, true, true, true, true, true, true, true, true, true, true, true, true, true, true, true, true, true, true, true, true, true, true, true, false, false, false] rfl rfl (any_of HT_.out (by kernel_rfl)) (fun _ _ _ h => h) (Or.inl ⟨by rfl, ?_⟩) ?_ ?_
  rotate_left
  · intro w'
    go_simp
    with_reducible rfl
  rotate_left
  · simp only [Act.put, List.setIfInBounds_toArray, List.set_cons_zero, List.set_cons_succ, i64_w, i32_w]
    rfl
  refine pure_ (i := 28) (N := some 35) (v := ?_) (a' := ?_) #[true, true, true, true, true, true, true, true, true, true, true, true, true, true, true, true, true, true, true, true, true, true, true, true, true, true, true, true, true, false, false] rfl rfl (any_of HT_.out (by kernel_rfl)) (fun _ _ _ h => h) (Or.inl ⟨by rfl, ?_⟩) ?_ ?_
  rotate_left
  · intro w'
    go_simp
    with_reducible rfl
  rotate_left
  · simp only [Act.put, List.setIfInBounds_toArray, List.set_cons_zero, List.set_cons_succ, i64_w, i32_w]
    rfl
  refine pure_ (i := 29) (N := some 2) (v := ?_) (a' := ?_) #[true, true, true, true, true, true, true, true, true, true, true, true, true, true, true, true, true, true, true, true, true, true, true, true, true, true, true, true, true, true, false] rfl rfl (any_of HT_.out (by kernel_rfl)) (fun _ _ _ h => h) (Or.inl ⟨by rfl, ?_⟩) ?_ ?_
  rotate_left
  · intro w'
    go_simp
    with_reducible rfl
  rotate_left
  · simp only [Act.put, List.setIfInBounds_toArray, List.set_cons_zero, List.set_cons_succ, i64_w, i32_w]
    rfl
  refine pure_ (i := 30) (N := some 3) (v := ?_) (a' := ?_) #[true, true, true, true, true, true, true, true, true, true, true, true, true, true, true, true, true, true, true, true, true, true, true, true, true, true, true, true, true, true, true] rfl rfl (any_of HT_.out (by kernel_rfl)) (fun _ _ _ h => h) (Or.inl ⟨by rfl, ?_⟩) ?_ ?_
  rotate_left
  · intro w'
    go_simp
    with_reducible rfl
  rotate_left
  · simp only [Act.put, List.setIfInBounds_toArray, List.set_cons_zero, List.set_cons_succ, i64_w, i32_w]
    rfl
  refine done_ (done_of HT_.out (by kernel_rfl)) ?_
  go_wp2
  go_ret2
  exact ⟨v0, rfl, HR.out, FF.out.hb⟩
set_option maxHeartbeats 4000000 in
set_option maxRecDepth 100000 in
theorem bytes30_any (kk : Nat) (k : Int) (u f n o : ByteArray) (ro ve : Int) (A7 : Option Addr) (c7 : Nat) (l7 : List Int) (bs : List Int) (w : World) (hu : u.size ≤ 9223372036854775807) (hf : f.size ≤ 9223372036854775807) (hn : n.size ≤ 9223372036854775807) (ho : o.size ≤ 9223372036854775807) (h7 : Kd.C (Kd.int .u8) w A7 l7.length l7) (l7c : l7.length ≤ c7)
    (he : bastilleref02_Bytes.f kk 3 0 [] (row8 k u f n o ro ve l7) = some bs) :
    Calls Tryd.prog 16 #[.agg #[.int .i64 k, .string u, .string f, .string n, .string o, .int .i64 ro, .int .i64 ve, .slice A7 l7.length c7]] w fun e w' => ∃ v0, e = .returned v0 ∧ Kd.R (Kd.int .u8) 5 w' w.heap.size (fun _ => True) v0 bs ∧ Below w.heap.size w w' := by
  have HU := Aside0.mk hu
  have HF := Aside0.mk hf
  have HN := Aside0.mk hn
  have HO := Aside0.mk ho
  have L7 := Aside0.mk l7c
  have HE := Aside0.mk he
  have FF0 := Aside0.mk (show WS w k u f n o ro ve A7 c7 l7 _ from ⟨(Below.refl _ w).alloc (Nat.le_refl _) (.cells #[.int .i64 k, .string u, .string f, .string n, .string o, .int .i64 ro, .int .i64 ve, .slice A7 l7.length c7] 24), Array.getElem?_push_size, Kd.C_below h7 (below_alloc (Below.refl _ _) _)⟩)
  clear hu hf hn ho l7c he h7
  have FF := Aside0.mk (FF0.out.step (below_drew (Below.refl _ _)))
  clear FF0
  go_enter Tryd.func16, Tryd.ntmps16
  go_upto_region 1 with (fail)
  refine start_ (n := 32) (S := fun w' => True) (ds := []) #[false, false, false, false, false, false, false, false, false, false, false, false, false, false, false, false, false, false, false, false, false, false, false, false, false, false, false, false, false, false, false, false] (by kernel_rfl) rfl rfl trivial (fun hHeld => ?_)
  refine with_tabW ref30_Bytes.tab1 ref30_Bytes.bits1 (fun HT_ HW_ => ?_)
  generalize World.drew _ = wd at FF ⊢
  refine pure_ (i := 0) (N := some 3) (v := ?_) (a' := ?_) #[true, false, false, false, false, false, false, false, false, false, false, false, false, false, false, false, false, false, false, false, false, false, false, false, false, false, false, false, false, false, false, false] rfl rfl (any_of HT_.out (by kernel_rfl)) (fun _ _ _ h => h) (Or.inl ⟨by rfl, ?_⟩) ?_ ?_
  rotate_left
  · intro w'
    go_simp
    with_reducible rfl
  rotate_left
  · simp only [Act.put, List.setIfInBounds_toArray, List.set_cons_zero, List.set_cons_succ, i64_w, i32_w]
    rfl
  refine pure_ (i := 3) (N := some 6) (v := ?_) (a' := ?_) #[true, false, false, true, false, false, false, false, false, false, false, false, false, false, false, false, false, false, false, false, false, false, false, false, false, false, false, false, false, false, false, false] rfl rfl (any_of HT_.out (by kernel_rfl)) (fun _ _ _ h => h) (Or.inl ⟨by rfl, ?_⟩) ?_ ?_
  rotate_left
  · intro w'
    go_simp
    with_reducible rfl
  rotate_left
  · simp only [Act.put, List.setIfInBounds_toArray, List.set_cons_zero, List.set_cons_succ, i64_w, i32_w]
    rfl
  refine pure_ (i := 7) (N := some 10) (v := ?_) (a' := ?_) #[true, false, false, true, false, false, false, true, false, false, false, false, false, false, false, false, false, false, false, false, false, false, false, false, false, false, false, false, false, false, false, false] rfl rfl (any_of HT_.out (by kernel_rfl)) (fun _ _ _ h => h) (Or.inl ⟨by rfl, ?_⟩) ?_ ?_
  rotate_left
  · intro w'
    go_simp
    with_reducible rfl
  rotate_left
  · simp only [Act.put, List.setIfInBounds_toArray, List.set_cons_zero, List.set_cons_succ, i64_w, i32_w]
    rfl
  refine pure_ (i := 11) (N := some 14) (v := ?_) (a' := ?_) #[true, false, false, true, false, false, false, true, false, false, false, true, false, false, false, false, false, false, false, false, false, false, false, false, false, false, false, false, false, false, false, false] rfl rfl (any_of HT_.out (by kernel_rfl)) (fun _ _ _ h => h) (Or.inl ⟨by rfl, ?_⟩) ?_ ?_
  rotate_left
  · intro w'
    go_simp
    with_reducible rfl
  rotate_left
  · simp only [Act.put, List.setIfInBounds_toArray, List.set_cons_zero, List.set_cons_succ, i64_w, i32_w]
    rfl
  refine pure_ (i := 15) (N := some 18) (v := ?_) (a' := ?_) #[true, false, false, true, false, false, false, true, false, false, false, true, false, false, false, true, false, false, false, false, false, false, false, false, false, false, false, false, false, false, false, false] rfl rfl (any_of HT_.out (by kernel_rfl)) (fun _ _ _ h => h) (Or.inl ⟨by rfl, ?_⟩) ?_ ?_
  rotate_left
  · intro w'
    go_simp
    with_reducible rfl
  rotate_left
  · simp only [Act.put, List.setIfInBounds_toArray, List.set_cons_zero, List.set_cons_succ, i64_w, i32_w]
    rfl
  refine pure_ (i := 19) (N := some 22) (v := ?_) (a' := ?_) #[true, false, false, true, false, false, false, true, false, false, false, true, false, false, false, true, false, false, false, true, false, false, false, false, false, false, false, false, false, false, false, false] rfl rfl (any_of HT_.out (by kernel_rfl)) (fun _ _ _ h => h) (Or.inl ⟨by rfl, ?_⟩) ?_ ?_
  rotate_left
  · intro w'
    go_simp
    with_reducible rfl
  rotate_left
  · simp only [Act.put, List.setIfInBounds_toArray, List.set_cons_zero, List.set_cons_succ, i64_w, i32_w]
    rfl
  refine pure_ (i := 22) (N := some 25) (v := ?_) (a' := ?_) #[true, false, false, true, false, false, false, true, false, false, false, true, false, false, false, true, false, false, false, true, false, false, true, false, false, false, false, false, false, false, false, false] rfl rfl (any_of HT_.out (by kernel_rfl)) (fun _ _ _ h => h) (Or.inl ⟨by rfl, ?_⟩) ?_ ?_
  rotate_left
  · intro w'
    go_simp
    with_reducible rfl
  rotate_left
  · simp only [Act.put, List.setIfInBounds_toArray, List.set_cons_zero, List.set_cons_succ, i64_w, i32_w]
    rfl
  refine pure_ (i := 25) (N := some 28) (v := ?_) (a' := ?_) #[true, false, false, true, false, false, false, true, false, false, false, true, false, false, false, true, false, false, false, true, false, false, true, false, false, true, false, false, false, false, false, false] rfl rfl (any_of HT_.out (by kernel_rfl)) (fun _ _ _ h => h) (Or.inl ⟨by rfl, ?_⟩) ?_ ?_
  rotate_left
  · intro w'
    go_simp
    with_reducible rfl
  rotate_left
  · simp only [Act.put, List.setIfInBounds_toArray, List.set_cons_zero, List.set_cons_succ, i64_w, i32_w]
    rfl
  refine inv_at [1, 2, 4, 5, 6, 8, 9, 10, 12, 13, 14, 16, 17, 18, 20, 21, 23, 24, 26, 27, 28, 29, 30, 31] (fun a0_ b a w' => ∃ (g1_ : Nat) (g2_ : Nat) (g3_ : Nat) (g4_ : Nat) (g8_ : Nat) (c1_ : Nat) (c2_ : Nat) (c3_ : Nat) (c4_ : Nat) (v0_ : Value) (m5_ : Value) (m6_ : Value) (m9_ : Value) (m10_ : Value) (m13_ : Value) (m14_ : Value) (m17_ : Value) (m18_ : Value) (m28_ : Value) (m29_ : Value) (m31_ : Value), a = putSel a0_ b [(1, 4, .int .i64 k), (2, 5, .agg #[.int .i64 1, .int .i64 k, .slice none 0 0, .slice none 0 0]), (4, 7, .string u), (5, 8, m5_), (6, 9, m6_), (8, 11, .string f), (9, 12, m9_), (10, 13, m10_), (12, 15, .string n), (13, 16, m13_), (14, 17, m14_), (16, 19, .string o), (17, 20, m17_), (18, 21, m18_), (20, 23, .int .i64 ro), (21, 24, .agg #[.int .i64 1, .int .i64 ro, .slice none 0 0, .slice none 0 0]), (23, 26, .int .i64 ve), (24, 27, .agg #[.int .i64 1, .int .i64 ve, .slice none 0 0, .slice none 0 0]), (26, 29, .slice A7 l7.length c7), (27, 30, .agg #[.int .i64 2, .int .i64 0, .slice A7 l7.length c7, .slice none 0 0]), (28, 31, m28_), (29, 32, m29_), (30, 33, v0_), (31, 2, m31_)] ∧ (WS w k u f n o ro ve A7 c7 l7 w') ∧ (b 5 = true → Kd.C (Kd.int .u8) w' (some ⟨g1_, 0, none⟩) (bytesOf u).length (bytesOf u)) ∧ (b 5 = true → (bytesOf u).length ≤ c1_) ∧ (b 9 = true → Kd.C (Kd.int .u8) w' (some ⟨g2_, 0, none⟩) (bytesOf f).length (bytesOf f)) ∧ (b 9 = true → (bytesOf f).length ≤ c2_) ∧ (b 13 = true → Kd.C (Kd.int .u8) w' (some ⟨g3_, 0, none⟩) (bytesOf n).length (bytesOf n)) ∧ (b 13 = true → (bytesOf n).length ≤ c3_) ∧ (b 17 = true → Kd.C (Kd.int .u8) w' (some ⟨g4_, 0, none⟩) (bytesOf o).length (bytesOf o)) ∧ (b 17 = true → (bytesOf o).length ≤ c4_) ∧ (b 5 = true → b 9 = true → b 13 = true → b 17 = true → b 28 = true → w'.heap[g8_]? = some (.cells #[.int .i64 1, .int .i64 k, .slice none 0 0, .slice none 0 0, .int .i64 2, .int .i64 0, .slice (some ⟨g1_, 0, none⟩) (bytesOf u).length c1_, .slice none 0 0, .int .i64 2, .int .i64 0, .slice (some ⟨g2_, 0, none⟩) (bytesOf f).length c2_, .slice none 0 0, .int .i64 2, .int .i64 0, .slice (some ⟨g3_, 0, none⟩) (bytesOf n).length c3_, .slice none 0 0, .int .i64 2, .int .i64 0, .slice (some ⟨g4_, 0, none⟩) (bytesOf o).length c4_, .slice none 0 0, .int .i64 1, .int .i64 ro, .slice none 0 0, .slice none 0 0, .int .i64 1, .int .i64 ve, .slice none 0 0, .slice none 0 0, .int .i64 2, .int .i64 0, .slice A7 l7.length c7, .slice none 0 0] 43 (0, 0))) ∧ (b 30 = true → Kd.R (Kd.int .u8) 5 w' w.heap.size (fun _ => True) v0_ bs) ∧ (b 5 = true → (m5_ : Value) = .slice (some ⟨g1_, 0, none⟩) (bytesOf u).length c1_) ∧ (b 6 = true → (m6_ : Value) = .agg #[.int .i64 2, .int .i64 0, .slice (some ⟨g1_, 0, none⟩) (bytesOf u).length c1_, .slice none 0 0]) ∧ (b 9 = true → (m9_ : Value) = .slice (some ⟨g2_, 0, none⟩) (bytesOf f).length c2_) ∧ (b 10 = true → (m10_ : Value) = .agg #[.int .i64 2, .int .i64 0, .slice (some ⟨g2_, 0, none⟩) (bytesOf f).length c2_, .slice none 0 0]) ∧ (b 13 = true → (m13_ : Value) = .slice (some ⟨g3_, 0, none⟩) (bytesOf n).length c3_) ∧ (b 14 = true → (m14_ : Value) = .agg #[.int .i64 2, .int .i64 0, .slice (some ⟨g3_, 0, none⟩) (bytesOf n).length c3_, .slice none 0 0]) ∧ (b 17 = true → (m17_ : Value) = .slice (some ⟨g4_, 0, none⟩) (bytesOf o).length c4_) ∧ (b 18 = true → (m18_ : Value) = .agg #[.int .i64 2, .int .i64 0, .slice (some ⟨g4_, 0, none⟩) (bytesOf o).length c4_, .slice none 0 0]) ∧ (b 28 = true → (m28_ : Value) = .slice (some ⟨g8_, 0, none⟩) 8 8) ∧ (b 29 = true → (m29_ : Value) = .agg #[.int .i64 3, .int .i64 0, .slice none 0 0, .slice (some ⟨g8_, 0, none⟩) 8 8]) ∧ (b 31 = true → (m31_ : Value) = v0_)) HT_.out HW_.out (by kernel_rfl) (by kernel_rfl) ?_ ?_ ?_
  · exact ⟨0, 0, 0, 0, 0, 0, 0, 0, 0, .bool false, .bool false, .bool false, .bool false, .bool false, .bool false, .bool false, .bool false, .bool false, .bool false, .bool false, .bool false, by simp only [putSel, Bool.false_eq_true, if_false], FF.out, fun h_ => absurd h_ (by decide), fun h_ => absurd h_ (by decide), fun h_ => absurd h_ (by decide), fun h_ => absurd h_ (by decide), fun h_ => absurd h_ (by decide), fun h_ => absurd h_ (by decide), fun h_ => absurd h_ (by decide), fun h_ => absurd h_ (by decide), fun h_ => absurd h_ (by decide), fun h_ => absurd h_ (by decide), fun h_ => absurd h_ (by decide), fun h_ => absurd h_ (by decide), fun h_ => absurd h_ (by decide), fun h_ => absurd h_ (by decide), fun h_ => absurd h_ (by decide), fun h_ => absurd h_ (by decide), fun h_ => absurd h_ (by decide), fun h_ => absurd h_ (by decide), fun h_ => absurd h_ (by decide), fun h_ => absurd h_ (by decide), fun h_ => absurd h_ (by decide)⟩
  · skip
    clear FF
    refine steps_cons ?_ ?_
    · rintro b a w' ⟨g1_, g2_, g3_, g4_, g8_, c1_, c2_, c3_, c4_, v0_, m5_, m6_, m9_, m10_, m13_, m14_, m17_, m18_, m28_, m29_, m31_, ha, Q_FF, Q_C1, Q_S1, Q_C2, Q_S2, Q_C3, Q_S3, Q_C4, Q_S4, Q_G8, Q_HR, Q_X5_, Q_X6_, Q_X9_, Q_X10_, Q_X13_, Q_X14_, Q_X17_, Q_X18_, Q_X28_, Q_X29_, Q_X31_⟩ hb_ hon hoff
      refine ⟨_, rfl, fun K hK => ?_⟩
      have e3 : a.tmps[3]? = some (.pointer (some ⟨w.heap.size, 0, none⟩)) := by rw [ha]; exact (putSel_off rfl).trans rfl
      replace ha := Aside0.mk ha
      have FF := Aside0.mk Q_FF
      have y := (blk_cell FF.out.bx 0).trans rfl
      refine value_ (w1 := w') (v := .int .i64 k) (by rfl) rfl ?_ ?_
      · go_simp
        (try simp only [i64_w])
        try rfl
      refine hK.out _ _ ⟨g1_, g2_, g3_, g4_, g8_, c1_, c2_, c3_, c4_, v0_, m5_, m6_, m9_, m10_, m13_, m14_, m17_, m18_, m28_, m29_, m31_, (by rw [ha.out]; exact putSel_upk 0 hb_ rfl rfl rfl), Q_FF, Q_C1, Q_S1, Q_C2, Q_S2, Q_C3, Q_S3, Q_C4, Q_S4, fun _ _ _ _ h4_ => absurd ((hoff 28 (by kernel_rfl)).symm.trans h4_) (by decide), fun h0_ => absurd ((hoff 30 (by kernel_rfl)).symm.trans h0_) (by decide), Q_X5_, fun h0_ => absurd ((hoff 6 (by kernel_rfl)).symm.trans h0_) (by decide), Q_X9_, fun h0_ => absurd ((hoff 10 (by kernel_rfl)).symm.trans h0_) (by decide), Q_X13_, fun h0_ => absurd ((hoff 14 (by kernel_rfl)).symm.trans h0_) (by decide), Q_X17_, fun h0_ => absurd ((hoff 18 (by kernel_rfl)).symm.trans h0_) (by decide), fun h0_ => absurd ((hoff 28 (by kernel_rfl)).symm.trans h0_) (by decide), fun h0_ => absurd ((hoff 29 (by kernel_rfl)).symm.trans h0_) (by decide), fun h0_ => absurd ((hoff 31 (by kernel_rfl)).symm.trans h0_) (by decide)⟩
    refine steps_cons ?_ ?_
    · rintro b a w' ⟨g1_, g2_, g3_, g4_, g8_, c1_, c2_, c3_, c4_, v0_, m5_, m6_, m9_, m10_, m13_, m14_, m17_, m18_, m28_, m29_, m31_, ha, Q_FF, Q_C1, Q_S1, Q_C2, Q_S2, Q_C3, Q_S3, Q_C4, Q_S4, Q_G8, Q_HR, Q_X5_, Q_X6_, Q_X9_, Q_X10_, Q_X13_, Q_X14_, Q_X17_, Q_X18_, Q_X28_, Q_X29_, Q_X31_⟩ hb_ hon hoff
      refine ⟨_, rfl, fun K hK => ?_⟩
      have e4 : a.tmps[4]? = some (.int .i64 k) := by rw [ha]; exact putSel_on (e := (1, 4, .int .i64 k)) 0 rfl rfl (hon 1 (by kernel_rfl)) rfl
      replace ha := Aside0.mk ha
      have FF := Aside0.mk Q_FF
      refine goes_ Tryd.func32 (by kernel_rfl) rfl #[.int .i64 k] (by rfl) rfl rfl (by first | (simp only [List.map_toArray, List.map_cons, List.map_nil, Act.eval, Array.getD_eq_getD_getElem?, Option.getD_some, e4]; done) | (simp only [List.map_toArray, List.map_cons, List.map_nil, Act.eval, Array.getD_eq_getD_getElem?, Option.getD_some, e4]; rfl)) ?_
      with_reducible refine (num28 _ _).mono ?_
      rintro e w1_ ⟨rfl, hb⟩
      refine ⟨_, rfl, ?_⟩
      refine hK.out _ _ ⟨g1_, g2_, g3_, g4_, g8_, c1_, c2_, c3_, c4_, v0_, m5_, m6_, m9_, m10_, m13_, m14_, m17_, m18_, m28_, m29_, m31_, (by rw [ha.out]; exact putSel_upk 1 hb_ rfl rfl rfl), FF.out.step hb, fun h0_ => Kd.C_below (Q_C1 h0_) hb, Q_S1, fun h0_ => Kd.C_below (Q_C2 h0_) hb, Q_S2, fun h0_ => Kd.C_below (Q_C3 h0_) hb, Q_S3, fun h0_ => Kd.C_below (Q_C4 h0_) hb, Q_S4, fun _ _ _ _ h4_ => absurd ((hoff 28 (by kernel_rfl)).symm.trans h4_) (by decide), fun h0_ => absurd ((hoff 30 (by kernel_rfl)).symm.trans h0_) (by decide), Q_X5_, fun h0_ => absurd ((hoff 6 (by kernel_rfl)).symm.trans h0_) (by decide), Q_X9_, fun h0_ => absurd ((hoff 10 (by kernel_rfl)).symm.trans h0_) (by decide), Q_X13_, fun h0_ => absurd ((hoff 14 (by kernel_rfl)).symm.trans h0_) (by decide), Q_X17_, fun h0_ => absurd ((hoff 18 (by kernel_rfl)).symm.trans h0_) (by decide), fun h0_ => absurd ((hoff 28 (by kernel_rfl)).symm.trans h0_) (by decide), fun h0_ => absurd ((hoff 29 (by kernel_rfl)).symm.trans h0_) (by decide), fun h0_ => absurd ((hoff 31 (by kernel_rfl)).symm.trans h0_) (by decide)⟩
    refine steps_cons ?_ ?_
    · rintro b a w' ⟨g1_, g2_, g3_, g4_, g8_, c1_, c2_, c3_, c4_, v0_, m5_, m6_, m9_, m10_, m13_, m14_, m17_, m18_, m28_, m29_, m31_, ha, Q_FF, Q_C1, Q_S1, Q_C2, Q_S2, Q_C3, Q_S3, Q_C4, Q_S4, Q_G8, Q_HR, Q_X5_, Q_X6_, Q_X9_, Q_X10_, Q_X13_, Q_X14_, Q_X17_, Q_X18_, Q_X28_, Q_X29_, Q_X31_⟩ hb_ hon hoff
      refine ⟨_, rfl, fun K hK => ?_⟩
      have e6 : a.tmps[6]? = some (.pointer (some ⟨w.heap.size, 1, none⟩)) := by rw [ha]; exact (putSel_off rfl).trans rfl
      replace ha := Aside0.mk ha
      have FF := Aside0.mk Q_FF
      have y := (blk_cell FF.out.bx 1).trans rfl
      refine value_ (w1 := w') (v := .string u) (by rfl) rfl ?_ ?_
      · go_simp
        (try simp only [i64_w])
        try rfl
      refine hK.out _ _ ⟨g1_, g2_, g3_, g4_, g8_, c1_, c2_, c3_, c4_, v0_, m5_, m6_, m9_, m10_, m13_, m14_, m17_, m18_, m28_, m29_, m31_, (by rw [ha.out]; exact putSel_upk 2 hb_ rfl rfl rfl), Q_FF, fun h0_ => absurd ((hoff 5 (by kernel_rfl)).symm.trans h0_) (by decide), fun h0_ => absurd ((hoff 5 (by kernel_rfl)).symm.trans h0_) (by decide), Q_C2, Q_S2, Q_C3, Q_S3, Q_C4, Q_S4, fun h0_ _ _ _ _ => absurd ((hoff 5 (by kernel_rfl)).symm.trans h0_) (by decide), fun h0_ => absurd ((hoff 30 (by kernel_rfl)).symm.trans h0_) (by decide), fun h0_ => absurd ((hoff 5 (by kernel_rfl)).symm.trans h0_) (by decide), fun h0_ => absurd ((hoff 6 (by kernel_rfl)).symm.trans h0_) (by decide), Q_X9_, fun h0_ => absurd ((hoff 10 (by kernel_rfl)).symm.trans h0_) (by decide), Q_X13_, fun h0_ => absurd ((hoff 14 (by kernel_rfl)).symm.trans h0_) (by decide), Q_X17_, fun h0_ => absurd ((hoff 18 (by kernel_rfl)).symm.trans h0_) (by decide), fun h0_ => absurd ((hoff 28 (by kernel_rfl)).symm.trans h0_) (by decide), fun h0_ => absurd ((hoff 29 (by kernel_rfl)).symm.trans h0_) (by decide), fun h0_ => absurd ((hoff 31 (by kernel_rfl)).symm.trans h0_) (by decide)⟩
    refine steps_cons ?_ ?_
    · rintro b a w' ⟨g1_, g2_, g3_, g4_, g8_, c1_, c2_, c3_, c4_, v0_, m5_, m6_, m9_, m10_, m13_, m14_, m17_, m18_, m28_, m29_, m31_, ha, Q_FF, Q_C1, Q_S1, Q_C2, Q_S2, Q_C3, Q_S3, Q_C4, Q_S4, Q_G8, Q_HR, Q_X5_, Q_X6_, Q_X9_, Q_X10_, Q_X13_, Q_X14_, Q_X17_, Q_X18_, Q_X28_, Q_X29_, Q_X31_⟩ hb_ hon hoff
      refine ⟨_, rfl, fun K hK => ?_⟩
      have e7 : a.tmps[7]? = some (.string u) := by rw [ha]; exact putSel_on (e := (4, 7, .string u)) 2 rfl rfl (hon 4 (by kernel_rfl)) rfl
      replace ha := Aside0.mk ha
      have FF := Aside0.mk Q_FF
      obtain ⟨w9, c9, hw9, hs, hc, hb⟩ := conv_any u HU.out w'
      refine event_step (w1 := w9) (v := .slice (some ⟨w'.heap.size, 0, none⟩) (bytesOf u).length c9) (by rfl) ?_ ?_
      · first | (go_simp; done) | (go_simp; rfl)
      refine hK.out _ _ ⟨w'.heap.size, g2_, g3_, g4_, g8_, c9, c2_, c3_, c4_, v0_, (.slice (some ⟨w'.heap.size, 0, none⟩) (bytesOf u).length c9), m6_, m9_, m10_, m13_, m14_, m17_, m18_, m28_, m29_, m31_, (by rw [ha.out]; exact putSel_upk 3 hb_ rfl rfl rfl), FF.out.step hb, fun _ => hc, fun _ => hs, fun h0_ => Kd.C_below (Q_C2 h0_) hb, Q_S2, fun h0_ => Kd.C_below (Q_C3 h0_) hb, Q_S3, fun h0_ => Kd.C_below (Q_C4 h0_) hb, Q_S4, fun _ _ _ _ h4_ => absurd ((hoff 28 (by kernel_rfl)).symm.trans h4_) (by decide), fun h0_ => absurd ((hoff 30 (by kernel_rfl)).symm.trans h0_) (by decide), fun _ => rfl, fun h0_ => absurd ((hoff 6 (by kernel_rfl)).symm.trans h0_) (by decide), Q_X9_, fun h0_ => absurd ((hoff 10 (by kernel_rfl)).symm.trans h0_) (by decide), Q_X13_, fun h0_ => absurd ((hoff 14 (by kernel_rfl)).symm.trans h0_) (by decide), Q_X17_, fun h0_ => absurd ((hoff 18 (by kernel_rfl)).symm.trans h0_) (by decide), fun h0_ => absurd ((hoff 28 (by kernel_rfl)).symm.trans h0_) (by decide), fun h0_ => absurd ((hoff 29 (by kernel_rfl)).symm.trans h0_) (by decide), fun h0_ => absurd ((hoff 31 (by kernel_rfl)).symm.trans h0_) (by decide)⟩
    refine steps_cons ?_ ?_
    · rintro b a w' ⟨g1_, g2_, g3_, g4_, g8_, c1_, c2_, c3_, c4_, v0_, m5_, m6_, m9_, m10_, m13_, m14_, m17_, m18_, m28_, m29_, m31_, ha, Q_FF, Q_C1, Q_S1, Q_C2, Q_S2, Q_C3, Q_S3, Q_C4, Q_S4, Q_G8, Q_HR, Q_X5_, Q_X6_, Q_X9_, Q_X10_, Q_X13_, Q_X14_, Q_X17_, Q_X18_, Q_X28_, Q_X29_, Q_X31_⟩ hb_ hon hoff
      refine ⟨_, rfl, fun K hK => ?_⟩
      have e8 : a.tmps[8]? = some (m5_) := by rw [ha]; exact putSel_on (e := (5, 8, m5_)) 3 rfl rfl (hon 5 (by kernel_rfl)) rfl
      rw [Q_X5_ (hon 5 (by kernel_rfl))] at e8
      replace ha := Aside0.mk ha
      have FF := Aside0.mk Q_FF
      have C1 := Aside0.mk (Q_C1 (hon 5 (by kernel_rfl)))
      have S1 := Aside0.mk (Q_S1 (hon 5 (by kernel_rfl)))
      refine goes_ Tryd.func33 (by kernel_rfl) rfl #[.slice (some ⟨g1_, 0, none⟩) (bytesOf u).length c1_] (by rfl) rfl rfl (by first | (simp only [List.map_toArray, List.map_cons, List.map_nil, Act.eval, Array.getD_eq_getD_getElem?, Option.getD_some, e8]; done) | (simp only [List.map_toArray, List.map_cons, List.map_nil, Act.eval, Array.getD_eq_getD_getElem?, Option.getD_some, e8]; rfl)) ?_
      with_reducible refine (raw28 _ _ _ _).mono ?_
      rintro e w1_ ⟨rfl, hb⟩
      refine ⟨_, rfl, ?_⟩
      refine hK.out _ _ ⟨g1_, g2_, g3_, g4_, g8_, c1_, c2_, c3_, c4_, v0_, m5_, (.agg #[.int .i64 2, .int .i64 0, .slice (some ⟨g1_, 0, none⟩) (bytesOf u).length c1_, .slice none 0 0]), m9_, m10_, m13_, m14_, m17_, m18_, m28_, m29_, m31_, (by rw [ha.out]; exact putSel_upk 4 hb_ rfl rfl rfl), FF.out.step hb, fun _ => Kd.C_below C1.out hb, Q_S1, fun h0_ => Kd.C_below (Q_C2 h0_) hb, Q_S2, fun h0_ => Kd.C_below (Q_C3 h0_) hb, Q_S3, fun h0_ => Kd.C_below (Q_C4 h0_) hb, Q_S4, fun _ _ _ _ h4_ => absurd ((hoff 28 (by kernel_rfl)).symm.trans h4_) (by decide), fun h0_ => absurd ((hoff 30 (by kernel_rfl)).symm.trans h0_) (by decide), Q_X5_, fun _ => rfl, Q_X9_, fun h0_ => absurd ((hoff 10 (by kernel_rfl)).symm.trans h0_) (by decide), Q_X13_, fun h0_ => absurd ((hoff 14 (by kernel_rfl)).symm.trans h0_) (by decide), Q_X17_, fun h0_ => absurd ((hoff 18 (by kernel_rfl)).symm.trans h0_) (by decide), fun h0_ => absurd ((hoff 28 (by kernel_rfl)).symm.trans h0_) (by decide), fun h0_ => absurd ((hoff 29 (by kernel_rfl)).symm.trans h0_) (by decide), fun h0_ => absurd ((hoff 31 (by kernel_rfl)).symm.trans h0_) (by decide)⟩
    refine steps_cons ?_ ?_
    · rintro b a w' ⟨g1_, g2_, g3_, g4_, g8_, c1_, c2_, c3_, c4_, v0_, m5_, m6_, m9_, m10_, m13_, m14_, m17_, m18_, m28_, m29_, m31_, ha, Q_FF, Q_C1, Q_S1, Q_C2, Q_S2, Q_C3, Q_S3, Q_C4, Q_S4, Q_G8, Q_HR, Q_X5_, Q_X6_, Q_X9_, Q_X10_, Q_X13_, Q_X14_, Q_X17_, Q_X18_, Q_X28_, Q_X29_, Q_X31_⟩ hb_ hon hoff
      refine ⟨_, rfl, fun K hK => ?_⟩
      have e10 : a.tmps[10]? = some (.pointer (some ⟨w.heap.size, 2, none⟩)) := by rw [ha]; exact (putSel_off rfl).trans rfl
      replace ha := Aside0.mk ha
      have FF := Aside0.mk Q_FF
      have y := (blk_cell FF.out.bx 2).trans rfl
      refine value_ (w1 := w') (v := .string f) (by rfl) rfl ?_ ?_
      · go_simp
        (try simp only [i64_w])
        try rfl
      refine hK.out _ _ ⟨g1_, g2_, g3_, g4_, g8_, c1_, c2_, c3_, c4_, v0_, m5_, m6_, m9_, m10_, m13_, m14_, m17_, m18_, m28_, m29_, m31_, (by rw [ha.out]; exact putSel_upk 5 hb_ rfl rfl rfl), Q_FF, Q_C1, Q_S1, fun h0_ => absurd ((hoff 9 (by kernel_rfl)).symm.trans h0_) (by decide), fun h0_ => absurd ((hoff 9 (by kernel_rfl)).symm.trans h0_) (by decide), Q_C3, Q_S3, Q_C4, Q_S4, fun _ h1_ _ _ _ => absurd ((hoff 9 (by kernel_rfl)).symm.trans h1_) (by decide), fun h0_ => absurd ((hoff 30 (by kernel_rfl)).symm.trans h0_) (by decide), Q_X5_, Q_X6_, fun h0_ => absurd ((hoff 9 (by kernel_rfl)).symm.trans h0_) (by decide), fun h0_ => absurd ((hoff 10 (by kernel_rfl)).symm.trans h0_) (by decide), Q_X13_, fun h0_ => absurd ((hoff 14 (by kernel_rfl)).symm.trans h0_) (by decide), Q_X17_, fun h0_ => absurd ((hoff 18 (by kernel_rfl)).symm.trans h0_) (by decide), fun h0_ => absurd ((hoff 28 (by kernel_rfl)).symm.trans h0_) (by decide), fun h0_ => absurd ((hoff 29 (by kernel_rfl)).symm.trans h0_) (by decide), fun h0_ => absurd ((hoff 31 (by kernel_rfl)).symm.trans h0_) (by decide)⟩
    refine steps_cons ?_ ?_
    · rintro b a w' ⟨g1_, g2_, g3_, g4_, g8_, c1_, c2_, c3_, c4_, v0_, m5_, m6_, m9_, m10_, m13_, m14_, m17_, m18_, m28_, m29_, m31_, ha, Q_FF, Q_C1, Q_S1, Q_C2, Q_S2, Q_C3, Q_S3, Q_C4, Q_S4, Q_G8, Q_HR, Q_X5_, Q_X6_, Q_X9_, Q_X10_, Q_X13_, Q_X14_, Q_X17_, Q_X18_, Q_X28_, Q_X29_, Q_X31_⟩ hb_ hon hoff
      refine ⟨_, rfl, fun K hK => ?_⟩
      have e11 : a.tmps[11]? = some (.string f) := by rw [ha]; exact putSel_on (e := (8, 11, .string f)) 5 rfl rfl (hon 8 (by kernel_rfl)) rfl
      replace ha := Aside0.mk ha
      have FF := Aside0.mk Q_FF
      obtain ⟨w9, c9, hw9, hs, hc, hb⟩ := conv_any f HF.out w'
      refine event_step (w1 := w9) (v := .slice (some ⟨w'.heap.size, 0, none⟩) (bytesOf f).length c9) (by rfl) ?_ ?_
      · first | (go_simp; done) | (go_simp; rfl)
      refine hK.out _ _ ⟨g1_, w'.heap.size, g3_, g4_, g8_, c1_, c9, c3_, c4_, v0_, m5_, m6_, (.slice (some ⟨w'.heap.size, 0, none⟩) (bytesOf f).length c9), m10_, m13_, m14_, m17_, m18_, m28_, m29_, m31_, (by rw [ha.out]; exact putSel_upk 6 hb_ rfl rfl rfl), FF.out.step hb, fun h0_ => Kd.C_below (Q_C1 h0_) hb, Q_S1, fun _ => hc, fun _ => hs, fun h0_ => Kd.C_below (Q_C3 h0_) hb, Q_S3, fun h0_ => Kd.C_below (Q_C4 h0_) hb, Q_S4, fun _ _ _ _ h4_ => absurd ((hoff 28 (by kernel_rfl)).symm.trans h4_) (by decide), fun h0_ => absurd ((hoff 30 (by kernel_rfl)).symm.trans h0_) (by decide), Q_X5_, Q_X6_, fun _ => rfl, fun h0_ => absurd ((hoff 10 (by kernel_rfl)).symm.trans h0_) (by decide), Q_X13_, fun h0_ => absurd ((hoff 14 (by kernel_rfl)).symm.trans h0_) (by decide), Q_X17_, fun h0_ => absurd ((hoff 18 (by kernel_rfl)).symm.trans h0_) (by decide), fun h0_ => absurd ((hoff 28 (by kernel_rfl)).symm.trans h0_) (by decide), fun h0_ => absurd ((hoff 29 (by kernel_rfl)).symm.trans h0_) (by decide), fun h0_ => absurd ((hoff 31 (by kernel_rfl)).symm.trans h0_) (by decide)⟩
    refine steps_cons ?_ ?_
    · rintro b a w' ⟨g1_, g2_, g3_, g4_, g8_, c1_, c2_, c3_, c4_, v0_, m5_, m6_, m9_, m10_, m13_, m14_, m17_, m18_, m28_, m29_, m31_, ha, Q_FF, Q_C1, Q_S1, Q_C2, Q_S2, Q_C3, Q_S3, Q_C4, Q_S4, Q_G8, Q_HR, Q_X5_, Q_X6_, Q_X9_, Q_X10_, Q_X13_, Q_X14_, Q_X17_, Q_X18_, Q_X28_, Q_X29_, Q_X31_⟩ hb_ hon hoff
      refine ⟨_, rfl, fun K hK => ?_⟩
      have e12 : a.tmps[12]? = some (m9_) := by rw [ha]; exact putSel_on (e := (9, 12, m9_)) 6 rfl rfl (hon 9 (by kernel_rfl)) rfl
      rw [Q_X9_ (hon 9 (by kernel_rfl))] at e12
      replace ha := Aside0.mk ha
      have FF := Aside0.mk Q_FF
      have C1 := Aside0.mk (Q_C1 (hon 5 (by kernel_rfl)))
      have S1 := Aside0.mk (Q_S1 (hon 5 (by kernel_rfl)))
      have C2 := Aside0.mk (Q_C2 (hon 9 (by kernel_rfl)))
      have S2 := Aside0.mk (Q_S2 (hon 9 (by kernel_rfl)))
      refine goes_ Tryd.func33 (by kernel_rfl) rfl #[.slice (some ⟨g2_, 0, none⟩) (bytesOf f).length c2_] (by rfl) rfl rfl (by first | (simp only [List.map_toArray, List.map_cons, List.map_nil, Act.eval, Array.getD_eq_getD_getElem?, Option.getD_some, e12]; done) | (simp only [List.map_toArray, List.map_cons, List.map_nil, Act.eval, Array.getD_eq_getD_getElem?, Option.getD_some, e12]; rfl)) ?_
      with_reducible refine (raw28 _ _ _ _).mono ?_
      rintro e w1_ ⟨rfl, hb⟩
      refine ⟨_, rfl, ?_⟩
      refine hK.out _ _ ⟨g1_, g2_, g3_, g4_, g8_, c1_, c2_, c3_, c4_, v0_, m5_, m6_, m9_, (.agg #[.int .i64 2, .int .i64 0, .slice (some ⟨g2_, 0, none⟩) (bytesOf f).length c2_, .slice none 0 0]), m13_, m14_, m17_, m18_, m28_, m29_, m31_, (by rw [ha.out]; exact putSel_upk 7 hb_ rfl rfl rfl), FF.out.step hb, fun _ => Kd.C_below C1.out hb, Q_S1, fun _ => Kd.C_below C2.out hb, Q_S2, fun h0_ => Kd.C_below (Q_C3 h0_) hb, Q_S3, fun h0_ => Kd.C_below (Q_C4 h0_) hb, Q_S4, fun _ _ _ _ h4_ => absurd ((hoff 28 (by kernel_rfl)).symm.trans h4_) (by decide), fun h0_ => absurd ((hoff 30 (by kernel_rfl)).symm.trans h0_) (by decide), Q_X5_, Q_X6_, Q_X9_, fun _ => rfl, Q_X13_, fun h0_ => absurd ((hoff 14 (by kernel_rfl)).symm.trans h0_) (by decide), Q_X17_, fun h0_ => absurd ((hoff 18 (by kernel_rfl)).symm.trans h0_) (by decide), fun h0_ => absurd ((hoff 28 (by kernel_rfl)).symm.trans h0_) (by decide), fun h0_ => absurd ((hoff 29 (by kernel_rfl)).symm.trans h0_) (by decide), fun h0_ => absurd ((hoff 31 (by kernel_rfl)).symm.trans h0_) (by decide)⟩
    refine steps_cons ?_ ?_
    · rintro b a w' ⟨g1_, g2_, g3_, g4_, g8_, c1_, c2_, c3_, c4_, v0_, m5_, m6_, m9_, m10_, m13_, m14_, m17_, m18_, m28_, m29_, m31_, ha, Q_FF, Q_C1, Q_S1, Q_C2, Q_S2, Q_C3, Q_S3, Q_C4, Q_S4, Q_G8, Q_HR, Q_X5_, Q_X6_, Q_X9_, Q_X10_, Q_X13_, Q_X14_, Q_X17_, Q_X18_, Q_X28_, Q_X29_, Q_X31_⟩ hb_ hon hoff
      refine ⟨_, rfl, fun K hK => ?_⟩
      have e14 : a.tmps[14]? = some (.pointer (some ⟨w.heap.size, 3, none⟩)) := by rw [ha]; exact (putSel_off rfl).trans rfl
      replace ha := Aside0.mk ha
      have FF := Aside0.mk Q_FF
      have y := (blk_cell FF.out.bx 3).trans rfl
      refine value_ (w1 := w') (v := .string n) (by rfl) rfl ?_ ?_
      · go_simp
        (try simp only [i64_w])
        try rfl
      refine hK.out _ _ ⟨g1_, g2_, g3_, g4_, g8_, c1_, c2_, c3_, c4_, v0_, m5_, m6_, m9_, m10_, m13_, m14_, m17_, m18_, m28_, m29_, m31_, (by rw [ha.out]; exact putSel_upk 8 hb_ rfl rfl rfl), Q_FF, Q_C1, Q_S1, Q_C2, Q_S2, fun h0_ => absurd ((hoff 13 (by kernel_rfl)).symm.trans h0_) (by decide), fun h0_ => absurd ((hoff 13 (by kernel_rfl)).symm.trans h0_) (by decide), Q_C4, Q_S4, fun _ _ h2_ _ _ => absurd ((hoff 13 (by kernel_rfl)).symm.trans h2_) (by decide), fun h0_ => absurd ((hoff 30 (by kernel_rfl)).symm.trans h0_) (by decide), Q_X5_, Q_X6_, Q_X9_, Q_X10_, fun h0_ => absurd ((hoff 13 (by kernel_rfl)).symm.trans h0_) (by decide), fun h0_ => absurd ((hoff 14 (by kernel_rfl)).symm.trans h0_) (by decide), Q_X17_, fun h0_ => absurd ((hoff 18 (by kernel_rfl)).symm.trans h0_) (by decide), fun h0_ => absurd ((hoff 28 (by kernel_rfl)).symm.trans h0_) (by decide), fun h0_ => absurd ((hoff 29 (by kernel_rfl)).symm.trans h0_) (by decide), fun h0_ => absurd ((hoff 31 (by kernel_rfl)).symm.trans h0_) (by decide)⟩
    refine steps_cons ?_ ?_
    · rintro b a w' ⟨g1_, g2_, g3_, g4_, g8_, c1_, c2_, c3_, c4_, v0_, m5_, m6_, m9_, m10_, m13_, m14_, m17_, m18_, m28_, m29_, m31_, ha, Q_FF, Q_C1, Q_S1, Q_C2, Q_S2, Q_C3, Q_S3, Q_C4, Q_S4, Q_G8, Q_HR, Q_X5_, Q_X6_, Q_X9_, Q_X10_, Q_X13_, Q_X14_, Q_X17_, Q_X18_, Q_X28_, Q_X29_, Q_X31_⟩ hb_ hon hoff
      refine ⟨_, rfl, fun K hK => ?_⟩
      have e15 : a.tmps[15]? = some (.string n) := by rw [ha]; exact putSel_on (e := (12, 15, .string n)) 8 rfl rfl (hon 12 (by kernel_rfl)) rfl
      replace ha := Aside0.mk ha
      have FF := Aside0.mk Q_FF
      obtain ⟨w9, c9, hw9, hs, hc, hb⟩ := conv_any n HN.out w'
      refine event_step (w1 := w9) (v := .slice (some ⟨w'.heap.size, 0, none⟩) (bytesOf n).length c9) (by rfl) ?_ ?_
      · first | (go_simp; done) | (go_simp; rfl)
      refine hK.out _ _ ⟨g1_, g2_, w'.heap.size, g4_, g8_, c1_, c2_, c9, c4_, v0_, m5_, m6_, m9_, m10_, (.slice (some ⟨w'.heap.size, 0, none⟩) (bytesOf n).length c9), m14_, m17_, m18_, m28_, m29_, m31_, (by rw [ha.out]; exact putSel_upk 9 hb_ rfl rfl rfl), FF.out.step hb, fun h0_ => Kd.C_below (Q_C1 h0_) hb, Q_S1, fun h0_ => Kd.C_below (Q_C2 h0_) hb, Q_S2, fun _ => hc, fun _ => hs, fun h0_ => Kd.C_below (Q_C4 h0_) hb, Q_S4, fun _ _ _ _ h4_ => absurd ((hoff 28 (by kernel_rfl)).symm.trans h4_) (by decide), fun h0_ => absurd ((hoff 30 (by kernel_rfl)).symm.trans h0_) (by decide), Q_X5_, Q_X6_, Q_X9_, Q_X10_, fun _ => rfl, fun h0_ => absurd ((hoff 14 (by kernel_rfl)).symm.trans h0_) (by decide), Q_X17_, fun h0_ => absurd ((hoff 18 (by kernel_rfl)).symm.trans h0_) (by decide), fun h0_ => absurd ((hoff 28 (by kernel_rfl)).symm.trans h0_) (by decide), fun h0_ => absurd ((hoff 29 (by kernel_rfl)).symm.trans h0_) (by decide), fun h0_ => absurd ((hoff 31 (by kernel_rfl)).symm.trans h0_) (by decide)⟩
    refine steps_cons ?_ ?_
    · rintro b a w' ⟨g1_, g2_, g3_, g4_, g8_, c1_, c2_, c3_, c4_, v0_, m5_, m6_, m9_, m10_, m13_, m14_, m17_, m18_, m28_, m29_, m31_, ha, Q_FF, Q_C1, Q_S1, Q_C2, Q_S2, Q_C3, Q_S3, Q_C4, Q_S4, Q_G8, Q_HR, Q_X5_, Q_X6_, Q_X9_, Q_X10_, Q_X13_, Q_X14_, Q_X17_, Q_X18_, Q_X28_, Q_X29_, Q_X31_⟩ hb_ hon hoff
      refine ⟨_, rfl, fun K hK => ?_⟩
      have e16 : a.tmps[16]? = some (m13_) := by rw [ha]; exact putSel_on (e := (13, 16, m13_)) 9 rfl rfl (hon 13 (by kernel_rfl)) rfl
      rw [Q_X13_ (hon 13 (by kernel_rfl))] at e16
      replace ha := Aside0.mk ha
      have FF := Aside0.mk Q_FF
      have C1 := Aside0.mk (Q_C1 (hon 5 (by kernel_rfl)))
      have S1 := Aside0.mk (Q_S1 (hon 5 (by kernel_rfl)))
      have C2 := Aside0.mk (Q_C2 (hon 9 (by kernel_rfl)))
      have S2 := Aside0.mk (Q_S2 (hon 9 (by kernel_rfl)))
      have C3 := Aside0.mk (Q_C3 (hon 13 (by kernel_rfl)))
      have S3 := Aside0.mk (Q_S3 (hon 13 (by kernel_rfl)))
      refine goes_ Tryd.func33 (by kernel_rfl) rfl #[.slice (some ⟨g3_, 0, none⟩) (bytesOf n).length c3_] (by rfl) rfl rfl (by first | (simp only [List.map_toArray, List.map_cons, List.map_nil, Act.eval, Array.getD_eq_getD_getElem?, Option.getD_some, e16]; done) | (simp only [List.map_toArray, List.map_cons, List.map_nil, Act.eval, Array.getD_eq_getD_getElem?, Option.getD_some, e16]; rfl)) ?_
      with_reducible refine (raw28 _ _ _ _).mono ?_
      rintro e w1_ ⟨rfl, hb⟩
      refine ⟨_, rfl, ?_⟩
      refine hK.out _ _ ⟨g1_, g2_, g3_, g4_, g8_, c1_, c2_, c3_, c4_, v0_, m5_, m6_, m9_, m10_, m13_, (.agg #[.int .i64 2, .int .i64 0, .slice (some ⟨g3_, 0, none⟩) (bytesOf n).length c3_, .slice none 0 0]), m17_, m18_, m28_, m29_, m31_, (by rw [ha.out]; exact putSel_upk 10 hb_ rfl rfl rfl), FF.out.step hb, fun _ => Kd.C_below C1.out hb, Q_S1, fun _ => Kd.C_below C2.out hb, Q_S2, fun _ => Kd.C_below C3.out hb, Q_S3, fun h0_ => Kd.C_below (Q_C4 h0_) hb, Q_S4, fun _ _ _ _ h4_ => absurd ((hoff 28 (by kernel_rfl)).symm.trans h4_) (by decide), fun h0_ => absurd ((hoff 30 (by kernel_rfl)).symm.trans h0_) (by decide), Q_X5_, Q_X6_, Q_X9_, Q_X10_, Q_X13_, fun _ => rfl, Q_X17_, fun h0_ => absurd ((hoff 18 (by kernel_rfl)).symm.trans h0_) (by decide), fun h0_ => absurd ((hoff 28 (by kernel_rfl)).symm.trans h0_) (by decide), fun h0_ => absurd ((hoff 29 (by kernel_rfl)).symm.trans h0_) (by decide), fun h0_ => absurd ((hoff 31 (by kernel_rfl)).symm.trans h0_) (by decide)⟩
    refine steps_cons ?_ ?_
    · rintro b a w' ⟨g1_, g2_, g3_, g4_, g8_, c1_, c2_, c3_, c4_, v0_, m5_, m6_, m9_, m10_, m13_, m14_, m17_, m18_, m28_, m29_, m31_, ha, Q_FF, Q_C1, Q_S1, Q_C2, Q_S2, Q_C3, Q_S3, Q_C4, Q_S4, Q_G8, Q_HR, Q_X5_, Q_X6_, Q_X9_, Q_X10_, Q_X13_, Q_X14_, Q_X17_, Q_X18_, Q_X28_, Q_X29_, Q_X31_⟩ hb_ hon hoff
      refine ⟨_, rfl, fun K hK => ?_⟩
      have e18 : a.tmps[18]? = some (.pointer (some ⟨w.heap.size, 4, none⟩)) := by rw [ha]; exact (putSel_off rfl).trans rfl
      replace ha := Aside0.mk ha
      have FF := Aside0.mk Q_FF
      have y := (blk_cell FF.out.bx 4).trans rfl
      refine value_ (w1 := w') (v := .string o) (by rfl) rfl ?_ ?_
      · go_simp
        (try simp only [i64_w])
        try rfl
      refine hK.out _ _ ⟨g1_, g2_, g3_, g4_, g8_, c1_, c2_, c3_, c4_, v0_, m5_, m6_, m9_, m10_, m13_, m14_, m17_, m18_, m28_, m29_, m31_, (by rw [ha.out]; exact putSel_upk 11 hb_ rfl rfl rfl), Q_FF, Q_C1, Q_S1, Q_C2, Q_S2, Q_C3, Q_S3, fun h0_ => absurd ((hoff 17 (by kernel_rfl)).symm.trans h0_) (by decide), fun h0_ => absurd ((hoff 17 (by kernel_rfl)).symm.trans h0_) (by decide), fun _ _ _ h3_ _ => absurd ((hoff 17 (by kernel_rfl)).symm.trans h3_) (by decide), fun h0_ => absurd ((hoff 30 (by kernel_rfl)).symm.trans h0_) (by decide), Q_X5_, Q_X6_, Q_X9_, Q_X10_, Q_X13_, Q_X14_, fun h0_ => absurd ((hoff 17 (by kernel_rfl)).symm.trans h0_) (by decide), fun h0_ => absurd ((hoff 18 (by kernel_rfl)).symm.trans h0_) (by decide), fun h0_ => absurd ((hoff 28 (by kernel_rfl)).symm.trans h0_) (by decide), fun h0_ => absurd ((hoff 29 (by kernel_rfl)).symm.trans h0_) (by decide), fun h0_ => absurd ((hoff 31 (by kernel_rfl)).symm.trans h0_) (by decide)⟩
    refine steps_cons ?_ ?_
    · rintro b a w' ⟨g1_, g2_, g3_, g4_, g8_, c1_, c2_, c3_, c4_, v0_, m5_, m6_, m9_, m10_, m13_, m14_, m17_, m18_, m28_, m29_, m31_, ha, Q_FF, Q_C1, Q_S1, Q_C2, Q_S2, Q_C3, Q_S3, Q_C4, Q_S4, Q_G8, Q_HR, Q_X5_, Q_X6_, Q_X9_, Q_X10_, Q_X13_, Q_X14_, Q_X17_, Q_X18_, Q_X28_, Q_X29_, Q_X31_⟩ hb_ hon hoff
      refine ⟨_, rfl, fun K hK => ?_⟩
      have e19 : a.tmps[19]? = some (.string o) := by rw [ha]; exact putSel_on (e := (16, 19, .string o)) 11 rfl rfl (hon 16 (by kernel_rfl)) rfl
      replace ha := Aside0.mk ha
      have FF := Aside0.mk Q_FF
      obtain ⟨w9, c9, hw9, hs, hc, hb⟩ := conv_any o HO.out w'
      refine event_step (w1 := w9) (v := .slice (some ⟨w'.heap.size, 0, none⟩) (bytesOf o).length c9) (by rfl) ?_ ?_
      · first | (go_simp; done) | (go_simp; rfl)
      refine hK.out _ _ ⟨g1_, g2_, g3_, w'.heap.size, g8_, c1_, c2_, c3_, c9, v0_, m5_, m6_, m9_, m10_, m13_, m14_, (.slice (some ⟨w'.heap.size, 0, none⟩) (bytesOf o).length c9), m18_, m28_, m29_, m31_, (by rw [ha.out]; exact putSel_upk 12 hb_ rfl rfl rfl), FF.out.step hb, fun h0_ => Kd.C_below (Q_C1 h0_) hb, Q_S1, fun h0_ => Kd.C_below (Q_C2 h0_) hb, Q_S2, fun h0_ => Kd.C_below (Q_C3 h0_) hb, Q_S3, fun _ => hc, fun _ => hs, fun _ _ _ _ h4_ => absurd ((hoff 28 (by kernel_rfl)).symm.trans h4_) (by decide), fun h0_ => absurd ((hoff 30 (by kernel_rfl)).symm.trans h0_) (by decide), Q_X5_, Q_X6_, Q_X9_, Q_X10_, Q_X13_, Q_X14_, fun _ => rfl, fun h0_ => absurd ((hoff 18 (by kernel_rfl)).symm.trans h0_) (by decide), fun h0_ => absurd ((hoff 28 (by kernel_rfl)).symm.trans h0_) (by decide), fun h0_ => absurd ((hoff 29 (by kernel_rfl)).symm.trans h0_) (by decide), fun h0_ => absurd ((hoff 31 (by kernel_rfl)).symm.trans h0_) (by decide)⟩
    refine steps_cons ?_ ?_
    · rintro b a w' ⟨g1_, g2_, g3_, g4_, g8_, c1_, c2_, c3_, c4_, v0_, m5_, m6_, m9_, m10_, m13_, m14_, m17_, m18_, m28_, m29_, m31_, ha, Q_FF, Q_C1, Q_S1, Q_C2, Q_S2, Q_C3, Q_S3, Q_C4, Q_S4, Q_G8, Q_HR, Q_X5_, Q_X6_, Q_X9_, Q_X10_, Q_X13_, Q_X14_, Q_X17_, Q_X18_, Q_X28_, Q_X29_, Q_X31_⟩ hb_ hon hoff
      refine ⟨_, rfl, fun K hK => ?_⟩
      have e20 : a.tmps[20]? = some (m17_) := by rw [ha]; exact putSel_on (e := (17, 20, m17_)) 12 rfl rfl (hon 17 (by kernel_rfl)) rfl
      rw [Q_X17_ (hon 17 (by kernel_rfl))] at e20
      replace ha := Aside0.mk ha
      have FF := Aside0.mk Q_FF
      have C1 := Aside0.mk (Q_C1 (hon 5 (by kernel_rfl)))
      have S1 := Aside0.mk (Q_S1 (hon 5 (by kernel_rfl)))
      have C2 := Aside0.mk (Q_C2 (hon 9 (by kernel_rfl)))
      have S2 := Aside0.mk (Q_S2 (hon 9 (by kernel_rfl)))
      have C3 := Aside0.mk (Q_C3 (hon 13 (by kernel_rfl)))
      have S3 := Aside0.mk (Q_S3 (hon 13 (by kernel_rfl)))
      have C4 := Aside0.mk (Q_C4 (hon 17 (by kernel_rfl)))
      have S4 := Aside0.mk (Q_S4 (hon 17 (by kernel_rfl)))
      refine goes_ Tryd.func33 (by kernel_rfl) rfl #[.slice (some ⟨g4_, 0, none⟩) (bytesOf o).length c4_] (by rfl) rfl rfl (by first | (simp only [List.map_toArray, List.map_cons, List.map_nil, Act.eval, Array.getD_eq_getD_getElem?, Option.getD_some, e20]; done) | (simp only [List.map_toArray, List.map_cons, List.map_nil, Act.eval, Array.getD_eq_getD_getElem?, Option.getD_some, e20]; rfl)) ?_
      with_reducible refine (raw28 _ _ _ _).mono ?_
      rintro e w1_ ⟨rfl, hb⟩
      refine ⟨_, rfl, ?_⟩
      refine hK.out _ _ ⟨g1_, g2_, g3_, g4_, g8_, c1_, c2_, c3_, c4_, v0_, m5_, m6_, m9_, m10_, m13_, m14_, m17_, (.agg #[.int .i64 2, .int .i64 0, .slice (some ⟨g4_, 0, none⟩) (bytesOf o).length c4_, .slice none 0 0]), m28_, m29_, m31_, (by rw [ha.out]; exact putSel_upk 13 hb_ rfl rfl rfl), FF.out.step hb, fun _ => Kd.C_below C1.out hb, Q_S1, fun _ => Kd.C_below C2.out hb, Q_S2, fun _ => Kd.C_below C3.out hb, Q_S3, fun _ => Kd.C_below C4.out hb, Q_S4, fun _ _ _ _ h4_ => absurd ((hoff 28 (by kernel_rfl)).symm.trans h4_) (by decide), fun h0_ => absurd ((hoff 30 (by kernel_rfl)).symm.trans h0_) (by decide), Q_X5_, Q_X6_, Q_X9_, Q_X10_, Q_X13_, Q_X14_, Q_X17_, fun _ => rfl, fun h0_ => absurd ((hoff 28 (by kernel_rfl)).symm.trans h0_) (by decide), fun h0_ => absurd ((hoff 29 (by kernel_rfl)).symm.trans h0_) (by decide), fun h0_ => absurd ((hoff 31 (by kernel_rfl)).symm.trans h0_) (by decide)⟩
    refine steps_cons ?_ ?_
    · rintro b a w' ⟨g1_, g2_, g3_, g4_, g8_, c1_, c2_, c3_, c4_, v0_, m5_, m6_, m9_, m10_, m13_, m14_, m17_, m18_, m28_, m29_, m31_, ha, Q_FF, Q_C1, Q_S1, Q_C2, Q_S2, Q_C3, Q_S3, Q_C4, Q_S4, Q_G8, Q_HR, Q_X5_, Q_X6_, Q_X9_, Q_X10_, Q_X13_, Q_X14_, Q_X17_, Q_X18_, Q_X28_, Q_X29_, Q_X31_⟩ hb_ hon hoff
      refine ⟨_, rfl, fun K hK => ?_⟩
      have e22 : a.tmps[22]? = some (.pointer (some ⟨w.heap.size, 5, none⟩)) := by rw [ha]; exact (putSel_off rfl).trans rfl
      replace ha := Aside0.mk ha
      have FF := Aside0.mk Q_FF
      have y := (blk_cell FF.out.bx 5).trans rfl
      refine value_ (w1 := w') (v := .int .i64 ro) (by rfl) rfl ?_ ?_
      · go_simp
        (try simp only [i64_w])
        try rfl
      refine hK.out _ _ ⟨g1_, g2_, g3_, g4_, g8_, c1_, c2_, c3_, c4_, v0_, m5_, m6_, m9_, m10_, m13_, m14_, m17_, m18_, m28_, m29_, m31_, (by rw [ha.out]; exact putSel_upk 14 hb_ rfl rfl rfl), Q_FF, Q_C1, Q_S1, Q_C2, Q_S2, Q_C3, Q_S3, Q_C4, Q_S4, fun _ _ _ _ h4_ => absurd ((hoff 28 (by kernel_rfl)).symm.trans h4_) (by decide), fun h0_ => absurd ((hoff 30 (by kernel_rfl)).symm.trans h0_) (by decide), Q_X5_, Q_X6_, Q_X9_, Q_X10_, Q_X13_, Q_X14_, Q_X17_, Q_X18_, fun h0_ => absurd ((hoff 28 (by kernel_rfl)).symm.trans h0_) (by decide), fun h0_ => absurd ((hoff 29 (by kernel_rfl)).symm.trans h0_) (by decide), fun h0_ => absurd ((hoff 31 (by kernel_rfl)).symm.trans h0_) (by decide)⟩
    refine steps_cons ?_ ?_
    · rintro b a w' ⟨g1_, g2_, g3_, g4_, g8_, c1_, c2_, c3_, c4_, v0_, m5_, m6_, m9_, m10_, m13_, m14_, m17_, m18_, m28_, m29_, m31_, ha, Q_FF, Q_C1, Q_S1, Q_C2, Q_S2, Q_C3, Q_S3, Q_C4, Q_S4, Q_G8, Q_HR, Q_X5_, Q_X6_, Q_X9_, Q_X10_, Q_X13_, Q_X14_, Q_X17_, Q_X18_, Q_X28_, Q_X29_, Q_X31_⟩ hb_ hon hoff
      refine ⟨_, rfl, fun K hK => ?_⟩
      have e23 : a.tmps[23]? = some (.int .i64 ro) := by rw [ha]; exact putSel_on (e := (20, 23, .int .i64 ro)) 14 rfl rfl (hon 20 (by kernel_rfl)) rfl
      replace ha := Aside0.mk ha
      have FF := Aside0.mk Q_FF
      have C1 := Aside0.mk (Q_C1 (hon 5 (by kernel_rfl)))
      have S1 := Aside0.mk (Q_S1 (hon 5 (by kernel_rfl)))
      have C2 := Aside0.mk (Q_C2 (hon 9 (by kernel_rfl)))
      have S2 := Aside0.mk (Q_S2 (hon 9 (by kernel_rfl)))
      have C3 := Aside0.mk (Q_C3 (hon 13 (by kernel_rfl)))
      have S3 := Aside0.mk (Q_S3 (hon 13 (by kernel_rfl)))
      have C4 := Aside0.mk (Q_C4 (hon 17 (by kernel_rfl)))
      have S4 := Aside0.mk (Q_S4 (hon 17 (by kernel_rfl)))
      refine goes_ Tryd.func32 (by kernel_rfl) rfl #[.int .i64 ro] (by rfl) rfl rfl (by first | (simp only [List.map_toArray, List.map_cons, List.map_nil, Act.eval, Array.getD_eq_getD_getElem?, Option.getD_some, e23]; done) | (simp only [List.map_toArray, List.map_cons, List.map_nil, Act.eval, Array.getD_eq_getD_getElem?, Option.getD_some, e23]; rfl)) ?_
      with_reducible refine (num28 _ _).mono ?_
      rintro e w1_ ⟨rfl, hb⟩
      refine ⟨_, rfl, ?_⟩
      refine hK.out _ _ ⟨g1_, g2_, g3_, g4_, g8_, c1_, c2_, c3_, c4_, v0_, m5_, m6_, m9_, m10_, m13_, m14_, m17_, m18_, m28_, m29_, m31_, (by rw [ha.out]; exact putSel_upk 15 hb_ rfl rfl rfl), FF.out.step hb, fun _ => Kd.C_below C1.out hb, Q_S1, fun _ => Kd.C_below C2.out hb, Q_S2, fun _ => Kd.C_below C3.out hb, Q_S3, fun _ => Kd.C_below C4.out hb, Q_S4, fun _ _ _ _ h4_ => absurd ((hoff 28 (by kernel_rfl)).symm.trans h4_) (by decide), fun h0_ => absurd ((hoff 30 (by kernel_rfl)).symm.trans h0_) (by decide), Q_X5_, Q_X6_, Q_X9_, Q_X10_, Q_X13_, Q_X14_, Q_X17_, Q_X18_, fun h0_ => absurd ((hoff 28 (by kernel_rfl)).symm.trans h0_) (by decide), fun h0_ => absurd ((hoff 29 (by kernel_rfl)).symm.trans h0_) (by decide), fun h0_ => absurd ((hoff 31 (by kernel_rfl)).symm.trans h0_) (by decide)⟩
    refine steps_cons ?_ ?_
    · rintro b a w' ⟨g1_, g2_, g3_, g4_, g8_, c1_, c2_, c3_, c4_, v0_, m5_, m6_, m9_, m10_, m13_, m14_, m17_, m18_, m28_, m29_, m31_, ha, Q_FF, Q_C1, Q_S1, Q_C2, Q_S2, Q_C3, Q_S3, Q_C4, Q_S4, Q_G8, Q_HR, Q_X5_, Q_X6_, Q_X9_, Q_X10_, Q_X13_, Q_X14_, Q_X17_, Q_X18_, Q_X28_, Q_X29_, Q_X31_⟩ hb_ hon hoff
      refine ⟨_, rfl, fun K hK => ?_⟩
      have e25 : a.tmps[25]? = some (.pointer (some ⟨w.heap.size, 6, none⟩)) := by rw [ha]; exact (putSel_off rfl).trans rfl
      replace ha := Aside0.mk ha
      have FF := Aside0.mk Q_FF
      have y := (blk_cell FF.out.bx 6).trans rfl
      refine value_ (w1 := w') (v := .int .i64 ve) (by rfl) rfl ?_ ?_
      · go_simp
        (try simp only [i64_w])
        try rfl
      refine hK.out _ _ ⟨g1_, g2_, g3_, g4_, g8_, c1_, c2_, c3_, c4_, v0_, m5_, m6_, m9_, m10_, m13_, m14_, m17_, m18_, m28_, m29_, m31_, (by rw [ha.out]; exact putSel_upk 16 hb_ rfl rfl rfl), Q_FF, Q_C1, Q_S1, Q_C2, Q_S2, Q_C3, Q_S3, Q_C4, Q_S4, fun _ _ _ _ h4_ => absurd ((hoff 28 (by kernel_rfl)).symm.trans h4_) (by decide), fun h0_ => absurd ((hoff 30 (by kernel_rfl)).symm.trans h0_) (by decide), Q_X5_, Q_X6_, Q_X9_, Q_X10_, Q_X13_, Q_X14_, Q_X17_, Q_X18_, fun h0_ => absurd ((hoff 28 (by kernel_rfl)).symm.trans h0_) (by decide), fun h0_ => absurd ((hoff 29 (by kernel_rfl)).symm.trans h0_) (by decide), fun h0_ => absurd ((hoff 31 (by kernel_rfl)).symm.trans h0_) (by decide)⟩
    refine steps_cons ?_ ?_
    · rintro b a w' ⟨g1_, g2_, g3_, g4_, g8_, c1_, c2_, c3_, c4_, v0_, m5_, m6_, m9_, m10_, m13_, m14_, m17_, m18_, m28_, m29_, m31_, ha, Q_FF, Q_C1, Q_S1, Q_C2, Q_S2, Q_C3, Q_S3, Q_C4, Q_S4, Q_G8, Q_HR, Q_X5_, Q_X6_, Q_X9_, Q_X10_, Q_X13_, Q_X14_, Q_X17_, Q_X18_, Q_X28_, Q_X29_, Q_X31_⟩ hb_ hon hoff
      refine ⟨_, rfl, fun K hK => ?_⟩
      have e26 : a.tmps[26]? = some (.int .i64 ve) := by rw [ha]; exact putSel_on (e := (23, 26, .int .i64 ve)) 16 rfl rfl (hon 23 (by kernel_rfl)) rfl
      replace ha := Aside0.mk ha
      have FF := Aside0.mk Q_FF
      have C1 := Aside0.mk (Q_C1 (hon 5 (by kernel_rfl)))
      have S1 := Aside0.mk (Q_S1 (hon 5 (by kernel_rfl)))
      have C2 := Aside0.mk (Q_C2 (hon 9 (by kernel_rfl)))
      have S2 := Aside0.mk (Q_S2 (hon 9 (by kernel_rfl)))
      have C3 := Aside0.mk (Q_C3 (hon 13 (by kernel_rfl)))
      have S3 := Aside0.mk (Q_S3 (hon 13 (by kernel_rfl)))
      have C4 := Aside0.mk (Q_C4 (hon 17 (by kernel_rfl)))
      have S4 := Aside0.mk (Q_S4 (hon 17 (by kernel_rfl)))
      refine goes_ Tryd.func32 (by kernel_rfl) rfl #[.int .i64 ve] (by rfl) rfl rfl (by first | (simp only [List.map_toArray, List.map_cons, List.map_nil, Act.eval, Array.getD_eq_getD_getElem?, Option.getD_some, e26]; done) | (simp only [List.map_toArray, List.map_cons, List.map_nil, Act.eval, Array.getD_eq_getD_getElem?, Option.getD_some, e26]; rfl)) ?_
      with_reducible refine (num28 _ _).mono ?_
      rintro e w1_ ⟨rfl, hb⟩
      refine ⟨_, rfl, ?_⟩
      refine hK.out _ _ ⟨g1_, g2_, g3_, g4_, g8_, c1_, c2_, c3_, c4_, v0_, m5_, m6_, m9_, m10_, m13_, m14_, m17_, m18_, m28_, m29_, m31_, (by rw [ha.out]; exact putSel_upk 17 hb_ rfl rfl rfl), FF.out.step hb, fun _ => Kd.C_below C1.out hb, Q_S1, fun _ => Kd.C_below C2.out hb, Q_S2, fun _ => Kd.C_below C3.out hb, Q_S3, fun _ => Kd.C_below C4.out hb, Q_S4, fun _ _ _ _ h4_ => absurd ((hoff 28 (by kernel_rfl)).symm.trans h4_) (by decide), fun h0_ => absurd ((hoff 30 (by kernel_rfl)).symm.trans h0_) (by decide), Q_X5_, Q_X6_, Q_X9_, Q_X10_, Q_X13_, Q_X14_, Q_X17_, Q_X18_, fun h0_ => absurd ((hoff 28 (by kernel_rfl)).symm.trans h0_) (by decide), fun h0_ => absurd ((hoff 29 (by kernel_rfl)).symm.trans h0_) (by decide), fun h0_ => absurd ((hoff 31 (by kernel_rfl)).symm.trans h0_) (by decide)⟩
    refine steps_cons ?_ ?_
    · rintro b a w' ⟨g1_, g2_, g3_, g4_, g8_, c1_, c2_, c3_, c4_, v0_, m5_, m6_, m9_, m10_, m13_, m14_, m17_, m18_, m28_, m29_, m31_, ha, Q_FF, Q_C1, Q_S1, Q_C2, Q_S2, Q_C3, Q_S3, Q_C4, Q_S4, Q_G8, Q_HR, Q_X5_, Q_X6_, Q_X9_, Q_X10_, Q_X13_, Q_X14_, Q_X17_, Q_X18_, Q_X28_, Q_X29_, Q_X31_⟩ hb_ hon hoff
      refine ⟨_, rfl, fun K hK => ?_⟩
      have e28 : a.tmps[28]? = some (.pointer (some ⟨w.heap.size, 7, none⟩)) := by rw [ha]; exact (putSel_off rfl).trans rfl
      replace ha := Aside0.mk ha
      have FF := Aside0.mk Q_FF
      have y := (blk_cell FF.out.bx 7).trans rfl
      refine value_ (w1 := w') (v := .slice A7 l7.length c7) (by rfl) rfl ?_ ?_
      · go_simp
        (try simp only [i64_w])
        try rfl
      refine hK.out _ _ ⟨g1_, g2_, g3_, g4_, g8_, c1_, c2_, c3_, c4_, v0_, m5_, m6_, m9_, m10_, m13_, m14_, m17_, m18_, m28_, m29_, m31_, (by rw [ha.out]; exact putSel_upk 18 hb_ rfl rfl rfl), Q_FF, Q_C1, Q_S1, Q_C2, Q_S2, Q_C3, Q_S3, Q_C4, Q_S4, fun _ _ _ _ h4_ => absurd ((hoff 28 (by kernel_rfl)).symm.trans h4_) (by decide), fun h0_ => absurd ((hoff 30 (by kernel_rfl)).symm.trans h0_) (by decide), Q_X5_, Q_X6_, Q_X9_, Q_X10_, Q_X13_, Q_X14_, Q_X17_, Q_X18_, fun h0_ => absurd ((hoff 28 (by kernel_rfl)).symm.trans h0_) (by decide), fun h0_ => absurd ((hoff 29 (by kernel_rfl)).symm.trans h0_) (by decide), fun h0_ => absurd ((hoff 31 (by kernel_rfl)).symm.trans h0_) (by decide)⟩
    refine steps_cons ?_ ?_
    · rintro b a w' ⟨g1_, g2_, g3_, g4_, g8_, c1_, c2_, c3_, c4_, v0_, m5_, m6_, m9_, m10_, m13_, m14_, m17_, m18_, m28_, m29_, m31_, ha, Q_FF, Q_C1, Q_S1, Q_C2, Q_S2, Q_C3, Q_S3, Q_C4, Q_S4, Q_G8, Q_HR, Q_X5_, Q_X6_, Q_X9_, Q_X10_, Q_X13_, Q_X14_, Q_X17_, Q_X18_, Q_X28_, Q_X29_, Q_X31_⟩ hb_ hon hoff
      refine ⟨_, rfl, fun K hK => ?_⟩
      have e29 : a.tmps[29]? = some (.slice A7 l7.length c7) := by rw [ha]; exact putSel_on (e := (26, 29, .slice A7 l7.length c7)) 18 rfl rfl (hon 26 (by kernel_rfl)) rfl
      replace ha := Aside0.mk ha
      have FF := Aside0.mk Q_FF
      have C1 := Aside0.mk (Q_C1 (hon 5 (by kernel_rfl)))
      have S1 := Aside0.mk (Q_S1 (hon 5 (by kernel_rfl)))
      have C2 := Aside0.mk (Q_C2 (hon 9 (by kernel_rfl)))
      have S2 := Aside0.mk (Q_S2 (hon 9 (by kernel_rfl)))
      have C3 := Aside0.mk (Q_C3 (hon 13 (by kernel_rfl)))
      have S3 := Aside0.mk (Q_S3 (hon 13 (by kernel_rfl)))
      have C4 := Aside0.mk (Q_C4 (hon 17 (by kernel_rfl)))
      have S4 := Aside0.mk (Q_S4 (hon 17 (by kernel_rfl)))
      refine goes_ Tryd.func33 (by kernel_rfl) rfl #[.slice A7 l7.length c7] (by rfl) rfl rfl (by first | (simp only [List.map_toArray, List.map_cons, List.map_nil, Act.eval, Array.getD_eq_getD_getElem?, Option.getD_some, e29]; done) | (simp only [List.map_toArray, List.map_cons, List.map_nil, Act.eval, Array.getD_eq_getD_getElem?, Option.getD_some, e29]; rfl)) ?_
      with_reducible refine (raw28 _ _ _ _).mono ?_
      rintro e w1_ ⟨rfl, hb⟩
      refine ⟨_, rfl, ?_⟩
      refine hK.out _ _ ⟨g1_, g2_, g3_, g4_, g8_, c1_, c2_, c3_, c4_, v0_, m5_, m6_, m9_, m10_, m13_, m14_, m17_, m18_, m28_, m29_, m31_, (by rw [ha.out]; exact putSel_upk 19 hb_ rfl rfl rfl), FF.out.step hb, fun _ => Kd.C_below C1.out hb, Q_S1, fun _ => Kd.C_below C2.out hb, Q_S2, fun _ => Kd.C_below C3.out hb, Q_S3, fun _ => Kd.C_below C4.out hb, Q_S4, fun _ _ _ _ h4_ => absurd ((hoff 28 (by kernel_rfl)).symm.trans h4_) (by decide), fun h0_ => absurd ((hoff 30 (by kernel_rfl)).symm.trans h0_) (by decide), Q_X5_, Q_X6_, Q_X9_, Q_X10_, Q_X13_, Q_X14_, Q_X17_, Q_X18_, fun h0_ => absurd ((hoff 28 (by kernel_rfl)).symm.trans h0_) (by decide), fun h0_ => absurd ((hoff 29 (by kernel_rfl)).symm.trans h0_) (by decide), fun h0_ => absurd ((hoff 31 (by kernel_rfl)).symm.trans h0_) (by decide)⟩
    refine steps_cons ?_ ?_
    · rintro b a w' ⟨g1_, g2_, g3_, g4_, g8_, c1_, c2_, c3_, c4_, v0_, m5_, m6_, m9_, m10_, m13_, m14_, m17_, m18_, m28_, m29_, m31_, ha, Q_FF, Q_C1, Q_S1, Q_C2, Q_S2, Q_C3, Q_S3, Q_C4, Q_S4, Q_G8, Q_HR, Q_X5_, Q_X6_, Q_X9_, Q_X10_, Q_X13_, Q_X14_, Q_X17_, Q_X18_, Q_X28_, Q_X29_, Q_X31_⟩ hb_ hon hoff
      refine ⟨_, rfl, fun K hK => ?_⟩
      have e5 : a.tmps[5]? = some (.agg #[.int .i64 1, .int .i64 k, .slice none 0 0, .slice none 0 0]) := by rw [ha]; exact putSel_on (e := (2, 5, .agg #[.int .i64 1, .int .i64 k, .slice none 0 0, .slice none 0 0])) 1 rfl rfl (hon 2 (by kernel_rfl)) rfl
      have e9 : a.tmps[9]? = some (m6_) := by rw [ha]; exact putSel_on (e := (6, 9, m6_)) 4 rfl rfl (hon 6 (by kernel_rfl)) rfl
      rw [Q_X6_ (hon 6 (by kernel_rfl))] at e9
      have e13 : a.tmps[13]? = some (m10_) := by rw [ha]; exact putSel_on (e := (10, 13, m10_)) 7 rfl rfl (hon 10 (by kernel_rfl)) rfl
      rw [Q_X10_ (hon 10 (by kernel_rfl))] at e13
      have e17 : a.tmps[17]? = some (m14_) := by rw [ha]; exact putSel_on (e := (14, 17, m14_)) 10 rfl rfl (hon 14 (by kernel_rfl)) rfl
      rw [Q_X14_ (hon 14 (by kernel_rfl))] at e17
      have e21 : a.tmps[21]? = some (m18_) := by rw [ha]; exact putSel_on (e := (18, 21, m18_)) 13 rfl rfl (hon 18 (by kernel_rfl)) rfl
      rw [Q_X18_ (hon 18 (by kernel_rfl))] at e21
      have e24 : a.tmps[24]? = some (.agg #[.int .i64 1, .int .i64 ro, .slice none 0 0, .slice none 0 0]) := by rw [ha]; exact putSel_on (e := (21, 24, .agg #[.int .i64 1, .int .i64 ro, .slice none 0 0, .slice none 0 0])) 15 rfl rfl (hon 21 (by kernel_rfl)) rfl
      have e27 : a.tmps[27]? = some (.agg #[.int .i64 1, .int .i64 ve, .slice none 0 0, .slice none 0 0]) := by rw [ha]; exact putSel_on (e := (24, 27, .agg #[.int .i64 1, .int .i64 ve, .slice none 0 0, .slice none 0 0])) 17 rfl rfl (hon 24 (by kernel_rfl)) rfl
      have e30 : a.tmps[30]? = some (.agg #[.int .i64 2, .int .i64 0, .slice A7 l7.length c7, .slice none 0 0]) := by rw [ha]; exact putSel_on (e := (27, 30, .agg #[.int .i64 2, .int .i64 0, .slice A7 l7.length c7, .slice none 0 0])) 19 rfl rfl (hon 27 (by kernel_rfl)) rfl
      replace ha := Aside0.mk ha
      have FF := Aside0.mk Q_FF
      have C1 := Aside0.mk (Q_C1 (hon 5 (by kernel_rfl)))
      have S1 := Aside0.mk (Q_S1 (hon 5 (by kernel_rfl)))
      have C2 := Aside0.mk (Q_C2 (hon 9 (by kernel_rfl)))
      have S2 := Aside0.mk (Q_S2 (hon 9 (by kernel_rfl)))
      have C3 := Aside0.mk (Q_C3 (hon 13 (by kernel_rfl)))
      have S3 := Aside0.mk (Q_S3 (hon 13 (by kernel_rfl)))
      have C4 := Aside0.mk (Q_C4 (hon 17 (by kernel_rfl)))
      have S4 := Aside0.mk (Q_S4 (hon 17 (by kernel_rfl)))
      refine event_step (w1 := w'.alloc (.cells #[.int .i64 1, .int .i64 k, .slice none 0 0, .slice none 0 0, .int .i64 2, .int .i64 0, .slice (some ⟨g1_, 0, none⟩) (bytesOf u).length c1_, .slice none 0 0, .int .i64 2, .int .i64 0, .slice (some ⟨g2_, 0, none⟩) (bytesOf f).length c2_, .slice none 0 0, .int .i64 2, .int .i64 0, .slice (some ⟨g3_, 0, none⟩) (bytesOf n).length c3_, .slice none 0 0, .int .i64 2, .int .i64 0, .slice (some ⟨g4_, 0, none⟩) (bytesOf o).length c4_, .slice none 0 0, .int .i64 1, .int .i64 ro, .slice none 0 0, .slice none 0 0, .int .i64 1, .int .i64 ve, .slice none 0 0, .slice none 0 0, .int .i64 2, .int .i64 0, .slice A7 l7.length c7, .slice none 0 0] 43)) (v := .slice (some ⟨w'.heap.size, 0, none⟩) 8 8) (by rfl) ?_ ?_
      · first | (go_simp; done) | (go_simp; rfl)
      have hb := below_alloc (Below.refl w'.heap.size w') (.cells #[.int .i64 1, .int .i64 k, .slice none 0 0, .slice none 0 0, .int .i64 2, .int .i64 0, .slice (some ⟨g1_, 0, none⟩) (bytesOf u).length c1_, .slice none 0 0, .int .i64 2, .int .i64 0, .slice (some ⟨g2_, 0, none⟩) (bytesOf f).length c2_, .slice none 0 0, .int .i64 2, .int .i64 0, .slice (some ⟨g3_, 0, none⟩) (bytesOf n).length c3_, .slice none 0 0, .int .i64 2, .int .i64 0, .slice (some ⟨g4_, 0, none⟩) (bytesOf o).length c4_, .slice none 0 0, .int .i64 1, .int .i64 ro, .slice none 0 0, .slice none 0 0, .int .i64 1, .int .i64 ve, .slice none 0 0, .slice none 0 0, .int .i64 2, .int .i64 0, .slice A7 l7.length c7, .slice none 0 0] 43)
      refine hK.out _ _ ⟨g1_, g2_, g3_, g4_, w'.heap.size, c1_, c2_, c3_, c4_, v0_, m5_, m6_, m9_, m10_, m13_, m14_, m17_, m18_, (.slice (some ⟨w'.heap.size, 0, none⟩) 8 8), m29_, m31_, (by rw [ha.out]; exact putSel_upk 20 hb_ rfl rfl rfl), FF.out.step hb, fun _ => Kd.C_below C1.out hb, Q_S1, fun _ => Kd.C_below C2.out hb, Q_S2, fun _ => Kd.C_below C3.out hb, Q_S3, fun _ => Kd.C_below C4.out hb, Q_S4, fun _ _ _ _ _ => blk_new w' _, fun h0_ => absurd ((hoff 30 (by kernel_rfl)).symm.trans h0_) (by decide), Q_X5_, Q_X6_, Q_X9_, Q_X10_, Q_X13_, Q_X14_, Q_X17_, Q_X18_, fun _ => rfl, fun h0_ => absurd ((hoff 29 (by kernel_rfl)).symm.trans h0_) (by decide), fun h0_ => absurd ((hoff 31 (by kernel_rfl)).symm.trans h0_) (by decide)⟩
    refine steps_cons ?_ ?_
    · rintro b a w' ⟨g1_, g2_, g3_, g4_, g8_, c1_, c2_, c3_, c4_, v0_, m5_, m6_, m9_, m10_, m13_, m14_, m17_, m18_, m28_, m29_, m31_, ha, Q_FF, Q_C1, Q_S1, Q_C2, Q_S2, Q_C3, Q_S3, Q_C4, Q_S4, Q_G8, Q_HR, Q_X5_, Q_X6_, Q_X9_, Q_X10_, Q_X13_, Q_X14_, Q_X17_, Q_X18_, Q_X28_, Q_X29_, Q_X31_⟩ hb_ hon hoff
      refine ⟨_, rfl, fun K hK => ?_⟩
      have e31 : a.tmps[31]? = some (m28_) := by rw [ha]; exact putSel_on (e := (28, 31, m28_)) 20 rfl rfl (hon 28 (by kernel_rfl)) rfl
      rw [Q_X28_ (hon 28 (by kernel_rfl))] at e31
      replace ha := Aside0.mk ha
      have FF := Aside0.mk Q_FF
      have C1 := Aside0.mk (Q_C1 (hon 5 (by kernel_rfl)))
      have S1 := Aside0.mk (Q_S1 (hon 5 (by kernel_rfl)))
      have C2 := Aside0.mk (Q_C2 (hon 9 (by kernel_rfl)))
      have S2 := Aside0.mk (Q_S2 (hon 9 (by kernel_rfl)))
      have C3 := Aside0.mk (Q_C3 (hon 13 (by kernel_rfl)))
      have S3 := Aside0.mk (Q_S3 (hon 13 (by kernel_rfl)))
      have C4 := Aside0.mk (Q_C4 (hon 17 (by kernel_rfl)))
      have S4 := Aside0.mk (Q_S4 (hon 17 (by kernel_rfl)))
      have G8 := Aside0.mk (Q_G8 (hon 5 (by kernel_rfl)) (hon 9 (by kernel_rfl)) (hon 13 (by kernel_rfl)) (hon 17 (by kernel_rfl)) (hon 28 (by kernel_rfl)))
      refine goes_ Tryd.func31 (by kernel_rfl) rfl #[.slice (some ⟨g8_, 0, none⟩) 8 8] (by rfl) rfl rfl (by first | (simp only [List.map_toArray, List.map_cons, List.map_nil, Act.eval, Array.getD_eq_getD_getElem?, Option.getD_some, e31]; done) | (simp only [List.map_toArray, List.map_cons, List.map_nil, Act.eval, Array.getD_eq_getD_getElem?, Option.getD_some, e31]; rfl)) ?_
      with_reducible refine (of28 _ _ _ _).mono ?_
      rintro e w1_ ⟨rfl, hb⟩
      refine ⟨_, rfl, ?_⟩
      refine hK.out _ _ ⟨g1_, g2_, g3_, g4_, g8_, c1_, c2_, c3_, c4_, v0_, m5_, m6_, m9_, m10_, m13_, m14_, m17_, m18_, m28_, (.agg #[.int .i64 3, .int .i64 0, .slice none 0 0, .slice (some ⟨g8_, 0, none⟩) 8 8]), m31_, (by rw [ha.out]; exact putSel_upk 21 hb_ rfl rfl rfl), FF.out.step hb, fun _ => Kd.C_below C1.out hb, Q_S1, fun _ => Kd.C_below C2.out hb, Q_S2, fun _ => Kd.C_below C3.out hb, Q_S3, fun _ => Kd.C_below C4.out hb, Q_S4, fun _ _ _ _ _ => (hb.block _ (blk_lt G8.out)).trans G8.out, fun h0_ => absurd ((hoff 30 (by kernel_rfl)).symm.trans h0_) (by decide), Q_X5_, Q_X6_, Q_X9_, Q_X10_, Q_X13_, Q_X14_, Q_X17_, Q_X18_, Q_X28_, fun _ => rfl, fun h0_ => absurd ((hoff 31 (by kernel_rfl)).symm.trans h0_) (by decide)⟩
    refine steps_cons ?_ ?_
    · rintro b a w' ⟨g1_, g2_, g3_, g4_, g8_, c1_, c2_, c3_, c4_, v0_, m5_, m6_, m9_, m10_, m13_, m14_, m17_, m18_, m28_, m29_, m31_, ha, Q_FF, Q_C1, Q_S1, Q_C2, Q_S2, Q_C3, Q_S3, Q_C4, Q_S4, Q_G8, Q_HR, Q_X5_, Q_X6_, Q_X9_, Q_X10_, Q_X13_, Q_X14_, Q_X17_, Q_X18_, Q_X28_, Q_X29_, Q_X31_⟩ hb_ hon hoff
      refine ⟨_, rfl, fun K hK => ?_⟩
      have e32 : a.tmps[32]? = some (m29_) := by rw [ha]; exact putSel_on (e := (29, 32, m29_)) 21 rfl rfl (hon 29 (by kernel_rfl)) rfl
      rw [Q_X29_ (hon 29 (by kernel_rfl))] at e32
      replace ha := Aside0.mk ha
      have FF := Aside0.mk Q_FF
      have C1 := Aside0.mk (Q_C1 (hon 5 (by kernel_rfl)))
      have S1 := Aside0.mk (Q_S1 (hon 5 (by kernel_rfl)))
      have C2 := Aside0.mk (Q_C2 (hon 9 (by kernel_rfl)))
      have S2 := Aside0.mk (Q_S2 (hon 9 (by kernel_rfl)))
      have C3 := Aside0.mk (Q_C3 (hon 13 (by kernel_rfl)))
      have S3 := Aside0.mk (Q_S3 (hon 13 (by kernel_rfl)))
      have C4 := Aside0.mk (Q_C4 (hon 17 (by kernel_rfl)))
      have S4 := Aside0.mk (Q_S4 (hon 17 (by kernel_rfl)))
      have G8 := Aside0.mk (Q_G8 (hon 5 (by kernel_rfl)) (hon 9 (by kernel_rfl)) (hon 13 (by kernel_rfl)) (hon 17 (by kernel_rfl)) (hon 28 (by kernel_rfl)))
      refine goes_ Tryd.func30 (by kernel_rfl) rfl #[.agg #[.int .i64 3, .int .i64 0, .slice none 0 0, .slice (some ⟨g8_, 0, none⟩) 8 8]] (by rfl) rfl rfl (by first | (simp only [List.map_toArray, List.map_cons, List.map_nil, Act.eval, Array.getD_eq_getD_getElem?, Option.getD_some, e32]; done) | (simp only [List.map_toArray, List.map_cons, List.map_nil, Act.eval, Array.getD_eq_getD_getElem?, Option.getD_some, e32]; rfl)) ?_
      with_reducible refine (bytes_lit kk g8_ (row8 k u f n o ro ve l7) rfl bs _ (C_row8 G8.out C1.out S1.out C2.out S2.out C3.out S3.out C4.out S4.out FF.out.c7 L7.out) HE.out).mono ?_
      rintro e w1_ ⟨v0, rfl, hr, hb⟩
      refine ⟨_, rfl, ?_⟩
      refine hK.out _ _ ⟨g1_, g2_, g3_, g4_, g8_, c1_, c2_, c3_, c4_, v0, m5_, m6_, m9_, m10_, m13_, m14_, m17_, m18_, m28_, m29_, m31_, (by rw [ha.out]; exact putSel_upk 22 hb_ rfl rfl rfl), FF.out.step hb, fun _ => Kd.C_below C1.out hb, Q_S1, fun _ => Kd.C_below C2.out hb, Q_S2, fun _ => Kd.C_below C3.out hb, Q_S3, fun _ => Kd.C_below C4.out hb, Q_S4, fun _ _ _ _ _ => (hb.block _ (blk_lt G8.out)).trans G8.out, fun _ => Kd.R_lower hr FF.out.hb.size, Q_X5_, Q_X6_, Q_X9_, Q_X10_, Q_X13_, Q_X14_, Q_X17_, Q_X18_, Q_X28_, Q_X29_, fun h0_ => absurd ((hoff 31 (by kernel_rfl)).symm.trans h0_) (by decide)⟩
    refine steps_cons ?_ ?_
    · rintro b a w' ⟨g1_, g2_, g3_, g4_, g8_, c1_, c2_, c3_, c4_, v0_, m5_, m6_, m9_, m10_, m13_, m14_, m17_, m18_, m28_, m29_, m31_, ha, Q_FF, Q_C1, Q_S1, Q_C2, Q_S2, Q_C3, Q_S3, Q_C4, Q_S4, Q_G8, Q_HR, Q_X5_, Q_X6_, Q_X9_, Q_X10_, Q_X13_, Q_X14_, Q_X17_, Q_X18_, Q_X28_, Q_X29_, Q_X31_⟩ hb_ hon hoff
      refine ⟨_, rfl, fun K hK => ?_⟩
      have e33 : a.tmps[33]? = some (v0_) := by rw [ha]; exact putSel_on (e := (30, 33, v0_)) 22 rfl rfl (hon 30 (by kernel_rfl)) rfl
      replace ha := Aside0.mk ha
      have FF := Aside0.mk Q_FF
      have C1 := Aside0.mk (Q_C1 (hon 5 (by kernel_rfl)))
      have S1 := Aside0.mk (Q_S1 (hon 5 (by kernel_rfl)))
      have C2 := Aside0.mk (Q_C2 (hon 9 (by kernel_rfl)))
      have S2 := Aside0.mk (Q_S2 (hon 9 (by kernel_rfl)))
      have C3 := Aside0.mk (Q_C3 (hon 13 (by kernel_rfl)))
      have S3 := Aside0.mk (Q_S3 (hon 13 (by kernel_rfl)))
      have C4 := Aside0.mk (Q_C4 (hon 17 (by kernel_rfl)))
      have S4 := Aside0.mk (Q_S4 (hon 17 (by kernel_rfl)))
      have G8 := Aside0.mk (Q_G8 (hon 5 (by kernel_rfl)) (hon 9 (by kernel_rfl)) (hon 13 (by kernel_rfl)) (hon 17 (by kernel_rfl)) (hon 28 (by kernel_rfl)))
      have HR := Aside0.mk (Q_HR (hon 30 (by kernel_rfl)))
      refine value_ (w1 := w') (v := v0_) (by rfl) rfl ?_ ?_
      · go_simp
        (try simp only [i64_w])
        try rfl
      refine hK.out _ _ ⟨g1_, g2_, g3_, g4_, g8_, c1_, c2_, c3_, c4_, v0_, m5_, m6_, m9_, m10_, m13_, m14_, m17_, m18_, m28_, m29_, (v0_), (by rw [ha.out]; exact putSel_upk 23 hb_ rfl rfl rfl), Q_FF, Q_C1, Q_S1, Q_C2, Q_S2, Q_C3, Q_S3, Q_C4, Q_S4, Q_G8, Q_HR, Q_X5_, Q_X6_, Q_X9_, Q_X10_, Q_X13_, Q_X14_, Q_X17_, Q_X18_, Q_X28_, Q_X29_, fun _ => rfl⟩
    exact steps_nil
  · rintro b a w' hall ⟨g1_, g2_, g3_, g4_, g8_, c1_, c2_, c3_, c4_, v0_, m5_, m6_, m9_, m10_, m13_, m14_, m17_, m18_, m28_, m29_, m31_, ha, Q_FF, Q_C1, Q_S1, Q_C2, Q_S2, Q_C3, Q_S3, Q_C4, Q_S4, Q_G8, Q_HR, Q_X5_, Q_X6_, Q_X9_, Q_X10_, Q_X13_, Q_X14_, Q_X17_, Q_X18_, Q_X28_, Q_X29_, Q_X31_⟩
    clear FF
    have hb1_ := hall 1 (by kernel_rfl)
    have hb2_ := hall 2 (by kernel_rfl)
    have hb4_ := hall 4 (by kernel_rfl)
    have hb5_ := hall 5 (by kernel_rfl)
    have hb6_ := hall 6 (by kernel_rfl)
    have hb8_ := hall 8 (by kernel_rfl)
    have hb9_ := hall 9 (by kernel_rfl)
    have hb10_ := hall 10 (by kernel_rfl)
    have hb12_ := hall 12 (by kernel_rfl)
    have hb13_ := hall 13 (by kernel_rfl)
    have hb14_ := hall 14 (by kernel_rfl)
    have hb16_ := hall 16 (by kernel_rfl)
    have hb17_ := hall 17 (by kernel_rfl)
    have hb18_ := hall 18 (by kernel_rfl)
    have hb20_ := hall 20 (by kernel_rfl)
    have hb21_ := hall 21 (by kernel_rfl)
    have hb23_ := hall 23 (by kernel_rfl)
    have hb24_ := hall 24 (by kernel_rfl)
    have hb26_ := hall 26 (by kernel_rfl)
    have hb27_ := hall 27 (by kernel_rfl)
    have hb28_ := hall 28 (by kernel_rfl)
    have hb29_ := hall 29 (by kernel_rfl)
    have hb30_ := hall 30 (by kernel_rfl)
    have hb31_ := hall 31 (by kernel_rfl)
    subst ha
    obtain rfl := Q_X5_ hb5_
    obtain rfl := Q_X6_ hb6_
    obtain rfl := Q_X9_ hb9_
    obtain rfl := Q_X10_ hb10_
    obtain rfl := Q_X13_ hb13_
    obtain rfl := Q_X14_ hb14_
    obtain rfl := Q_X17_ hb17_
    obtain rfl := Q_X18_ hb18_
    obtain rfl := Q_X28_ hb28_
    obtain rfl := Q_X29_ hb29_
    obtain rfl := Q_X31_ hb31_
    simp only [putSel, hb1_, hb2_, hb4_, hb5_, hb6_, hb8_, hb9_, hb10_, hb12_, hb13_, hb14_, hb16_, hb17_, hb18_, hb20_, hb21_, hb23_, hb24_, hb26_, hb27_, hb28_, hb29_, hb30_, hb31_, if_true, Act.put, List.setIfInBounds_toArray, List.set_cons_zero, List.set_cons_succ]
    have FF := Aside0.mk Q_FF
    clear Q_FF
    have C1 := Aside0.mk (Q_C1 hb5_)
    clear Q_C1
    have S1 := Aside0.mk (Q_S1 hb5_)
    clear Q_S1
    have C2 := Aside0.mk (Q_C2 hb9_)
    clear Q_C2
    have S2 := Aside0.mk (Q_S2 hb9_)
    clear Q_S2
    have C3 := Aside0.mk (Q_C3 hb13_)
    clear Q_C3
    have S3 := Aside0.mk (Q_S3 hb13_)
    clear Q_S3
    have C4 := Aside0.mk (Q_C4 hb17_)
    clear Q_C4
    have S4 := Aside0.mk (Q_S4 hb17_)
    clear Q_S4
    have G8 := Aside0.mk (Q_G8 hb5_ hb9_ hb13_ hb17_ hb28_)
    clear Q_G8
    have HR := Aside0.mk (Q_HR hb30_)
    clear Q_HR
    clear hall hb1_ hb2_ hb4_ hb5_ hb6_ hb8_ hb9_ hb10_ hb12_ hb13_ hb14_ hb16_ hb17_ hb18_ hb20_ hb21_ hb23_ hb24_ hb26_ hb27_ hb28_ hb29_ hb30_ hb31_
    go_wp2
    go_ret
    exact ⟨_, rfl, HR.out, FF.out.hb⟩
def fieldsT : List Int := [0, 0, 9, 9, 1, 21, 21, 5, 67, 35, 1, 3, 3, 1, 4, 0, 4]
/-- The table of the kinds' fields reads as the program's text lays it. -/
def GT (w : World) : Prop := ∀ j x, fieldsT[j]? = some x → w.cell? ⟨0, j, none⟩ = some (.int .i64 x)
theorem cell_lt {w : World} {a : Addr} {v : Value} (h : w.cell? a = some v) : a.block < w.heap.size := by
  unfold World.cell? at h
  split at h
  · rename_i hq
    exact (Array.getElem?_eq_some_iff.1 hq).1
  · cases h
theorem gt_below {w w' : World} (h : GT w) (hb : Below w.heap.size w w') : GT w' := fun j x hj => (hb.cell (p := ⟨0, j, none⟩) (cell_lt (h j x hj))).trans (h j x hj)
def bitB (ff m : Int) : Bool := (Go.bits .and .i64 ff m != 0)
structure MS (w : World) (kd : Int) (u f n o : ByteArray) (ro ve : Int) (A7 : Option Addr) (c7 : Nat) (l7 : List Int) (W : World) : Prop where
  hb : Below w.heap.size w W
  bx : W.heap[w.heap.size]? = some (.cells #[.int .i64 kd, .string u, .string f, .string n, .string o, .int .i64 ro, .int .i64 ve, .slice A7 l7.length c7] 24 (0, 0))
  gt : GT W
theorem MS.step {w : World} {kd : Int} {u f n o : ByteArray} {ro ve : Int} {A7 : Option Addr} {c7 : Nat} {l7 : List Int} {W W' : World} (h : MS w kd u f n o ro ve A7 c7 l7 W) (hb : Below W.heap.size W W') : MS w kd u f n o ro ve A7 c7 l7 W' := ⟨h.hb.trans (hb.mono h.hb.size), (hb.block _ (blk_lt h.bx)).trans h.bx, gt_below h.gt hb⟩
def mayT (k : Nat) (kd : Int) (u f o : ByteArray) (ro ve : Int) (l7 : List Int) : Option Bool :=
  if ((Go.bits .and .i64 (rd fieldsT kd) 1 == 0) && (o.toList == u.toList) || (kd == 2) && (o.toList == f.toList)) = true then some false else
    (call_number.f ro 1 4 (Go.bits .and .i64 (rd fieldsT kd) 16 != 0)).bind fun t4 => if t4 = true then (call_number.f ve 0 1099511627776 (Go.bits .and .i64 (rd fieldsT kd) 32 != 0)).bind fun t5 => if t5 = true then call_number.f (l7.length : Int) 0 512 (Go.bits .and .i64 (rd fieldsT kd) 64 != 0) else some false else some false
def call_May.f (k : Nat) (kd : Int) (u f n o : ByteArray) (ro ve : Int) (l7 : List Int) : Option Bool :=
  if kd < 1 then some false else if kd > 16 then some false else (tree_Name.f k u).bind fun t => if t = true then (call_text.f k f (Go.bits .and .i64 (rd fieldsT kd) 1 != 0)).bind fun t1 => if t1 = true then (call_text.f k n (Go.bits .and .i64 (rd fieldsT kd) 2 != 0)).bind fun t2 => if t2 = true then
    (call_text.f k o ((Go.bits .and .i64 (rd fieldsT kd) 4 != 0) || ((Go.bits .and .i64 (rd fieldsT kd) 8 != 0) && (o.toList != [])))).bind fun t3 => if t3 = true then mayT k kd u f o ro ve l7 else some false else some false else some false else some false
theorem call_May.mono : ∀ kd u f n o ro ve l7 k, LeO (call_May.f k kd u f n o ro ve l7) (call_May.f (k + 1) kd u f n o ro ve l7) := by
  intro kd u f n o ro ve l7 k
  unfold call_May.f mayT
  exact LeO.ite (LeO.refl _) (LeO.ite (LeO.refl _) (LeO.bind (tree_Name.mono _ _) fun _ => LeO.ite (LeO.bind (call_text.mono _ _ _) fun _ => LeO.ite (LeO.bind (call_text.mono _ _ _) fun _ => LeO.ite (LeO.bind (call_text.mono _ _ _) fun _ => LeO.ite (LeO.refl _) (LeO.refl _)) (LeO.refl _)) (LeO.refl _)) (LeO.refl _)))
theorem gt_at {w : World} (h : GT w) (kd : Int) (h1 : 1 ≤ kd) (h2 : kd ≤ 16) : w.cell? ⟨0, kd.toNat, none⟩ = some (.int .i64 (rd fieldsT kd)) := by
  refine h kd.toNat _ ?_
  have hl : kd.toNat < fieldsT.length := by show kd.toNat < 17; omega
  unfold rd
  rw [List.getD_eq_getElem?_getD, List.getElem?_eq_getElem hl]
  rfl
set_option maxHeartbeats 4000000 in
set_option maxRecDepth 100000 in
theorem call_May.calls (k : Nat) (kd : Int) (u f n o : ByteArray) (ro ve : Int) (A7 : Option Addr) (c7 : Nat) (l7 : List Int) (r : Bool) (w : World) (hgt : GT w) (h : call_May.f k kd u f n o ro ve l7 = some r) :
    Calls Tryd.prog 13 #[.agg #[.int .i64 kd, .string u, .string f, .string n, .string o, .int .i64 ro, .int .i64 ve, .slice A7 l7.length c7]] w fun e w' => e = .returned (.bool r) ∧ Below w.heap.size w w' := by
  have FF := Aside0.mk (show MS w kd u f n o ro ve A7 c7 l7 _ from ⟨(Below.refl _ w).alloc (Nat.le_refl _) (.cells #[.int .i64 kd, .string u, .string f, .string n, .string o, .int .i64 ro, .int .i64 ve, .slice A7 l7.length c7] 24), Array.getElem?_push_size, gt_below hgt (below_alloc (Below.refl _ _) _)⟩)
  clear hgt
  have x0 := (blk_cell FF.out.bx 0).trans rfl
  have x1 := (blk_cell FF.out.bx 1).trans rfl
  have x2 := (blk_cell FF.out.bx 2).trans rfl
  have x3 := (blk_cell FF.out.bx 3).trans rfl
  have x4 := (blk_cell FF.out.bx 4).trans rfl
  have x5 := (blk_cell FF.out.bx 5).trans rfl
  have x6 := (blk_cell FF.out.bx 6).trans rfl
  have x7 := (blk_cell FF.out.bx 7).trans rfl
  unfold call_May.f at h
  by_cases h1 : kd < 1
  · rw [if_pos h1] at h
    cases h
    have p1 : decide (kd < 1) = true := decide_eq_true h1
    go_enter Tryd.func13, Tryd.ntmps13
    go_wp2
    go_ret
    exact ⟨rfl, FF.out.hb⟩
  rw [if_neg h1] at h
  have p1 : decide (kd < 1) = false := decide_eq_false h1
  by_cases h2 : kd > 16
  · rw [if_pos h2] at h
    cases h
    have p2 : decide (kd > 16) = true := decide_eq_true h2
    have p3 : decide (16 < kd) = true := decide_eq_true h2
    go_enter Tryd.func13, Tryd.ntmps13
    go_wp2
    go_ret
    exact ⟨rfl, FF.out.hb⟩
  rw [if_neg h2] at h
  have p2 : decide (kd > 16) = false := decide_eq_false h2
  have p3 : decide (16 < kd) = false := decide_eq_false h2
  have p4 : 0 ≤ kd := by omega
  have p5 : kd < 17 := by omega
  have GY := Aside0.mk (fun (W : World) (hW : GT W) => gt_at hW kd (by omega) (by omega))
  clear h1 h2
  obtain ⟨t, ht, h⟩ := Option.bind_eq_some_iff.1 h
  have HT := Aside0.mk ht
  clear ht
  have H := Aside0.mk h
  clear h
  go_enter Tryd.func13, Tryd.ntmps13
  go_wp2_with fail
  refine (tree_Name.calls k u t _ HT.out).mono ?_
  rintro e w1 ⟨rfl, hd⟩
  have hb := hd.below
  have FN_ := Aside0.mk (FF.out.step hb)
  clear FF hb hd x0 x1 x2 x3 x4 x5 x6 x7
  have FF := FN_
  clear FN_
  have x0 := (blk_cell FF.out.bx 0).trans rfl
  have x1 := (blk_cell FF.out.bx 1).trans rfl
  have x2 := (blk_cell FF.out.bx 2).trans rfl
  have x3 := (blk_cell FF.out.bx 3).trans rfl
  have x4 := (blk_cell FF.out.bx 4).trans rfl
  have x5 := (blk_cell FF.out.bx 5).trans rfl
  have x6 := (blk_cell FF.out.bx 6).trans rfl
  have x7 := (blk_cell FF.out.bx 7).trans rfl
  have h := H.out
  clear H
  by_cases q : t = true
  rotate_left
  · rw [if_neg q] at h
    cases h
    have q0 : t = false := by cases t <;> simp_all
    subst q0
    clear q
    go_wp2
    go_ret
    exact ⟨rfl, FF.out.hb⟩
  subst q
  rw [if_pos rfl] at h
  have y0 := GY.out _ FF.out.gt
  obtain ⟨t1, ht1, h⟩ := Option.bind_eq_some_iff.1 h
  have HT1 := Aside0.mk ht1
  clear ht1
  have H := Aside0.mk h
  clear h
  go_wp2_with fail
  refine (call_text.calls k f _ t1 _ HT1.out).mono ?_
  rintro e w2 ⟨rfl, hd⟩
  clear y0
  have hb := hd.below
  have FN_ := Aside0.mk (FF.out.step hb)
  clear FF hb hd x0 x1 x2 x3 x4 x5 x6 x7
  have FF := FN_
  clear FN_
  have x0 := (blk_cell FF.out.bx 0).trans rfl
  have x1 := (blk_cell FF.out.bx 1).trans rfl
  have x2 := (blk_cell FF.out.bx 2).trans rfl
  have x3 := (blk_cell FF.out.bx 3).trans rfl
  have x4 := (blk_cell FF.out.bx 4).trans rfl
  have x5 := (blk_cell FF.out.bx 5).trans rfl
  have x6 := (blk_cell FF.out.bx 6).trans rfl
  have x7 := (blk_cell FF.out.bx 7).trans rfl
  have h := H.out
  clear H
  by_cases q : t1 = true
  rotate_left
  · rw [if_neg q] at h
    cases h
    have q0 : t1 = false := by cases t1 <;> simp_all
    subst q0
    clear q
    go_wp2
    go_ret
    exact ⟨rfl, FF.out.hb⟩
  subst q
  rw [if_pos rfl] at h
  obtain ⟨t2, ht2, h⟩ := Option.bind_eq_some_iff.1 h
  have HT2 := Aside0.mk ht2
  clear ht2
  have H := Aside0.mk h
  clear h
  go_wp2_with fail
  refine (call_text.calls k n _ t2 _ HT2.out).mono ?_
  rintro e w3 ⟨rfl, hd⟩
  have hb := hd.below
  have FN_ := Aside0.mk (FF.out.step hb)
  clear FF hb hd x0 x1 x2 x3 x4 x5 x6 x7
  have FF := FN_
  clear FN_
  have x0 := (blk_cell FF.out.bx 0).trans rfl
  have x1 := (blk_cell FF.out.bx 1).trans rfl
  have x2 := (blk_cell FF.out.bx 2).trans rfl
  have x3 := (blk_cell FF.out.bx 3).trans rfl
  have x4 := (blk_cell FF.out.bx 4).trans rfl
  have x5 := (blk_cell FF.out.bx 5).trans rfl
  have x6 := (blk_cell FF.out.bx 6).trans rfl
  have x7 := (blk_cell FF.out.bx 7).trans rfl
  have h := H.out
  clear H
  by_cases q : t2 = true
  rotate_left
  · rw [if_neg q] at h
    cases h
    have q0 : t2 = false := by cases t2 <;> simp_all
    subst q0
    clear q
    go_wp2
    go_ret
    exact ⟨rfl, FF.out.hb⟩
  subst q
  rw [if_pos rfl] at h
  obtain ⟨t3, ht3, h⟩ := Option.bind_eq_some_iff.1 h
  have HT3 := Aside0.mk ht3
  clear ht3
  have H := Aside0.mk h
  clear h
  go_upto_region 6 with (fail)
  go_cut [39] (fun v39 wc => v39 = .bool (!t3) ∧ Aside0 (MS w kd u f n o ro ve A7 c7 l7 wc))
  case first =>
    cases q4 : (Go.bits .and .i64 (rd fieldsT kd) 4 != 0) with
    | true =>
      have ht3 := HT3.out
      simp only [q4] at ht3
      simp only [Bool.true_or, Bool.false_or, Bool.true_and, Bool.false_and, Bool.and_true, Bool.and_false, Bool.or_true, Bool.or_false] at ht3
      go_wp2_with fail
      refine (call_text.calls k o _ t3 _ ht3).mono ?_
      rintro e w4 ⟨rfl, hd⟩
      have hb := hd.below
      have FN_ := Aside0.mk (FF.out.step hb)
      clear FF hb hd x0 x1 x2 x3 x4 x5 x6 x7
      have FF := FN_
      clear FN_
      have x0 := (blk_cell FF.out.bx 0).trans rfl
      have x1 := (blk_cell FF.out.bx 1).trans rfl
      have x2 := (blk_cell FF.out.bx 2).trans rfl
      have x3 := (blk_cell FF.out.bx 3).trans rfl
      have x4 := (blk_cell FF.out.bx 4).trans rfl
      have x5 := (blk_cell FF.out.bx 5).trans rfl
      have x6 := (blk_cell FF.out.bx 6).trans rfl
      have x7 := (blk_cell FF.out.bx 7).trans rfl
      go_wp2
      go_meet
      case rel => exact ⟨rfl, FF⟩
    | false =>
      cases q8 : (Go.bits .and .i64 (rd fieldsT kd) 8 != 0) with
      | false =>
        have ht3 := HT3.out
        simp only [q4, q8] at ht3
        simp only [Bool.true_or, Bool.false_or, Bool.true_and, Bool.false_and, Bool.and_true, Bool.and_false, Bool.or_true, Bool.or_false] at ht3
        go_wp2_with fail
        refine (call_text.calls k o _ t3 _ ht3).mono ?_
        rintro e w4 ⟨rfl, hd⟩
        have hb := hd.below
        have FN_ := Aside0.mk (FF.out.step hb)
        clear FF hb hd x0 x1 x2 x3 x4 x5 x6 x7
        have FF := FN_
        clear FN_
        have x0 := (blk_cell FF.out.bx 0).trans rfl
        have x1 := (blk_cell FF.out.bx 1).trans rfl
        have x2 := (blk_cell FF.out.bx 2).trans rfl
        have x3 := (blk_cell FF.out.bx 3).trans rfl
        have x4 := (blk_cell FF.out.bx 4).trans rfl
        have x5 := (blk_cell FF.out.bx 5).trans rfl
        have x6 := (blk_cell FF.out.bx 6).trans rfl
        have x7 := (blk_cell FF.out.bx 7).trans rfl
        go_wp2
        go_meet
        case rel => exact ⟨rfl, FF⟩
      | true =>
        cases qe : (o.toList != ([] : List UInt8)) with
        | true =>
          have qe2 : (o.toList == ([] : List UInt8)) = false := by simpa [bne] using qe
          have ht3 := HT3.out
          simp only [q4, q8, qe] at ht3
          simp only [Bool.true_or, Bool.false_or, Bool.true_and, Bool.false_and, Bool.and_true, Bool.and_false, Bool.or_true, Bool.or_false] at ht3
          go_wp2_with fail
          refine (call_text.calls k o _ t3 _ ht3).mono ?_
          rintro e w4 ⟨rfl, hd⟩
          have hb := hd.below
          have FN_ := Aside0.mk (FF.out.step hb)
          clear FF hb hd x0 x1 x2 x3 x4 x5 x6 x7
          have FF := FN_
          clear FN_
          have x0 := (blk_cell FF.out.bx 0).trans rfl
          have x1 := (blk_cell FF.out.bx 1).trans rfl
          have x2 := (blk_cell FF.out.bx 2).trans rfl
          have x3 := (blk_cell FF.out.bx 3).trans rfl
          have x4 := (blk_cell FF.out.bx 4).trans rfl
          have x5 := (blk_cell FF.out.bx 5).trans rfl
          have x6 := (blk_cell FF.out.bx 6).trans rfl
          have x7 := (blk_cell FF.out.bx 7).trans rfl
          go_wp2
          go_meet
          case rel => exact ⟨rfl, FF⟩
        | false =>
          have qe2 : (o.toList == ([] : List UInt8)) = true := by simpa [bne] using qe
          have ht3 := HT3.out
          simp only [q4, q8, qe] at ht3
          simp only [Bool.true_or, Bool.false_or, Bool.true_and, Bool.false_and, Bool.and_true, Bool.and_false, Bool.or_true, Bool.or_false] at ht3
          go_wp2_with fail
          refine (call_text.calls k o _ t3 _ ht3).mono ?_
          rintro e w4 ⟨rfl, hd⟩
          have hb := hd.below
          have FN_ := Aside0.mk (FF.out.step hb)
          clear FF hb hd x0 x1 x2 x3 x4 x5 x6 x7
          have FF := FN_
          clear FN_
          have x0 := (blk_cell FF.out.bx 0).trans rfl
          have x1 := (blk_cell FF.out.bx 1).trans rfl
          have x2 := (blk_cell FF.out.bx 2).trans rfl
          have x3 := (blk_cell FF.out.bx 3).trans rfl
          have x4 := (blk_cell FF.out.bx 4).trans rfl
          have x5 := (blk_cell FF.out.bx 5).trans rfl
          have x6 := (blk_cell FF.out.bx 6).trans rfl
          have x7 := (blk_cell FF.out.bx 7).trans rfl
          go_wp2
          go_meet
          case rel => exact ⟨rfl, FF⟩
  case rest =>
    obtain ⟨rfl, FN⟩ := hcut
    clear x0 x1 x2 x3 x4 x5 x6 x7
    clear FF HT3
    have FF := FN
    clear FN
    have x0 := (blk_cell FF.out.bx 0).trans rfl
    have x1 := (blk_cell FF.out.bx 1).trans rfl
    have x2 := (blk_cell FF.out.bx 2).trans rfl
    have x3 := (blk_cell FF.out.bx 3).trans rfl
    have x4 := (blk_cell FF.out.bx 4).trans rfl
    have x5 := (blk_cell FF.out.bx 5).trans rfl
    have x6 := (blk_cell FF.out.bx 6).trans rfl
    have x7 := (blk_cell FF.out.bx 7).trans rfl
    have h := H.out
    clear H
    by_cases q : t3 = true
    rotate_left
    · rw [if_neg q] at h
      cases h
      have q0 : t3 = false := by cases t3 <;> simp_all
      subst q0
      clear q
      simp only [Bool.not_false]
      go_wp2
      go_ret
      exact ⟨rfl, FF.out.hb⟩
    subst q
    rw [if_pos rfl] at h
    simp only [Bool.not_true]
    unfold mayT at h
    have H := Aside0.mk h
    clear h
    go_upto_region 8 with (fail)
    generalize hE : ((Go.bits .and .i64 (rd fieldsT kd) 1 == 0) && (o.toList == u.toList) || (kd == 2) && (o.toList == f.toList)) = eb at H
    have QE := Aside0.mk hE
    clear hE
    go_cut [57] (fun v57 wc => v57 = .bool eb ∧ Aside0 (MS w kd u f n o ro ve A7 c7 l7 wc))
    case first =>
      cases q1 : (Go.bits .and .i64 (rd fieldsT kd) 1 == 0) with
      | false =>
        cases q3 : (kd == 2) with
        | false =>
          have qe_ := QE.out
          simp only [q1, q3, Bool.true_and, Bool.false_and, Bool.or_true, Bool.true_or, Bool.false_or, Bool.or_false, Bool.and_true, Bool.and_false] at qe_
          subst qe_
          go_wp2
          go_meet
          case rel => exact ⟨rfl, FF⟩
        | true =>
          cases q4 : (o.toList == f.toList) with
          | false =>
            have qe_ := QE.out
            simp only [q1, q3, q4, Bool.true_and, Bool.false_and, Bool.or_true, Bool.true_or, Bool.false_or, Bool.or_false, Bool.and_true, Bool.and_false] at qe_
            subst qe_
            go_wp2
            go_meet
            case rel => exact ⟨rfl, FF⟩
          | true =>
            have qe_ := QE.out
            simp only [q1, q3, q4, Bool.true_and, Bool.false_and, Bool.or_true, Bool.true_or, Bool.false_or, Bool.or_false, Bool.and_true, Bool.and_false] at qe_
            subst qe_
            go_wp2
            go_meet
            case rel => exact ⟨rfl, FF⟩
      | true =>
        cases q2 : (o.toList == u.toList) with
        | true =>
          have qe_ := QE.out
          simp only [q1, q2, Bool.true_and, Bool.false_and, Bool.or_true, Bool.true_or, Bool.false_or, Bool.or_false, Bool.and_true, Bool.and_false] at qe_
          subst qe_
          go_wp2
          go_meet
          case rel => exact ⟨rfl, FF⟩
        | false =>
          cases q3 : (kd == 2) with
          | false =>
            have qe_ := QE.out
            simp only [q1, q2, q3, Bool.true_and, Bool.false_and, Bool.or_true, Bool.true_or, Bool.false_or, Bool.or_false, Bool.and_true, Bool.and_false] at qe_
            subst qe_
            go_wp2
            go_meet
            case rel => exact ⟨rfl, FF⟩
          | true =>
            cases q4 : (o.toList == f.toList) with
            | false =>
              have qe_ := QE.out
              simp only [q1, q2, q3, q4, Bool.true_and, Bool.false_and, Bool.or_true, Bool.true_or, Bool.false_or, Bool.or_false, Bool.and_true, Bool.and_false] at qe_
              subst qe_
              go_wp2
              go_meet
              case rel => exact ⟨rfl, FF⟩
            | true =>
              have qe_ := QE.out
              simp only [q1, q2, q3, q4, Bool.true_and, Bool.false_and, Bool.or_true, Bool.true_or, Bool.false_or, Bool.or_false, Bool.and_true, Bool.and_false] at qe_
              subst qe_
              go_wp2
              go_meet
              case rel => exact ⟨rfl, FF⟩
    case rest =>
      obtain ⟨rfl, FN⟩ := hcut
      clear x0 x1 x2 x3 x4 x5 x6 x7
      clear FF QE
      have FF := FN
      clear FN
      have x0 := (blk_cell FF.out.bx 0).trans rfl
      have x1 := (blk_cell FF.out.bx 1).trans rfl
      have x2 := (blk_cell FF.out.bx 2).trans rfl
      have x3 := (blk_cell FF.out.bx 3).trans rfl
      have x4 := (blk_cell FF.out.bx 4).trans rfl
      have x5 := (blk_cell FF.out.bx 5).trans rfl
      have x6 := (blk_cell FF.out.bx 6).trans rfl
      have x7 := (blk_cell FF.out.bx 7).trans rfl
      have h := H.out
      clear H
      cases eb with
      | true =>
        rw [if_pos rfl] at h
        cases h
        go_wp2
        go_ret
        exact ⟨rfl, FF.out.hb⟩
      | false =>
        rw [if_neg (by decide)] at h
        obtain ⟨t4, ht4, h⟩ := Option.bind_eq_some_iff.1 h
        have HT4 := Aside0.mk ht4
        clear ht4
        have H := Aside0.mk h
        clear h
        go_wp2_with fail
        refine (call_number.calls ro 1 4 _ t4 _ HT4.out).mono ?_
        rintro e w5 ⟨rfl, hd⟩
        have hb := hd.below
        have FN_ := Aside0.mk (FF.out.step hb)
        clear FF hb hd x0 x1 x2 x3 x4 x5 x6 x7
        have FF := FN_
        clear FN_
        have x0 := (blk_cell FF.out.bx 0).trans rfl
        have x1 := (blk_cell FF.out.bx 1).trans rfl
        have x2 := (blk_cell FF.out.bx 2).trans rfl
        have x3 := (blk_cell FF.out.bx 3).trans rfl
        have x4 := (blk_cell FF.out.bx 4).trans rfl
        have x5 := (blk_cell FF.out.bx 5).trans rfl
        have x6 := (blk_cell FF.out.bx 6).trans rfl
        have x7 := (blk_cell FF.out.bx 7).trans rfl
        have h := H.out
        clear H
        by_cases q : t4 = true
        rotate_left
        · rw [if_neg q] at h
          cases h
          have q0 : t4 = false := by cases t4 <;> simp_all
          subst q0
          clear q
          go_wp2
          go_ret
          exact ⟨rfl, FF.out.hb⟩
        subst q
        rw [if_pos rfl] at h
        obtain ⟨t5, ht5, h⟩ := Option.bind_eq_some_iff.1 h
        have HT5 := Aside0.mk ht5
        clear ht5
        have H := Aside0.mk h
        clear h
        go_wp2_with fail
        refine (call_number.calls ve 0 1099511627776 _ t5 _ HT5.out).mono ?_
        rintro e w6 ⟨rfl, hd⟩
        have hb := hd.below
        have FN_ := Aside0.mk (FF.out.step hb)
        clear FF hb hd x0 x1 x2 x3 x4 x5 x6 x7
        have FF := FN_
        clear FN_
        have x0 := (blk_cell FF.out.bx 0).trans rfl
        have x1 := (blk_cell FF.out.bx 1).trans rfl
        have x2 := (blk_cell FF.out.bx 2).trans rfl
        have x3 := (blk_cell FF.out.bx 3).trans rfl
        have x4 := (blk_cell FF.out.bx 4).trans rfl
        have x5 := (blk_cell FF.out.bx 5).trans rfl
        have x6 := (blk_cell FF.out.bx 6).trans rfl
        have x7 := (blk_cell FF.out.bx 7).trans rfl
        have h := H.out
        clear H
        by_cases q : t5 = true
        rotate_left
        · rw [if_neg q] at h
          cases h
          have q0 : t5 = false := by cases t5 <;> simp_all
          subst q0
          clear q
          go_wp2
          go_ret
          exact ⟨rfl, FF.out.hb⟩
        subst q
        rw [if_pos rfl] at h
        have HT6 := Aside0.mk h
        clear h
        go_wp2_with fail
        refine (call_number.calls _ 0 512 _ r _ HT6.out).mono ?_
        rintro e w7 ⟨rfl, hd⟩
        have hb := hd.below
        have FN_ := Aside0.mk (FF.out.step hb)
        clear FF hb hd x0 x1 x2 x3 x4 x5 x6 x7
        have FF := FN_
        clear FN_
        have x0 := (blk_cell FF.out.bx 0).trans rfl
        have x1 := (blk_cell FF.out.bx 1).trans rfl
        have x2 := (blk_cell FF.out.bx 2).trans rfl
        have x3 := (blk_cell FF.out.bx 3).trans rfl
        have x4 := (blk_cell FF.out.bx 4).trans rfl
        have x5 := (blk_cell FF.out.bx 5).trans rfl
        have x6 := (blk_cell FF.out.bx 6).trans rfl
        have x7 := (blk_cell FF.out.bx 7).trans rfl
        go_wp2
        go_ret
        exact ⟨rfl, FF.out.hb⟩
structure CS (w : World) (W : World) : Prop where
  hb : Below w.heap.size w W
  gt : GT W
  bx : W.heap[w.heap.size]? = some (.cells #[.int .i64 10, .string (⟨#[97]⟩ : ByteArray), .string (⟨#[102]⟩ : ByteArray), .string (⟨#[]⟩ : ByteArray), .string (⟨#[]⟩ : ByteArray), .int .i64 0, .int .i64 0, .slice none 0 0] 24 (0, 0))
theorem CS.step {w W W' : World} (h : CS w W) (hb : Below W.heap.size W W') : CS w W' := ⟨h.hb.trans (hb.mono h.hb.size), gt_below h.gt hb, (hb.block _ (blk_lt h.bx)).trans h.bx⟩
set_option maxHeartbeats 4000000 in
set_option maxRecDepth 100000 in
theorem awake30_walk (k : Nat) (bs b2 : List Int) (hm : call_May.f k 10 (⟨#[97]⟩ : ByteArray) (⟨#[102]⟩ : ByteArray) (⟨#[]⟩ : ByteArray) (⟨#[]⟩ : ByteArray) 0 0 [] = some true) (hd : call_May.f k 10 (⟨#[97]⟩ : ByteArray) (⟨#[102]⟩ : ByteArray) (⟨#[110]⟩ : ByteArray) (⟨#[]⟩ : ByteArray) 0 0 [] = some false)
    (he : codec_Encode.f k 3 0 [] (row8 10 (⟨#[97]⟩ : ByteArray) (⟨#[102]⟩ : ByteArray) (⟨#[]⟩ : ByteArray) (⟨#[]⟩ : ByteArray) 0 0 []) = some (bs, 0)) (hb2 : bastilleref02_Bytes.f k 3 0 [] (row8 10 (⟨#[97]⟩ : ByteArray) (⟨#[102]⟩ : ByteArray) (⟨#[]⟩ : ByteArray) (⟨#[]⟩ : ByteArray) 0 0 []) = some b2) (hq : bastilleref01_Same.f k bs b2 = some true) (w : World) (hgt : GT w) :
    Calls Tryd.prog 6 #[] w fun e w' => e = .returned (.bool true) ∧ Below w.heap.size w w' := by
  have FF := Aside0.mk (show CS w (w.alloc (.cells #[.int .i64 10, .string (⟨#[97]⟩ : ByteArray), .string (⟨#[102]⟩ : ByteArray), .string (⟨#[]⟩ : ByteArray), .string (⟨#[]⟩ : ByteArray), .int .i64 0, .int .i64 0, .slice none 0 0] 24)) from ⟨(Below.refl _ w).alloc (Nat.le_refl _) _, gt_below hgt (below_alloc (Below.refl _ _) _), Array.getElem?_push_size⟩)
  have HM := Aside0.mk hm
  have HD := Aside0.mk hd
  have HE := Aside0.mk he
  have HB2 := Aside0.mk hb2
  have HQ := Aside0.mk hq
  clear hm hd he hb2 hq hgt
  have x0 := (blk_cell FF.out.bx 0).trans rfl
  have x1 := (blk_cell FF.out.bx 1).trans rfl
  have x2 := (blk_cell FF.out.bx 2).trans rfl
  have x3 := (blk_cell FF.out.bx 3).trans rfl
  have x4 := (blk_cell FF.out.bx 4).trans rfl
  have x5 := (blk_cell FF.out.bx 5).trans rfl
  have x6 := (blk_cell FF.out.bx 6).trans rfl
  have x7 := (blk_cell FF.out.bx 7).trans rfl
  go_enter Tryd.func6, Tryd.ntmps6
  go_wp2_with fail
  refine (write_any k 10 (⟨#[97]⟩ : ByteArray) (⟨#[102]⟩ : ByteArray) (⟨#[]⟩ : ByteArray) (⟨#[]⟩ : ByteArray) 0 0 none 0 [] bs 0 _ (by decide) (by decide) (by decide) (by decide) (C_none _ _ none) (Nat.le_refl _) (fun W hW => call_May.calls k 10 (⟨#[97]⟩ : ByteArray) (⟨#[102]⟩ : ByteArray) (⟨#[]⟩ : ByteArray) (⟨#[]⟩ : ByteArray) 0 0 none 0 [] true W (gt_below FF.out.gt hW) HM.out) HE.out).mono ?_
  rintro e w1 ⟨v0, rfl, hR, hb⟩
  obtain ⟨A, c, rfl⟩ := Kd.R_slice hR
  have HR := Aside0.mk hR
  have FN_ := Aside0.mk (FF.out.step hb)
  clear x0 x1 x2 x3 x4 x5 x6 x7
  clear hR hb FF
  have FF := FN_
  clear FN_
  have x0 := (blk_cell FF.out.bx 0).trans rfl
  have x1 := (blk_cell FF.out.bx 1).trans rfl
  have x2 := (blk_cell FF.out.bx 2).trans rfl
  have x3 := (blk_cell FF.out.bx 3).trans rfl
  have x4 := (blk_cell FF.out.bx 4).trans rfl
  have x5 := (blk_cell FF.out.bx 5).trans rfl
  have x6 := (blk_cell FF.out.bx 6).trans rfl
  have x7 := (blk_cell FF.out.bx 7).trans rfl
  go_upto_region 5 with (fail)
  clear x0 x1 x2 x3 x4 x5 x6 x7
  have KD := Aside0.mk (show (w1.alloc (.cells #[.int .i64 10, .string (⟨#[97]⟩ : ByteArray), .string (⟨#[102]⟩ : ByteArray), .string (⟨#[110]⟩ : ByteArray), .string (⟨#[]⟩ : ByteArray), .int .i64 0, .int .i64 0, .slice none 0 0] 24)).heap[w1.heap.size]? = some (.cells #[.int .i64 10, .string (⟨#[97]⟩ : ByteArray), .string (⟨#[102]⟩ : ByteArray), .string (⟨#[110]⟩ : ByteArray), .string (⟨#[]⟩ : ByteArray), .int .i64 0, .int .i64 0, .slice none 0 0] 24 (0, 0)) from Array.getElem?_push_size)
  have FN_ := Aside0.mk (FF.out.step (below_alloc (Below.refl w1.heap.size w1) (.cells #[.int .i64 10, .string (⟨#[97]⟩ : ByteArray), .string (⟨#[102]⟩ : ByteArray), .string (⟨#[110]⟩ : ByteArray), .string (⟨#[]⟩ : ByteArray), .int .i64 0, .int .i64 0, .slice none 0 0] 24)))
  have HR2 := Aside0.mk (Kd.C_below (Kd.R_reads' HR.out).2.2 (below_alloc (Below.refl w1.heap.size w1) (.cells #[.int .i64 10, .string (⟨#[97]⟩ : ByteArray), .string (⟨#[102]⟩ : ByteArray), .string (⟨#[110]⟩ : ByteArray), .string (⟨#[]⟩ : ByteArray), .int .i64 0, .int .i64 0, .slice none 0 0] 24)))
  have LC := Aside0.mk (Kd.R_reads' HR.out).2.1
  clear FF HR
  have FF := FN_
  clear FN_
  generalize w1.alloc (.cells #[.int .i64 10, .string (⟨#[97]⟩ : ByteArray), .string (⟨#[102]⟩ : ByteArray), .string (⟨#[110]⟩ : ByteArray), .string (⟨#[]⟩ : ByteArray), .int .i64 0, .int .i64 0, .slice none 0 0] 24) = w2 at FF KD HR2 ⊢
  generalize w1.heap.size = gd at KD ⊢
  have x0 := (blk_cell FF.out.bx 0).trans rfl
  have x1 := (blk_cell FF.out.bx 1).trans rfl
  have x2 := (blk_cell FF.out.bx 2).trans rfl
  have x3 := (blk_cell FF.out.bx 3).trans rfl
  have x4 := (blk_cell FF.out.bx 4).trans rfl
  have x5 := (blk_cell FF.out.bx 5).trans rfl
  have x6 := (blk_cell FF.out.bx 6).trans rfl
  have x7 := (blk_cell FF.out.bx 7).trans rfl
  go_wp2_with fail
  refine (call_May.calls k 10 (⟨#[97]⟩ : ByteArray) (⟨#[102]⟩ : ByteArray) (⟨#[]⟩ : ByteArray) (⟨#[]⟩ : ByteArray) 0 0 none 0 [] true _ FF.out.gt HM.out).mono ?_
  rintro e w3 ⟨rfl, hb⟩
  have FN_ := Aside0.mk (FF.out.step hb)
  have KN_ := Aside0.mk ((hb.block _ (blk_lt KD.out)).trans KD.out)
  have HN_ := Aside0.mk (Kd.C_below HR2.out hb)
  clear x0 x1 x2 x3 x4 x5 x6 x7
  clear hb FF KD HR2
  have FF := FN_
  have KD := KN_
  have HR2 := HN_
  clear FN_ KN_ HN_
  have x0 := (blk_cell KD.out 0).trans rfl
  have x1 := (blk_cell KD.out 1).trans rfl
  have x2 := (blk_cell KD.out 2).trans rfl
  have x3 := (blk_cell KD.out 3).trans rfl
  have x4 := (blk_cell KD.out 4).trans rfl
  have x5 := (blk_cell KD.out 5).trans rfl
  have x6 := (blk_cell KD.out 6).trans rfl
  have x7 := (blk_cell KD.out 7).trans rfl
  go_wp2_with fail
  refine (call_May.calls k 10 (⟨#[97]⟩ : ByteArray) (⟨#[102]⟩ : ByteArray) (⟨#[110]⟩ : ByteArray) (⟨#[]⟩ : ByteArray) 0 0 none 0 [] false _ FF.out.gt HD.out).mono ?_
  rintro e w4 ⟨rfl, hb⟩
  have FN_ := Aside0.mk (FF.out.step hb)
  have HN_ := Aside0.mk (Kd.C_below HR2.out hb)
  clear x0 x1 x2 x3 x4 x5 x6 x7
  clear hb FF KD HR2
  have FF := FN_
  have HR2 := HN_
  clear FN_ HN_
  have x0 := (blk_cell FF.out.bx 0).trans rfl
  have x1 := (blk_cell FF.out.bx 1).trans rfl
  have x2 := (blk_cell FF.out.bx 2).trans rfl
  have x3 := (blk_cell FF.out.bx 3).trans rfl
  have x4 := (blk_cell FF.out.bx 4).trans rfl
  have x5 := (blk_cell FF.out.bx 5).trans rfl
  have x6 := (blk_cell FF.out.bx 6).trans rfl
  have x7 := (blk_cell FF.out.bx 7).trans rfl
  go_wp2_with fail
  refine (bytes30_any k 10 (⟨#[97]⟩ : ByteArray) (⟨#[102]⟩ : ByteArray) (⟨#[]⟩ : ByteArray) (⟨#[]⟩ : ByteArray) 0 0 none 0 [] b2 _ (by decide) (by decide) (by decide) (by decide) (C_none _ _ none) (Nat.le_refl _) HB2.out).mono ?_
  rintro e w5 ⟨v9, rfl, hR9, hb⟩
  obtain ⟨A9, c9, rfl⟩ := Kd.R_slice hR9
  have HR9 := Aside0.mk hR9
  have FN_ := Aside0.mk (FF.out.step hb)
  have HN_ := Aside0.mk (Kd.C_below HR2.out hb)
  clear x0 x1 x2 x3 x4 x5 x6 x7
  clear hb FF HR2 hR9
  have FF := FN_
  have HR2 := HN_
  clear FN_ HN_
  go_wp2_with fail
  refine (bastilleref01_Same.calls k A c bs A9 c9 b2 true _ HR2.out LC.out (Kd.R_reads' HR9.out).2.2 (Kd.R_reads' HR9.out).2.1 HQ.out).mono ?_
  rintro e w6 ⟨rfl, hd⟩
  have FN_ := Aside0.mk (FF.out.step hd.below)
  clear FF hd
  go_wp2
  go_ret
  exact ⟨rfl, FN_.out.hb⟩
def bastillelaw30_awake.f (k : Nat) : Option Bool :=
  (call_May.f k 10 (⟨#[97]⟩ : ByteArray) (⟨#[102]⟩ : ByteArray) (⟨#[]⟩ : ByteArray) (⟨#[]⟩ : ByteArray) 0 0 []).bind fun m1 => if m1 = true then (call_May.f k 10 (⟨#[97]⟩ : ByteArray) (⟨#[102]⟩ : ByteArray) (⟨#[110]⟩ : ByteArray) (⟨#[]⟩ : ByteArray) 0 0 []).bind fun m2 => if m2 = false then
    (codec_Encode.f k 3 0 [] (row8 10 (⟨#[97]⟩ : ByteArray) (⟨#[102]⟩ : ByteArray) (⟨#[]⟩ : ByteArray) (⟨#[]⟩ : ByteArray) 0 0 [])).bind fun b => if b.2 = 0 then (bastilleref02_Bytes.f k 3 0 [] (row8 10 (⟨#[97]⟩ : ByteArray) (⟨#[102]⟩ : ByteArray) (⟨#[]⟩ : ByteArray) (⟨#[]⟩ : ByteArray) 0 0 [])).bind fun b2 => (bastilleref01_Same.f k b.1 b2).bind fun t => if t = true then some true else none else none else none else none
theorem bastillelaw30_awake.mono : ∀ k, LeO (bastillelaw30_awake.f k) (bastillelaw30_awake.f (k + 1)) := by
  intro k
  unfold bastillelaw30_awake.f
  exact LeO.bind (call_May.mono _ _ _ _ _ _ _ _ _) fun _ => LeO.ite (LeO.bind (call_May.mono _ _ _ _ _ _ _ _ _) fun _ => LeO.ite (LeO.bind (codec_Encode.mono _ _ _ _ _) fun _ => LeO.ite (LeO.bind (bastilleref02_Bytes.mono _ _ _ _ _) fun _ => LeO.bind (bastilleref01_Same.mono _ _ _) fun _ => LeO.refl _) (LeO.refl _)) (LeO.refl _)) (LeO.refl _)
theorem bastillelaw30_awake.calls (k : Nat) (r : Bool) (w : World) (hgt : GT w) (h : bastillelaw30_awake.f k = some r) : Calls Tryd.prog 6 #[] w fun e w' => e = .returned (.bool r) ∧ Below w.heap.size w w' := by
  unfold bastillelaw30_awake.f at h
  obtain ⟨m1, hm1, h1⟩ := Option.bind_eq_some_iff.1 h
  by_cases c1 : m1 = true
  · subst c1
    rw [if_pos rfl] at h1
    obtain ⟨m2, hm2, h2⟩ := Option.bind_eq_some_iff.1 h1
    by_cases c2 : m2 = false
    · subst c2
      rw [if_pos rfl] at h2
      obtain ⟨⟨bs, er⟩, he, h3⟩ := Option.bind_eq_some_iff.1 h2
      by_cases c3 : er = 0
      · subst c3
        rw [if_pos rfl] at h3
        obtain ⟨b2, hb2, h4⟩ := Option.bind_eq_some_iff.1 h3
        obtain ⟨t, ht, h5⟩ := Option.bind_eq_some_iff.1 h4
        by_cases c4 : t = true
        · subst c4
          rw [if_pos rfl] at h5
          cases h5
          exact awake30_walk k bs b2 hm1 hm2 he hb2 ht w hgt
        · rw [if_neg c4] at h5
          cases h5
      · rw [if_neg c3] at h3
        cases h3
    · rw [if_neg c2] at h2
      cases h2
  · rw [if_neg c1] at h1
    cases h1


end Go.Proofs.YtiibnfnjfmcggaaDoor.PCallSame
