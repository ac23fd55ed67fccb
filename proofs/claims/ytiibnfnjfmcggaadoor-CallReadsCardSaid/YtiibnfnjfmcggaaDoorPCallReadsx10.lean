-- Written by drive.py of this work: the kit's print.py with contracts of this work laid in.
import Derived.Test.YtiibnfnjfmcggaaDoorPCallReadsx0
import Derived.Test.YtiibnfnjfmcggaaDoorPCallReadsx2
import Derived.Test.YtiibnfnjfmcggaaDoorPCallReadsx8
import Derived.Test.YtiibnfnjfmcggaaDoorPCallReadsx11
namespace Go.Proofs.YtiibnfnjfmcggaaDoor.PCallReads
open Go.RowKit Go.Proofs.YtiibnfnjfmcggaaDoorW.PrintWords Go.Proofs.YtiibnfnjfmcggaaDoorW.PrintLast Go.Proofs.YtiibnfnjfmcggaaDoorW.PrintMore
attribute [local go_sem] max2_int min2_int max_two min_two max_three min_three max_four min_four   -- for this text's walks alone
set_option linter.unusedVariables false
set_option linter.unusedSimpArgs false

/-! ### call_Write: function 11 -/
--ALONE
theorem fsz (w : World) (o : Obj) : (w.alloc o).heap.size = w.heap.size + 1 := Array.size_push _
def VB (g : Nat) (w : World) (u0 u1 u2 u3 : Value) : Prop := w.heap[g]? = some (.cells #[u0, u1, u2, u3] 43 (0, 0))
theorem vb_below {g : Nat} {w w' : World} {u0 u1 u2 u3 : Value} (h : VB g w u0 u1 u2 u3) (hb : Below w.heap.size w w') : VB g w' u0 u1 u2 u3 := (hb.block _ (blk_lt h)).trans h
theorem vb_put4 {g : Nat} {w : World} {u0 u1 u2 u3 : Value} (h : VB g w u0 u1 u2 u3) (v0 v1 v2 v3 : Value) : VB g ((((w.setCell ⟨g, 0, none⟩ v0).setCell ⟨g, 1, none⟩ v1).setCell ⟨g, 2, none⟩ v2).setCell ⟨g, 3, none⟩ v3) v0 v1 v2 v3 :=
 blk_set (blk_set (blk_set (blk_set h 0 v0) 1 v1) 2 v2) 3 v3
theorem below_put4 {n g : Nat} {w0 w : World} (h : Below n w0 w) (hg : n ≤ g) (v0 v1 v2 v3 : Value) : Below n w0 ((((w.setCell ⟨g, 0, none⟩ v0).setCell ⟨g, 1, none⟩ v1).setCell ⟨g, 2, none⟩ v2).setCell ⟨g, 3, none⟩ v3) :=
 (((h.setCell hg _).setCell hg _).setCell hg _).setCell hg _
theorem far_put4 {k g : Nat} {w : World} {o : Obj} (h : w.heap[k]? = some o) (hne : k ≠ g) (v0 v1 v2 v3 : Value) : ((((w.setCell ⟨g, 0, none⟩ v0).setCell ⟨g, 1, none⟩ v1).setCell ⟨g, 2, none⟩ v2).setCell ⟨g, 3, none⟩ v3).heap[k]? = some o :=
 ((Below.heap_setCell _ _ _ k hne).trans ((Below.heap_setCell _ _ _ k hne).trans ((Below.heap_setCell _ _ _ k hne).trans (Below.heap_setCell _ _ _ k hne)))).trans h
theorem C_none {α : Type} (d : Kd α) (W : World) (A : Option Addr) : d.C W A ([] : List α).length [] := ⟨rfl, by simp, fun h => absurd h (Nat.lt_irrefl 0)⟩
theorem C_bytes {W : World} {g : Nat} {s : ByteArray} {cap t : Nat} {fr : Nat × Nat} (h : W.heap[g]? = some (.cells (bytesRow s cap) t fr)) (hs : s.size ≤ 9223372036854775807) : Kd.C (Kd.int .u8) W (some ⟨g, 0, none⟩) (bytesOf s).length (bytesOf s) :=
 ⟨rfl, by rw [bytesOf_length]; exact hs, fun _ => ⟨_, rfl, fun j p hj => ⟨[.int .u8 p], rfl, rfl, fun i u hi => by
  match i, hi with
  | 0, hi =>
   cases hi
   have s1 : (Kd.int IntKind.u8).sz = 1 := rfl
   have e : (Addr.add ⟨g, 0, none⟩ (j * (Kd.int IntKind.u8).sz + 0)) = (⟨g, j, none⟩ : Addr) := by
    rw [s1]
    simp only [Addr.add, Nat.mul_one, Nat.add_zero]
    split
    ·rename_i h0
     rw [h0]
    ·simp
   rw [e]
   have hl : j < s.size := by
    have := (List.getElem?_eq_some_iff.1 hj).1
    rwa [bytesOf_length] at this
   unfold World.cell?
   rw [h]
   show (bytesRow s cap)[j]? = _
   unfold bytesRow
   rw [Array.getElem?_append_left (by simpa using hl)]
   unfold bytesOf at hj
   rw [List.getElem?_map] at hj
   rw [Array.getElem?_map, ← Array.getElem?_toList]
   cases hq : s.data.toList[j]? with
   | none => rw [hq] at hj; cases hj
   | some b => rw [hq] at hj; cases hj; rfl
  | n + 1, hi => simp at hi⟩⟩⟩
theorem of_any (A : Option Addr) (n c : Nat) (w : World) : Calls Tryd.prog 20 #[.slice A n c] w fun e w' => e = .returned (.agg #[.int .i64 3, .int .i64 0, .slice none 0 0, .slice A n c]) ∧ Below w.heap.size w w' := by
 go_enter Tryd.func20, Tryd.ntmps20
 go_wp2
 refine bodyPost_ret (results_cell_row rfl _ _ w.heap.size 43 #[.int .i64 3, .int .i64 0, .slice none 0 0, .slice A n c] (0, 0) _ rfl (Array.getElem?_push_size) Tryd.underlying43 rfl (by kernel_rfl)) rfl ?_
 exact ⟨rfl, (Below.refl _ w).alloc (Nat.le_refl _) _⟩
theorem num_any (n : Int) (w : World) : Calls Tryd.prog 21 #[.int .i64 n] w fun e w' => e = .returned (.agg #[.int .i64 1, .int .i64 n, .slice none 0 0, .slice none 0 0]) ∧ Below w.heap.size w w' := by
 go_enter Tryd.func21, Tryd.ntmps21
 go_wp2
 refine bodyPost_ret (results_cell_row rfl _ _ w.heap.size 43 #[.int .i64 1, .int .i64 n, .slice none 0 0, .slice none 0 0] (0, 0) _ rfl (Array.getElem?_push_size) Tryd.underlying43 rfl (by kernel_rfl)) rfl ?_
 exact ⟨rfl, (Below.refl _ w).alloc (Nat.le_refl _) _⟩
theorem raw_any (A : Option Addr) (n c : Nat) (w : World) : Calls Tryd.prog 23 #[.slice A n c] w fun e w' => e = .returned (.agg #[.int .i64 2, .int .i64 0, .slice A n c, .slice none 0 0]) ∧ Below w.heap.size w w' := by
 go_enter Tryd.func23, Tryd.ntmps23
 go_wp2
 refine bodyPost_ret (results_cell_row rfl _ _ w.heap.size 43 #[.int .i64 2, .int .i64 0, .slice A n c, .slice none 0 0] (0, 0) _ rfl (Array.getElem?_push_size) Tryd.underlying43 rfl (by kernel_rfl)) rfl ?_
 exact ⟨rfl, (Below.refl _ w).alloc (Nat.le_refl _) _⟩
theorem of28 (A : Option Addr) (n c : Nat) (w : World) : Calls Tryd.prog 31 #[.slice A n c] w fun e w' => e = .returned (.agg #[.int .i64 3, .int .i64 0, .slice none 0 0, .slice A n c]) ∧ Below w.heap.size w w' := by
 go_enter Tryd.func31, Tryd.ntmps31
 go_wp2
 refine bodyPost_ret (results_cell_row rfl _ _ w.heap.size 43 #[.int .i64 3, .int .i64 0, .slice none 0 0, .slice A n c] (0, 0) _ rfl (Array.getElem?_push_size) Tryd.underlying43 rfl (by kernel_rfl)) rfl ?_
 exact ⟨rfl, (Below.refl _ w).alloc (Nat.le_refl _) _⟩
theorem num28 (n : Int) (w : World) : Calls Tryd.prog 32 #[.int .i64 n] w fun e w' => e = .returned (.agg #[.int .i64 1, .int .i64 n, .slice none 0 0, .slice none 0 0]) ∧ Below w.heap.size w w' := by
 go_enter Tryd.func32, Tryd.ntmps32
 go_wp2
 refine bodyPost_ret (results_cell_row rfl _ _ w.heap.size 43 #[.int .i64 1, .int .i64 n, .slice none 0 0, .slice none 0 0] (0, 0) _ rfl (Array.getElem?_push_size) Tryd.underlying43 rfl (by kernel_rfl)) rfl ?_
 exact ⟨rfl, (Below.refl _ w).alloc (Nat.le_refl _) _⟩
theorem raw28 (A : Option Addr) (n c : Nat) (w : World) : Calls Tryd.prog 33 #[.slice A n c] w fun e w' => e = .returned (.agg #[.int .i64 2, .int .i64 0, .slice A n c, .slice none 0 0]) ∧ Below w.heap.size w w' := by
 go_enter Tryd.func33, Tryd.ntmps33
 go_wp2
 refine bodyPost_ret (results_cell_row rfl _ _ w.heap.size 43 #[.int .i64 2, .int .i64 0, .slice A n c, .slice none 0 0] (0, 0) _ rfl (Array.getElem?_push_size) Tryd.underlying43 rfl (by kernel_rfl)) rfl ?_
 exact ⟨rfl, (Below.refl _ w).alloc (Nat.le_refl _) _⟩
theorem word_any (s : ByteArray) (hs : s.size ≤ 9223372036854775807) (w : World) : Calls Tryd.prog 22 #[.string s] w fun e w' => ∃ A c, e = .returned (.agg #[.int .i64 2, .int .i64 0, .slice A (bytesOf s).length c, .slice none 0 0]) ∧ (bytesOf s).length ≤ c ∧ Kd.C (Kd.int .u8) w' A (bytesOf s).length (bytesOf s) ∧ Below w.heap.size w w' := by
 have hcv2 := fun w s => run_bytes_of_string (P := Tryd.prog) w 9 22 5 s Tryd.underlying9 Tryd.underlying22 Tryd.underlying5
 go_enter Tryd.func22, Tryd.ntmps22
 go_wp2_with fail
 refine (raw_any _ _ _ _).mono ?_
 rintro e w2 ⟨rfl, hb⟩
 have HB1 : Below w.heap.size w w2 := by
  refine Below.trans ?_ (hb.mono (by simp only [fsz, World.drew]; omega))
  repeat (first | exact Below.refl _ _ | refine Below.alloc ?_ (by (try simp only [fsz, World.drew]); omega) _ | refine below_drew ?_)
 have K1 : VB w.heap.size w2 (.int .i64 0) (.int .i64 0) (.slice none 0 0) (.slice none 0 0) := (hb.block _ (by simp only [fsz, World.drew]; omega)).trans (blk_alloc (show (w.alloc _).heap[w.heap.size]? = some _ from Array.getElem?_push_size) _)
 obtain ⟨fr, K2⟩ : ∃ fr, w2.heap[w.heap.size + 1]? = some (.cells (bytesRow s (grownCap (w.alloc (.cells #[.int .i64 0, .int .i64 0, .slice none 0 0, .slice none 0 0] 43)) s.size 0 5)) 5 fr) := ⟨_, (hb.block (w.heap.size + 1) (by simp only [fsz, World.drew]; omega)).trans (by rw [← fsz w (.cells #[.int .i64 0, .int .i64 0, .slice none 0 0, .slice none 0 0] 43)]; exact Array.getElem?_push_size)⟩
 clear hb
 have hcap := grownCap_ge (w.alloc (.cells #[.int .i64 0, .int .i64 0, .slice none 0 0, .slice none 0 0] 43)) s.size 0 5
 have z0 := (blk_cell K1 0).trans rfl
 have z1 := (blk_cell K1 1).trans rfl
 have z2 := (blk_cell K1 2).trans rfl
 have z3 := (blk_cell K1 3).trans rfl
 have f0 := blk_frozen K1 0
 have f1 := blk_frozen K1 1
 have f2 := blk_frozen K1 2
 have f3 := blk_frozen K1 3
 go_wp2
 refine bodyPost_ret (results_cell_row rfl _ _ w.heap.size 43 #[.int .i64 2, .int .i64 0, .slice _ _ _, .slice none 0 0] (0, 0) _ rfl (vb_put4 K1 _ _ _ _) Tryd.underlying43 rfl (by kernel_rfl)) rfl ?_
 refine ⟨_, _, by rw [bytesOf_length], ?_, C_bytes (far_put4 K2 (Nat.succ_ne_self _) _ _ _ _) hs, below_put4 HB1 (Nat.le_refl _) _ _ _ _⟩
 rw [bytesOf_length]
 exact hcap
def row8 (k : Int) (u f n o : ByteArray) (ro ve : Int) (l7 : List Int) : List S43 := [⟨1, k, [], []⟩, ⟨2, 0, bytesOf u, []⟩, ⟨2, 0, bytesOf f, []⟩, ⟨2, 0, bytesOf n, []⟩, ⟨2, 0, bytesOf o, []⟩, ⟨1, ro, [], []⟩, ⟨1, ve, [], []⟩, ⟨2, 0, l7, []⟩]
theorem C_row8 {W : World} {g : Nat} {A1 A2 A3 A4 A7 : Option Addr} {c1 c2 c3 c4 c7 : Nat} {k : Int} {u f n o : ByteArray} {ro ve : Int} {l7 : List Int} (h : W.heap[g]? = some (.cells #[.int .i64 1, .int .i64 k, .slice none 0 0, .slice none 0 0, .int .i64 2, .int .i64 0, .slice A1 (bytesOf u).length c1, .slice none 0 0, .int .i64 2, .int .i64 0, .slice A2 (bytesOf f).length c2, .slice none 0 0, .int .i64 2, .int .i64 0, .slice A3 (bytesOf n).length c3, .slice none 0 0, .int .i64 2, .int .i64 0, .slice A4 (bytesOf o).length c4, .slice none 0 0, .int .i64 1, .int .i64 ro, .slice none 0 0, .slice none 0 0, .int .i64 1, .int .i64 ve, .slice none 0 0, .slice none 0 0, .int .i64 2, .int .i64 0, .slice A7 l7.length c7, .slice none 0 0] 43 (0, 0)))
 (h1 : Kd.C (Kd.int .u8) W A1 (bytesOf u).length (bytesOf u)) (s1 : (bytesOf u).length ≤ c1) (h2 : Kd.C (Kd.int .u8) W A2 (bytesOf f).length (bytesOf f)) (s2 : (bytesOf f).length ≤ c2) (h3 : Kd.C (Kd.int .u8) W A3 (bytesOf n).length (bytesOf n)) (s3 : (bytesOf n).length ≤ c3) (h4 : Kd.C (Kd.int .u8) W A4 (bytesOf o).length (bytesOf o)) (s4 : (bytesOf o).length ≤ c4) (h7 : Kd.C (Kd.int .u8) W A7 l7.length l7) (s7 : l7.length ≤ c7) : Kd.C k43 W (some ⟨g, 0, none⟩) 8 (row8 k u f n o ro ve l7) :=
 ⟨rfl, by decide, fun _ => ⟨_, rfl, fun j p hj => by
  match j, hj with
  | 0, hj =>
   cases hj
   refine ⟨[.int .i64 1, .int .i64 k, .slice none 0 0, .slice none 0 0], rfl, k43_mk W ⟨1, k, [], []⟩ (Nat.zero_le _) (C_none _ _ none) (Nat.zero_le _) (C_none _ _ none), fun i u hi => ?_⟩
   match i, hi with
   | 0, hi => cases hi; exact (blk_cell h 0).trans rfl
   | 1, hi => cases hi; exact (blk_cell h 1).trans rfl
   | 2, hi => cases hi; exact (blk_cell h 2).trans rfl
   | 3, hi => cases hi; exact (blk_cell h 3).trans rfl
   | n + 4, hi => simp at hi
  | 1, hj =>
   cases hj
   refine ⟨[.int .i64 2, .int .i64 0, .slice A1 (bytesOf u).length c1, .slice none 0 0], rfl, k43_mk W ⟨2, 0, bytesOf u, []⟩ s1 h1 (Nat.zero_le _) (C_none _ _ none), fun i u hi => ?_⟩
   match i, hi with
   | 0, hi => cases hi; exact (blk_cell h 4).trans rfl
   | 1, hi => cases hi; exact (blk_cell h 5).trans rfl
   | 2, hi => cases hi; exact (blk_cell h 6).trans rfl
   | 3, hi => cases hi; exact (blk_cell h 7).trans rfl
   | n + 4, hi => simp at hi
  | 2, hj =>
   cases hj
   refine ⟨[.int .i64 2, .int .i64 0, .slice A2 (bytesOf f).length c2, .slice none 0 0], rfl, k43_mk W ⟨2, 0, bytesOf f, []⟩ s2 h2 (Nat.zero_le _) (C_none _ _ none), fun i u hi => ?_⟩
   match i, hi with
   | 0, hi => cases hi; exact (blk_cell h 8).trans rfl
   | 1, hi => cases hi; exact (blk_cell h 9).trans rfl
   | 2, hi => cases hi; exact (blk_cell h 10).trans rfl
   | 3, hi => cases hi; exact (blk_cell h 11).trans rfl
   | n + 4, hi => simp at hi
  | 3, hj =>
   cases hj
   refine ⟨[.int .i64 2, .int .i64 0, .slice A3 (bytesOf n).length c3, .slice none 0 0], rfl, k43_mk W ⟨2, 0, bytesOf n, []⟩ s3 h3 (Nat.zero_le _) (C_none _ _ none), fun i u hi => ?_⟩
   match i, hi with
   | 0, hi => cases hi; exact (blk_cell h 12).trans rfl
   | 1, hi => cases hi; exact (blk_cell h 13).trans rfl
   | 2, hi => cases hi; exact (blk_cell h 14).trans rfl
   | 3, hi => cases hi; exact (blk_cell h 15).trans rfl
   | n + 4, hi => simp at hi
  | 4, hj =>
   cases hj
   refine ⟨[.int .i64 2, .int .i64 0, .slice A4 (bytesOf o).length c4, .slice none 0 0], rfl, k43_mk W ⟨2, 0, bytesOf o, []⟩ s4 h4 (Nat.zero_le _) (C_none _ _ none), fun i u hi => ?_⟩
   match i, hi with
   | 0, hi => cases hi; exact (blk_cell h 16).trans rfl
   | 1, hi => cases hi; exact (blk_cell h 17).trans rfl
   | 2, hi => cases hi; exact (blk_cell h 18).trans rfl
   | 3, hi => cases hi; exact (blk_cell h 19).trans rfl
   | n + 4, hi => simp at hi
  | 5, hj =>
   cases hj
   refine ⟨[.int .i64 1, .int .i64 ro, .slice none 0 0, .slice none 0 0], rfl, k43_mk W ⟨1, ro, [], []⟩ (Nat.zero_le _) (C_none _ _ none) (Nat.zero_le _) (C_none _ _ none), fun i u hi => ?_⟩
   match i, hi with
   | 0, hi => cases hi; exact (blk_cell h 20).trans rfl
   | 1, hi => cases hi; exact (blk_cell h 21).trans rfl
   | 2, hi => cases hi; exact (blk_cell h 22).trans rfl
   | 3, hi => cases hi; exact (blk_cell h 23).trans rfl
   | n + 4, hi => simp at hi
  | 6, hj =>
   cases hj
   refine ⟨[.int .i64 1, .int .i64 ve, .slice none 0 0, .slice none 0 0], rfl, k43_mk W ⟨1, ve, [], []⟩ (Nat.zero_le _) (C_none _ _ none) (Nat.zero_le _) (C_none _ _ none), fun i u hi => ?_⟩
   match i, hi with
   | 0, hi => cases hi; exact (blk_cell h 24).trans rfl
   | 1, hi => cases hi; exact (blk_cell h 25).trans rfl
   | 2, hi => cases hi; exact (blk_cell h 26).trans rfl
   | 3, hi => cases hi; exact (blk_cell h 27).trans rfl
   | n + 4, hi => simp at hi
  | 7, hj =>
   cases hj
   refine ⟨[.int .i64 2, .int .i64 0, .slice A7 l7.length c7, .slice none 0 0], rfl, k43_mk W ⟨2, 0, l7, []⟩ s7 h7 (Nat.zero_le _) (C_none _ _ none), fun i u hi => ?_⟩
   match i, hi with
   | 0, hi => cases hi; exact (blk_cell h 28).trans rfl
   | 1, hi => cases hi; exact (blk_cell h 29).trans rfl
   | 2, hi => cases hi; exact (blk_cell h 30).trans rfl
   | 3, hi => cases hi; exact (blk_cell h 31).trans rfl
   | n + 4, hi => simp at hi
  | n + 8, hj => simp [row8] at hj⟩⟩
theorem enc_lit (kk : Nat) (g : Nat) (xs : List S43) (h8 : xs.length = 8) (bs : List Int) (er : Int) (w : World) (hC : Kd.C k43 w (some ⟨g, 0, none⟩) 8 xs) (he : codec_Encode.f kk 3 0 [] xs = some (bs, er)) :
  Calls Tryd.prog 19 #[.agg #[.int .i64 3, .int .i64 0, .slice none 0 0, .slice (some ⟨g, 0, none⟩) 8 8]] w fun e w' => ∃ v0, e = .returned (.tuple #[v0, .int .i64 er]) ∧ Kd.R (Kd.int .u8) 5 w' w.heap.size (fun _ => True) v0 bs ∧ Below w.heap.size w w' := by
 have h := codec_Encode.calls kk 3 0 none 0 [] (some ⟨g, 0, none⟩) 8 xs bs er w (C_none _ _ none) (Nat.le_refl _) (by rw [h8]; exact hC) (by rw [h8]; exact Nat.le_refl _) he
 rw [h8] at h
 exact h
theorem bytes_lit (kk : Nat) (g : Nat) (xs : List S43) (h8 : xs.length = 8) (bs : List Int) (w : World) (hC : Kd.C k43 w (some ⟨g, 0, none⟩) 8 xs) (he : bastilleref02_Bytes.f kk 3 0 [] xs = some bs) :
  Calls Tryd.prog 30 #[.agg #[.int .i64 3, .int .i64 0, .slice none 0 0, .slice (some ⟨g, 0, none⟩) 8 8]] w fun e w' => ∃ v0, e = .returned v0 ∧ Kd.R (Kd.int .u8) 5 w' w.heap.size (fun _ => True) v0 bs ∧ Below w.heap.size w w' := by
 have h := bastilleref02_Bytes.calls kk 3 0 none 0 [] (some ⟨g, 0, none⟩) 8 xs bs w (C_none _ _ none) (Nat.le_refl _) (by rw [h8]; exact hC) (by rw [h8]; exact Nat.le_refl _) he
 rw [h8] at h
 exact h
theorem conv_any (s : ByteArray) (hs : s.size ≤ 9223372036854775807) (W : World) : ∃ w9 c, (convert 9 22 (.string s)).run Tryd.prog W = .ok (.slice (some ⟨W.heap.size, 0, none⟩) (bytesOf s).length c) w9 ∧ (bytesOf s).length ≤ c ∧ Kd.C (Kd.int .u8) w9 (some ⟨W.heap.size, 0, none⟩) (bytesOf s).length (bytesOf s) ∧ Below W.heap.size W w9 := by
 refine ⟨_, _, by rw [bytesOf_length]; exact run_bytes_of_string (P := Tryd.prog) W 9 22 5 s Tryd.underlying9 Tryd.underlying22 Tryd.underlying5, by rw [bytesOf_length]; exact grownCap_ge _ _ _ _, C_bytes (show (W.drew.alloc _).heap[W.heap.size]? = some _ from Array.getElem?_push_size) hs, ?_⟩
 exact Below.alloc (below_drew (Below.refl _ _)) (Nat.le_refl _) _
structure WS (w : World) (k : Int) (u f n o : ByteArray) (ro ve : Int) (A7 : Option Addr) (c7 : Nat) (l7 : List Int) (W : World) : Prop where
 hb : Below w.heap.size w W
 bx : W.heap[w.heap.size]? = some (.cells #[.int .i64 k, .string u, .string f, .string n, .string o, .int .i64 ro, .int .i64 ve, .slice A7 l7.length c7] 24 (0, 0))
 c7 : Kd.C (Kd.int .u8) W A7 l7.length l7
theorem WS.step {w : World} {k : Int} {u f n o : ByteArray} {ro ve : Int} {A7 : Option Addr} {c7 : Nat} {l7 : List Int} {W W' : World} (h : WS w k u f n o ro ve A7 c7 l7 W) (hb : Below W.heap.size W W') : WS w k u f n o ro ve A7 c7 l7 W' := ⟨h.hb.trans (hb.mono h.hb.size), (hb.block _ (blk_lt h.bx)).trans h.bx, Kd.C_below h.c7 hb⟩
def call_Write.T3 : Bool × List (List Nat × List Nat) := (true, [([], []), ([0], [0]), ([1], [1]), ([], []), ([3], [3]), ([4, 2], [4]), ([], []), ([6], [6]), ([7, 5], [7]), ([], []), ([9], [9]), ([10, 8], [10]), ([], []), ([12], [12]), ([13, 11], [13]), ([], []), ([15], [15]), ([16, 14], [16]), ([], []), ([18], [18]), ([19, 17], [19]), ([], []), ([21], [21]), ([22, 20], [22]), ([2, 5, 8, 11, 14, 17, 20, 23], [2, 5, 8, 11, 14, 17, 20, 23]), ([24, 23], [24]), ([25, 25], [25]), ([26], [26]), ([26], [26]), ([27, 26, 0, 1, 2, 3, 4, 5, 6, 7, 8, 9, 10, 11, 12, 13, 14, 15, 16, 17, 18, 19, 20, 21, 22, 23, 24, 25, 26, 27, 28], [27]), ([28, 29, 0, 1, 2, 3, 4, 5, 6, 7, 8, 9, 10, 11, 12, 13, 14, 15, 16, 17, 18, 19, 20, 21, 22, 23, 24, 25, 26, 27, 28, 29], [28])])
def call_Write.B3 : List Nat := [0, 1, 3, 0, 8, 31, 0, 64, 255, 0, 512, 2047, 0, 4096, 16383, 0, 32768, 131071, 0, 262144, 1048575, 0, 2097152, 8388607, 16777215, 33554431, 67108863, 134217727, 134217727, 536870911, 1073741823]
theorem call_Write.tab3 : rtab .any (opsOf Tryd.f11 3) = call_Write.T3 := by kernel_rfl
theorem call_Write.bits3 : waitsOk call_Write.T3.2 call_Write.B3 = true := by kernel_rfl
def ref30_Bytes.T1 : Bool × List (List Nat × List Nat) := (true, [([], []), ([0], [0]), ([1], [1]), ([], []), ([3], [3]), ([4], [4]), ([5, 2], [5]), ([], []), ([7], [7]), ([8], [8]), ([9, 6], [9]), ([], []), ([11], [11]), ([12], [12]), ([13, 10], [13]), ([], []), ([15], [15]), ([16], [16]), ([17, 14], [17]), ([], []), ([19], [19]), ([20, 18], [20]), ([], []), ([22], [22]), ([23, 21], [23]), ([], []), ([25], [25]), ([26, 24], [26]), ([2, 6, 10, 14, 18, 21, 24, 27], [2, 6, 10, 14, 18, 21, 24, 27]), ([28, 27], [28]), ([29, 29], [29]), ([30, 30, 0, 1, 2, 3, 4, 5, 6, 7, 8, 9, 10, 11, 12, 13, 14, 15, 16, 17, 18, 19, 20, 21, 22, 23, 24, 25, 26, 27, 28, 29, 30], [30])])
def ref30_Bytes.B1 : List Nat := [0, 1, 3, 0, 8, 24, 63, 0, 128, 384, 1023, 0, 2048, 6144, 16383, 0, 32768, 98304, 262143, 0, 524288, 2097151, 0, 4194304, 16777215, 0, 33554432, 134217727, 268435455, 536870911, 1073741823, 2147483647]
theorem ref30_Bytes.tab1 : rtab .any (opsOf Tryd.f16 1) = ref30_Bytes.T1 := by kernel_rfl
theorem ref30_Bytes.bits1 : waitsOk ref30_Bytes.T1.2 ref30_Bytes.B1 = true := by kernel_rfl
set_option maxHeartbeats 4000000 in
set_option maxRecDepth 100000 in
theorem write_any (kk : Nat) (k : Int) (u f n o : ByteArray) (ro ve : Int) (A7 : Option Addr) (c7 : Nat) (l7 : List Int) (bs : List Int) (er : Int) (w : World) (hu : u.size ≤ 9223372036854775807) (hf : f.size ≤ 9223372036854775807) (hn : n.size ≤ 9223372036854775807) (ho : o.size ≤ 9223372036854775807) (h7 : Kd.C (Kd.int .u8) w A7 l7.length l7) (l7c : l7.length ≤ c7)
  (hmay : ∀ W, Below w.heap.size w W → Calls Tryd.prog 13 #[.agg #[.int .i64 k, .string u, .string f, .string n, .string o, .int .i64 ro, .int .i64 ve, .slice A7 l7.length c7]] W fun e w' => e = .returned (.bool true) ∧ Below W.heap.size W w') (he : codec_Encode.f kk 3 0 [] (row8 k u f n o ro ve l7) = some (bs, er)) :
  Calls Tryd.prog 11 #[.agg #[.int .i64 k, .string u, .string f, .string n, .string o, .int .i64 ro, .int .i64 ve, .slice A7 l7.length c7]] w fun e w' => ∃ v0, e = .returned (.tuple #[v0, .int .i64 er]) ∧ Kd.R (Kd.int .u8) 5 w' w.heap.size (fun _ => True) v0 bs ∧ Below w.heap.size w w' := by
 have HU := Aside0.mk hu
 have HF := Aside0.mk hf
 have HN := Aside0.mk hn
 have HO := Aside0.mk ho
 have L7 := Aside0.mk l7c
 have HE := Aside0.mk he
 have FF0 := Aside0.mk (show WS w k u f n o ro ve A7 c7 l7 _ from ⟨(Below.refl _ w).alloc (Nat.le_refl _) (.cells #[.int .i64 k, .string u, .string f, .string n, .string o, .int .i64 ro, .int .i64 ve, .slice A7 l7.length c7] 24), Array.getElem?_push_size, Kd.C_below h7 (below_alloc (Below.refl _ _) _)⟩)
 clear hu hf hn ho l7c he h7
 go_enter Tryd.func11, Tryd.ntmps11
 go_wp2_with fail
 refine (hmay _ FF0.out.hb).mono ?_
 rintro e w1 ⟨rfl, hb⟩
 have FF := Aside0.mk ((FF0.out.step hb).step (below_drew (Below.refl _ _)))
 clear FF0 hb
 go_upto_region 3 with (fail)
 refine start_ (n := 31) (S := fun w' => w'.cell? ⟨w.heap.size, 0, none⟩ = some (.int .i64 k) ∧ w'.cell? ⟨w.heap.size, 1, none⟩ = some (.string u) ∧ w'.cell? ⟨w.heap.size, 2, none⟩ = some (.string f) ∧ w'.cell? ⟨w.heap.size, 3, none⟩ = some (.string n) ∧ w'.cell? ⟨w.heap.size, 4, none⟩ = some (.string o) ∧ w'.cell? ⟨w.heap.size, 5, none⟩ = some (.int .i64 ro) ∧ w'.cell? ⟨w.heap.size, 6, none⟩ = some (.int .i64 ve) ∧ w'.cell? ⟨w.heap.size, 7, none⟩ = some (.slice A7 l7.length c7)) (ds := []) #[false, false, false, false, false, false, false, false, false, false, false, false, false, false, false, false, false, false, false, false, false, false, false, false, false, false, false, false, false, false, false] (by kernel_rfl) rfl rfl ⟨(blk_cell FF.out.bx 0).trans rfl, (blk_cell FF.out.bx 1).trans rfl, (blk_cell FF.out.bx 2).trans rfl, (blk_cell FF.out.bx 3).trans rfl, (blk_cell FF.out.bx 4).trans rfl, (blk_cell FF.out.bx 5).trans rfl, (blk_cell FF.out.bx 6).trans rfl, (blk_cell FF.out.bx 7).trans rfl⟩ (fun hHeld => ?_)
 refine with_tabW call_Write.tab3 call_Write.bits3 (fun HT_ HW_ => ?_)
 generalize World.drew _ = wd at FF hHeld ⊢
 refine pure_ (i := 0) (N := some 7) (v := ?_) (a' := ?_) #[true, false, false, false, false, false, false, false, false, false, false, false, false, false, false, false, false, false, false, false, false, false, false, false, false, false, false, false, false, false, false] rfl rfl (any_of HT_.out (by kernel_rfl)) (fun _ _ _ h => h) (Or.inl ⟨by rfl, ?_⟩) ?_ ?_
 rotate_left
 ·intro w'
  go_simp
  with_reducible rfl
 rotate_left
 ·simp only [Act.put, List.setIfInBounds_toArray, List.set_cons_zero, List.set_cons_succ, i64_w, i32_w]
  rfl
 refine pure_ (i := 3) (N := some 10) (v := ?_) (a' := ?_) #[true, false, false, true, false, false, false, false, false, false, false, false, false, false, false, false, false, false, false, false, false, false, false, false, false, false, false, false, false, false, false] rfl rfl (any_of HT_.out (by kernel_rfl)) (fun _ _ _ h => h) (Or.inl ⟨by rfl, ?_⟩) ?_ ?_
 rotate_left
 ·intro w'
  go_simp
  with_reducible rfl
 rotate_left
 ·simp only [Act.put, List.setIfInBounds_toArray, List.set_cons_zero, List.set_cons_succ, i64_w, i32_w]
  rfl
 refine pure_ (i := 6) (N := some 13) (v := ?_) (a' := ?_) #[true, false, false, true, false, false, true, false, false, false, false, false, false, false, false, false, false, false, false, false, false, false, false, false, false, false, false, false, false, false, false] rfl rfl (any_of HT_.out (by kernel_rfl)) (fun _ _ _ h => h) (Or.inl ⟨by rfl, ?_⟩) ?_ ?_
 rotate_left
 ·intro w'
  go_simp
  with_reducible rfl
 rotate_left
 ·simp only [Act.put, List.setIfInBounds_toArray, List.set_cons_zero, List.set_cons_succ, i64_w, i32_w]
  rfl
 refine pure_ (i := 9) (N := some 16) (v := ?_) (a' := ?_) #[true, false, false, true, false, false, true, false, false, true, false, false, false, false, false, false, false, false, false, false, false, false, false, false, false, false, false, false, false, false, false] rfl rfl (any_of HT_.out (by kernel_rfl)) (fun _ _ _ h => h) (Or.inl ⟨by rfl, ?_⟩) ?_ ?_
 rotate_left
 ·intro w'
  go_simp
  with_reducible rfl
 rotate_left
 ·simp only [Act.put, List.setIfInBounds_toArray, List.set_cons_zero, List.set_cons_succ, i64_w, i32_w]
  rfl
 refine pure_ (i := 12) (N := some 19) (v := ?_) (a' := ?_) #[true, false, false, true, false, false, true, false, false, true, false, false, true, false, false, false, false, false, false, false, false, false, false, false, false, false, false, false, false, false, false] rfl rfl (any_of HT_.out (by kernel_rfl)) (fun _ _ _ h => h) (Or.inl ⟨by rfl, ?_⟩) ?_ ?_
 rotate_left
 ·intro w'
  go_simp
  with_reducible rfl
 rotate_left
 ·simp only [Act.put, List.setIfInBounds_toArray, List.set_cons_zero, List.set_cons_succ, i64_w, i32_w]
  rfl
 refine pure_ (i := 15) (N := some 22) (v := ?_) (a' := ?_) #[true, false, false, true, false, false, true, false, false, true, false, false, true, false, false, true, false, false, false, false, false, false, false, false, false, false, false, false, false, false, false] rfl rfl (any_of HT_.out (by kernel_rfl)) (fun _ _ _ h => h) (Or.inl ⟨by rfl, ?_⟩) ?_ ?_
 rotate_left
 ·intro w'
  go_simp
  with_reducible rfl
 rotate_left
 ·simp only [Act.put, List.setIfInBounds_toArray, List.set_cons_zero, List.set_cons_succ, i64_w, i32_w]
  rfl
 refine pure_ (i := 18) (N := some 25) (v := ?_) (a' := ?_) #[true, false, false, true, false, false, true, false, false, true, false, false, true, false, false, true, false, false, true, false, false, false, false, false, false, false, false, false, false, false, false] rfl rfl (any_of HT_.out (by kernel_rfl)) (fun _ _ _ h => h) (Or.inl ⟨by rfl, ?_⟩) ?_ ?_
 rotate_left
 ·intro w'
  go_simp
  with_reducible rfl
 rotate_left
 ·simp only [Act.put, List.setIfInBounds_toArray, List.set_cons_zero, List.set_cons_succ, i64_w, i32_w]
  rfl
 refine pure_ (i := 21) (N := some 28) (v := ?_) (a' := ?_) #[true, false, false, true, false, false, true, false, false, true, false, false, true, false, false, true, false, false, true, false, false, true, false, false, false, false, false, false, false, false, false] rfl rfl (any_of HT_.out (by kernel_rfl)) (fun _ _ _ h => h) (Or.inl ⟨by rfl, ?_⟩) ?_ ?_
 rotate_left
 ·intro w'
  go_simp
  with_reducible rfl
 rotate_left
 ·simp only [Act.put, List.setIfInBounds_toArray, List.set_cons_zero, List.set_cons_succ, i64_w, i32_w]
  rfl
 refine take_ (i := 1) (N := some 8) (v := ?_) (a' := ?_) #[true, true, false, true, false, false, true, false, false, true, false, false, true, false, false, true, false, false, true, false, false, true, false, false, false, false, false, false, false, false, false] rfl rfl (take_ofW HT_.out HW_.out (by kernel_rfl)) (fun _ _ _ h => h) (Or.inl ⟨by rfl, ?_⟩) hHeld ?_ ?_
 rotate_left
 ·rintro w' ⟨s0, s1, s2, s3, s4, s5, s6, s7⟩
  go_simp
  with_reducible rfl
 rotate_left
 ·simp only [Act.put, List.setIfInBounds_toArray, List.set_cons_zero, List.set_cons_succ, i64_w, i32_w]
  rfl
 refine take_ (i := 4) (N := some 11) (v := ?_) (a' := ?_) #[true, true, false, true, true, false, true, false, false, true, false, false, true, false, false, true, false, false, true, false, false, true, false, false, false, false, false, false, false, false, false] rfl rfl (take_ofW HT_.out HW_.out (by kernel_rfl)) (fun _ _ _ h => h) (Or.inl ⟨by rfl, ?_⟩) hHeld ?_ ?_
 rotate_left
 ·rintro w' ⟨s0, s1, s2, s3, s4, s5, s6, s7⟩
  go_simp
  with_reducible rfl
 rotate_left
 ·simp only [Act.put, List.setIfInBounds_toArray, List.set_cons_zero, List.set_cons_succ, i64_w, i32_w]
  rfl
 refine take_ (i := 7) (N := some 14) (v := ?_) (a' := ?_) #[true, true, false, true, true, false, true, true, false, true, false, false, true, false, false, true, false, false, true, false, false, true, false, false, false, false, false, false, false, false, false] rfl rfl (take_ofW HT_.out HW_.out (by kernel_rfl)) (fun _ _ _ h => h) (Or.inl ⟨by rfl, ?_⟩) hHeld ?_ ?_
 rotate_left
 ·rintro w' ⟨s0, s1, s2, s3, s4, s5, s6, s7⟩
  go_simp
  with_reducible rfl
 rotate_left
 ·simp only [Act.put, List.setIfInBounds_toArray, List.set_cons_zero, List.set_cons_succ, i64_w, i32_w]
  rfl
 refine take_ (i := 10) (N := some 17) (v := ?_) (a' := ?_) #[true, true, false, true, true, false, true, true, false, true, true, false, true, false, false, true, false, false, true, false, false, true, false, false, false, false, false, false, false, false, false] rfl rfl (take_ofW HT_.out HW_.out (by kernel_rfl)) (fun _ _ _ h => h) (Or.inl ⟨by rfl, ?_⟩) hHeld ?_ ?_
 rotate_left
 ·rintro w' ⟨s0, s1, s2, s3, s4, s5, s6, s7⟩
  go_simp
  with_reducible rfl
 rotate_left
 ·simp only [Act.put, List.setIfInBounds_toArray, List.set_cons_zero, List.set_cons_succ, i64_w, i32_w]
  rfl
 refine take_ (i := 13) (N := some 20) (v := ?_) (a' := ?_) #[true, true, false, true, true, false, true, true, false, true, true, false, true, true, false, true, false, false, true, false, false, true, false, false, false, false, false, false, false, false, false] rfl rfl (take_ofW HT_.out HW_.out (by kernel_rfl)) (fun _ _ _ h => h) (Or.inl ⟨by rfl, ?_⟩) hHeld ?_ ?_
 rotate_left
 ·rintro w' ⟨s0, s1, s2, s3, s4, s5, s6, s7⟩
  go_simp
  with_reducible rfl
 rotate_left
 ·simp only [Act.put, List.setIfInBounds_toArray, List.set_cons_zero, List.set_cons_succ, i64_w, i32_w]
  rfl
 refine take_ (i := 16) (N := some 23) (v := ?_) (a' := ?_) #[true, true, false, true, true, false, true, true, false, true, true, false, true, true, false, true, true, false, true, false, false, true, false, false, false, false, false, false, false, false, false] rfl rfl (take_ofW HT_.out HW_.out (by kernel_rfl)) (fun _ _ _ h => h) (Or.inl ⟨by rfl, ?_⟩) hHeld ?_ ?_
 rotate_left
 ·rintro w' ⟨s0, s1, s2, s3, s4, s5, s6, s7⟩
  go_simp
  with_reducible rfl
 rotate_left
 ·simp only [Act.put, List.setIfInBounds_toArray, List.set_cons_zero, List.set_cons_succ, i64_w, i32_w]
  rfl
 refine take_ (i := 19) (N := some 26) (v := ?_) (a' := ?_) #[true, true, false, true, true, false, true, true, false, true, true, false, true, true, false, true, true, false, true, true, false, true, false, false, false, false, false, false, false, false, false] rfl rfl (take_ofW HT_.out HW_.out (by kernel_rfl)) (fun _ _ _ h => h) (Or.inl ⟨by rfl, ?_⟩) hHeld ?_ ?_
 rotate_left
 ·rintro w' ⟨s0, s1, s2, s3, s4, s5, s6, s7⟩
  go_simp
  with_reducible rfl
 rotate_left
 ·simp only [Act.put, List.setIfInBounds_toArray, List.set_cons_zero, List.set_cons_succ, i64_w, i32_w]
  rfl
 refine take_ (i := 22) (N := some 29) (v := ?_) (a' := ?_) #[true, true, false, true, true, false, true, true, false, true, true, false, true, true, false, true, true, false, true, true, false, true, true, false, false, false, false, false, false, false, false] rfl rfl (take_ofW HT_.out HW_.out (by kernel_rfl)) (fun _ _ _ h => h) (Or.inl ⟨by rfl, ?_⟩) hHeld ?_ ?_
 rotate_left
 ·rintro w' ⟨s0, s1, s2, s3, s4, s5, s6, s7⟩
  go_simp
  with_reducible rfl
 rotate_left
 ·simp only [Act.put, List.setIfInBounds_toArray, List.set_cons_zero, List.set_cons_succ, i64_w, i32_w]
  rfl
 refine one_ (i := 2) (N := some 9) #[true, true, true, true, true, false, true, true, false, true, true, false, true, true, false, true, true, false, true, true, false, true, true, false, false, false, false, false, false, false, false] rfl rfl (one_of HT_.out (by kernel_rfl)) (by decide) (fun K hK => ?_)
 refine goes_ Tryd.func21 (by kernel_rfl) rfl #[.int .i64 k] (by rfl) rfl rfl (by simp only [List.map_toArray, List.map_cons, List.map_nil]; rfl) ?_
 with_reducible refine (num_any _ _).mono ?_
 rintro e wn ⟨rfl, hb⟩
 refine ⟨_, rfl, ?_⟩
 have FN_ := Aside0.mk (FF.out.step hb)
 clear FF hb
 have FF := FN_
 clear FN_
 refine hK.out _ _ ⟨(blk_cell FF.out.bx 0).trans rfl, (blk_cell FF.out.bx 1).trans rfl, (blk_cell FF.out.bx 2).trans rfl, (blk_cell FF.out.bx 3).trans rfl, (blk_cell FF.out.bx 4).trans rfl, (blk_cell FF.out.bx 5).trans rfl, (blk_cell FF.out.bx 6).trans rfl, (blk_cell FF.out.bx 7).trans rfl⟩ (fun hHeld => ?_)
 clear hK K
 refine norm_ (a' := ?_) ?_ ?_
 rotate_left
 ·show Act.put _ (some 9) _ = _
  simp only [Act.put, List.setIfInBounds_toArray, List.set_cons_zero, List.set_cons_succ, i64_w, i32_w]
  rfl
 refine one_ (i := 5) (N := some 12) #[true, true, true, true, true, true, true, true, false, true, true, false, true, true, false, true, true, false, true, true, false, true, true, false, false, false, false, false, false, false, false] rfl rfl (one_of HT_.out (by kernel_rfl)) (by decide) (fun K hK => ?_)
 refine goes_ Tryd.func22 (by kernel_rfl) rfl #[.string u] (by rfl) rfl rfl (by simp only [List.map_toArray, List.map_cons, List.map_nil]; rfl) ?_
 with_reducible refine (word_any u HU.out _).mono ?_
 rintro e wn ⟨A1, c1, rfl, hs, hc, hb⟩
 refine ⟨_, rfl, ?_⟩
 have C1 := Aside0.mk hc
 have S1 := Aside0.mk hs
 clear hc hs
 have FN_ := Aside0.mk (FF.out.step hb)
 clear FF hb
 have FF := FN_
 clear FN_
 refine hK.out _ _ ⟨(blk_cell FF.out.bx 0).trans rfl, (blk_cell FF.out.bx 1).trans rfl, (blk_cell FF.out.bx 2).trans rfl, (blk_cell FF.out.bx 3).trans rfl, (blk_cell FF.out.bx 4).trans rfl, (blk_cell FF.out.bx 5).trans rfl, (blk_cell FF.out.bx 6).trans rfl, (blk_cell FF.out.bx 7).trans rfl⟩ (fun hHeld => ?_)
 clear hK K
 refine norm_ (a' := ?_) ?_ ?_
 rotate_left
 ·show Act.put _ (some 12) _ = _
  simp only [Act.put, List.setIfInBounds_toArray, List.set_cons_zero, List.set_cons_succ, i64_w, i32_w]
  rfl
 refine one_ (i := 8) (N := some 15) #[true, true, true, true, true, true, true, true, true, true, true, false, true, true, false, true, true, false, true, true, false, true, true, false, false, false, false, false, false, false, false] rfl rfl (one_of HT_.out (by kernel_rfl)) (by decide) (fun K hK => ?_)
 refine goes_ Tryd.func22 (by kernel_rfl) rfl #[.string f] (by rfl) rfl rfl (by simp only [List.map_toArray, List.map_cons, List.map_nil]; rfl) ?_
 with_reducible refine (word_any f HF.out _).mono ?_
 rintro e wn ⟨A2, c2, rfl, hs, hc, hb⟩
 refine ⟨_, rfl, ?_⟩
 have T_ := Aside0.mk (Kd.C_below C1.out hb)
 clear C1
 have C1 := T_
 clear T_
 have C2 := Aside0.mk hc
 have S2 := Aside0.mk hs
 clear hc hs
 have FN_ := Aside0.mk (FF.out.step hb)
 clear FF hb
 have FF := FN_
 clear FN_
 refine hK.out _ _ ⟨(blk_cell FF.out.bx 0).trans rfl, (blk_cell FF.out.bx 1).trans rfl, (blk_cell FF.out.bx 2).trans rfl, (blk_cell FF.out.bx 3).trans rfl, (blk_cell FF.out.bx 4).trans rfl, (blk_cell FF.out.bx 5).trans rfl, (blk_cell FF.out.bx 6).trans rfl, (blk_cell FF.out.bx 7).trans rfl⟩ (fun hHeld => ?_)
 clear hK K
 refine norm_ (a' := ?_) ?_ ?_
 rotate_left
 ·show Act.put _ (some 15) _ = _
  simp only [Act.put, List.setIfInBounds_toArray, List.set_cons_zero, List.set_cons_succ, i64_w, i32_w]
  rfl
 refine one_ (i := 11) (N := some 18) #[true, true, true, true, true, true, true, true, true, true, true, true, true, true, false, true, true, false, true, true, false, true, true, false, false, false, false, false, false, false, false] rfl rfl (one_of HT_.out (by kernel_rfl)) (by decide) (fun K hK => ?_)
 refine goes_ Tryd.func22 (by kernel_rfl) rfl #[.string n] (by rfl) rfl rfl (by simp only [List.map_toArray, List.map_cons, List.map_nil]; rfl) ?_
 with_reducible refine (word_any n HN.out _).mono ?_
 rintro e wn ⟨A3, c3, rfl, hs, hc, hb⟩
 refine ⟨_, rfl, ?_⟩
 have T_ := Aside0.mk (Kd.C_below C1.out hb)
 clear C1
 have C1 := T_
 clear T_
 have T_ := Aside0.mk (Kd.C_below C2.out hb)
 clear C2
 have C2 := T_
 clear T_
 have C3 := Aside0.mk hc
 have S3 := Aside0.mk hs
 clear hc hs
 have FN_ := Aside0.mk (FF.out.step hb)
 clear FF hb
 have FF := FN_
 clear FN_
 refine hK.out _ _ ⟨(blk_cell FF.out.bx 0).trans rfl, (blk_cell FF.out.bx 1).trans rfl, (blk_cell FF.out.bx 2).trans rfl, (blk_cell FF.out.bx 3).trans rfl, (blk_cell FF.out.bx 4).trans rfl, (blk_cell FF.out.bx 5).trans rfl, (blk_cell FF.out.bx 6).trans rfl, (blk_cell FF.out.bx 7).trans rfl⟩ (fun hHeld => ?_)
 clear hK K
 refine norm_ (a' := ?_) ?_ ?_
 rotate_left
 ·show Act.put _ (some 18) _ = _
  simp only [Act.put, List.setIfInBounds_toArray, List.set_cons_zero, List.set_cons_succ, i64_w, i32_w]
  rfl
 refine one_ (i := 14) (N := some 21) #[true, true, true, true, true, true, true, true, true, true, true, true, true, true, true, true, true, false, true, true, false, true, true, false, false, false, false, false, false, false, false] rfl rfl (one_of HT_.out (by kernel_rfl)) (by decide) (fun K hK => ?_)
 refine goes_ Tryd.func22 (by kernel_rfl) rfl #[.string o] (by rfl) rfl rfl (by simp only [List.map_toArray, List.map_cons, List.map_nil]; rfl) ?_
 with_reducible refine (word_any o HO.out _).mono ?_
 rintro e wn ⟨A4, c4, rfl, hs, hc, hb⟩
 refine ⟨_, rfl, ?_⟩
 have T_ := Aside0.mk (Kd.C_below C1.out hb)
 clear C1
 have C1 := T_
 clear T_
 have T_ := Aside0.mk (Kd.C_below C2.out hb)
 clear C2
 have C2 := T_
 clear T_
 have T_ := Aside0.mk (Kd.C_below C3.out hb)
 clear C3
 have C3 := T_
 clear T_
 have C4 := Aside0.mk hc
 have S4 := Aside0.mk hs
 clear hc hs
 have FN_ := Aside0.mk (FF.out.step hb)
 clear FF hb
 have FF := FN_
 clear FN_
 refine hK.out _ _ ⟨(blk_cell FF.out.bx 0).trans rfl, (blk_cell FF.out.bx 1).trans rfl, (blk_cell FF.out.bx 2).trans rfl, (blk_cell FF.out.bx 3).trans rfl, (blk_cell FF.out.bx 4).trans rfl, (blk_cell FF.out.bx 5).trans rfl, (blk_cell FF.out.bx 6).trans rfl, (blk_cell FF.out.bx 7).trans rfl⟩ (fun hHeld => ?_)
 clear hK K
 refine norm_ (a' := ?_) ?_ ?_
 rotate_left
 ·show Act.put _ (some 21) _ = _
  simp only [Act.put, List.setIfInBounds_toArray, List.set_cons_zero, List.set_cons_succ, i64_w, i32_w]
  rfl
 refine one_ (i := 17) (N := some 24) #[true, true, true, true, true, true, true, true, true, true, true, true, true, true, true, true, true, true, true, true, false, true, true, false, false, false, false, false, false, false, false] rfl rfl (one_of HT_.out (by kernel_rfl)) (by decide) (fun K hK => ?_)
 refine goes_ Tryd.func21 (by kernel_rfl) rfl #[.int .i64 ro] (by rfl) rfl rfl (by simp only [List.map_toArray, List.map_cons, List.map_nil]; rfl) ?_
 with_reducible refine (num_any _ _).mono ?_
 rintro e wn ⟨rfl, hb⟩
 refine ⟨_, rfl, ?_⟩
 have T_ := Aside0.mk (Kd.C_below C1.out hb)
 clear C1
 have C1 := T_
 clear T_
 have T_ := Aside0.mk (Kd.C_below C2.out hb)
 clear C2
 have C2 := T_
 clear T_
 have T_ := Aside0.mk (Kd.C_below C3.out hb)
 clear C3
 have C3 := T_
 clear T_
 have T_ := Aside0.mk (Kd.C_below C4.out hb)
 clear C4
 have C4 := T_
 clear T_
 have FN_ := Aside0.mk (FF.out.step hb)
 clear FF hb
 have FF := FN_
 clear FN_
 refine hK.out _ _ ⟨(blk_cell FF.out.bx 0).trans rfl, (blk_cell FF.out.bx 1).trans rfl, (blk_cell FF.out.bx 2).trans rfl, (blk_cell FF.out.bx 3).trans rfl, (blk_cell FF.out.bx 4).trans rfl, (blk_cell FF.out.bx 5).trans rfl, (blk_cell FF.out.bx 6).trans rfl, (blk_cell FF.out.bx 7).trans rfl⟩ (fun hHeld => ?_)
 clear hK K
 refine norm_ (a' := ?_) ?_ ?_
 rotate_left
 ·show Act.put _ (some 24) _ = _
  simp only [Act.put, List.setIfInBounds_toArray, List.set_cons_zero, List.set_cons_succ, i64_w, i32_w]
  rfl
 refine one_ (i := 20) (N := some 27) #[true, true, true, true, true, true, true, true, true, true, true, true, true, true, true, true, true, true, true, true, true, true, true, false, false, false, false, false, false, false, false] rfl rfl (one_of HT_.out (by kernel_rfl)) (by decide) (fun K hK => ?_)
 refine goes_ Tryd.func21 (by kernel_rfl) rfl #[.int .i64 ve] (by rfl) rfl rfl (by simp only [List.map_toArray, List.map_cons, List.map_nil]; rfl) ?_
 with_reducible refine (num_any _ _).mono ?_
 rintro e wn ⟨rfl, hb⟩
 refine ⟨_, rfl, ?_⟩
 have T_ := Aside0.mk (Kd.C_below C1.out hb)
 clear C1
 have C1 := T_
 clear T_
 have T_ := Aside0.mk (Kd.C_below C2.out hb)
 clear C2
 have C2 := T_
 clear T_
 have T_ := Aside0.mk (Kd.C_below C3.out hb)
 clear C3
 have C3 := T_
 clear T_
 have T_ := Aside0.mk (Kd.C_below C4.out hb)
 clear C4
 have C4 := T_
 clear T_
 have FN_ := Aside0.mk (FF.out.step hb)
 clear FF hb
 have FF := FN_
 clear FN_
 refine hK.out _ _ ⟨(blk_cell FF.out.bx 0).trans rfl, (blk_cell FF.out.bx 1).trans rfl, (blk_cell FF.out.bx 2).trans rfl, (blk_cell FF.out.bx 3).trans rfl, (blk_cell FF.out.bx 4).trans rfl, (blk_cell FF.out.bx 5).trans rfl, (blk_cell FF.out.bx 6).trans rfl, (blk_cell FF.out.bx 7).trans rfl⟩ (fun hHeld => ?_)
 clear hK K
 refine norm_ (a' := ?_) ?_ ?_
 rotate_left
 ·show Act.put _ (some 27) _ = _
  simp only [Act.put, List.setIfInBounds_toArray, List.set_cons_zero, List.set_cons_succ, i64_w, i32_w]
  rfl
 refine one_ (i := 23) (N := some 30) #[true, true, true, true, true, true, true, true, true, true, true, true, true, true, true, true, true, true, true, true, true, true, true, true, false, false, false, false, false, false, false] rfl rfl (one_of HT_.out (by kernel_rfl)) (by decide) (fun K hK => ?_)
 refine goes_ Tryd.func23 (by kernel_rfl) rfl #[.slice A7 l7.length c7] (by rfl) rfl rfl (by simp only [List.map_toArray, List.map_cons, List.map_nil]; rfl) ?_
 with_reducible refine (raw_any _ _ _ _).mono ?_
 rintro e wn ⟨rfl, hb⟩
 refine ⟨_, rfl, ?_⟩
 have T_ := Aside0.mk (Kd.C_below C1.out hb)
 clear C1
 have C1 := T_
 clear T_
 have T_ := Aside0.mk (Kd.C_below C2.out hb)
 clear C2
 have C2 := T_
 clear T_
 have T_ := Aside0.mk (Kd.C_below C3.out hb)
 clear C3
 have C3 := T_
 clear T_
 have T_ := Aside0.mk (Kd.C_below C4.out hb)
 clear C4
 have C4 := T_
 clear T_
 have FN_ := Aside0.mk (FF.out.step hb)
 clear FF hb
 have FF := FN_
 clear FN_
 refine hK.out _ _ ⟨(blk_cell FF.out.bx 0).trans rfl, (blk_cell FF.out.bx 1).trans rfl, (blk_cell FF.out.bx 2).trans rfl, (blk_cell FF.out.bx 3).trans rfl, (blk_cell FF.out.bx 4).trans rfl, (blk_cell FF.out.bx 5).trans rfl, (blk_cell FF.out.bx 6).trans rfl, (blk_cell FF.out.bx 7).trans rfl⟩ (fun hHeld => ?_)
 clear hK K
 refine norm_ (a' := ?_) ?_ ?_
 rotate_left
 ·show Act.put _ (some 30) _ = _
  simp only [Act.put, List.setIfInBounds_toArray, List.set_cons_zero, List.set_cons_succ, i64_w, i32_w]
  rfl
 refine one_ (i := 24) (N := some 31) #[true, true, true, true, true, true, true, true, true, true, true, true, true, true, true, true, true, true, true, true, true, true, true, true, true, false, false, false, false, false, false] rfl rfl (one_of HT_.out (by kernel_rfl)) (by decide) (fun K hK => ?_)
 refine event_step (w1 := wn.alloc (.cells #[.int .i64 1, .int .i64 k, .slice none 0 0, .slice none 0 0, .int .i64 2, .int .i64 0, .slice A1 (bytesOf u).length c1, .slice none 0 0, .int .i64 2, .int .i64 0, .slice A2 (bytesOf f).length c2, .slice none 0 0, .int .i64 2, .int .i64 0, .slice A3 (bytesOf n).length c3, .slice none 0 0, .int .i64 2, .int .i64 0, .slice A4 (bytesOf o).length c4, .slice none 0 0, .int .i64 1, .int .i64 ro, .slice none 0 0, .slice none 0 0, .int .i64 1, .int .i64 ve, .slice none 0 0, .slice none 0 0, .int .i64 2, .int .i64 0, .slice A7 l7.length c7, .slice none 0 0] 43)) (v := .slice (some ⟨wn.heap.size, 0, none⟩) 8 8) (by rfl) ?_ ?_
 ·first | (go_simp; done) | (go_simp; rfl)
 have hb := below_alloc (Below.refl wn.heap.size wn) (.cells #[.int .i64 1, .int .i64 k, .slice none 0 0, .slice none 0 0, .int .i64 2, .int .i64 0, .slice A1 (bytesOf u).length c1, .slice none 0 0, .int .i64 2, .int .i64 0, .slice A2 (bytesOf f).length c2, .slice none 0 0, .int .i64 2, .int .i64 0, .slice A3 (bytesOf n).length c3, .slice none 0 0, .int .i64 2, .int .i64 0, .slice A4 (bytesOf o).length c4, .slice none 0 0, .int .i64 1, .int .i64 ro, .slice none 0 0, .slice none 0 0, .int .i64 1, .int .i64 ve, .slice none 0 0, .slice none 0 0, .int .i64 2, .int .i64 0, .slice A7 l7.length c7, .slice none 0 0] 43)
 have G8 := Aside0.mk (show (wn.alloc (.cells #[.int .i64 1, .int .i64 k, .slice none 0 0, .slice none 0 0, .int .i64 2, .int .i64 0, .slice A1 (bytesOf u).length c1, .slice none 0 0, .int .i64 2, .int .i64 0, .slice A2 (bytesOf f).length c2, .slice none 0 0, .int .i64 2, .int .i64 0, .slice A3 (bytesOf n).length c3, .slice none 0 0, .int .i64 2, .int .i64 0, .slice A4 (bytesOf o).length c4, .slice none 0 0, .int .i64 1, .int .i64 ro, .slice none 0 0, .slice none 0 0, .int .i64 1, .int .i64 ve, .slice none 0 0, .slice none 0 0, .int .i64 2, .int .i64 0, .slice A7 l7.length c7, .slice none 0 0] 43)).heap[wn.heap.size]? = some (.cells #[.int .i64 1, .int .i64 k, .slice none 0 0, .slice none 0 0, .int .i64 2, .int .i64 0, .slice A1 (bytesOf u).length c1, .slice none 0 0, .int .i64 2, .int .i64 0, .slice A2 (bytesOf f).length c2, .slice none 0 0, .int .i64 2, .int .i64 0, .slice A3 (bytesOf n).length c3, .slice none 0 0, .int .i64 2, .int .i64 0, .slice A4 (bytesOf o).length c4, .slice none 0 0, .int .i64 1, .int .i64 ro, .slice none 0 0, .slice none 0 0, .int .i64 1, .int .i64 ve, .slice none 0 0, .slice none 0 0, .int .i64 2, .int .i64 0, .slice A7 l7.length c7, .slice none 0 0] 43 (0, 0)) from blk_new wn _)
 have T_ := Aside0.mk (Kd.C_below C1.out hb)
 clear C1
 have C1 := T_
 clear T_
 have T_ := Aside0.mk (Kd.C_below C2.out hb)
 clear C2
 have C2 := T_
 clear T_
 have T_ := Aside0.mk (Kd.C_below C3.out hb)
 clear C3
 have C3 := T_
 clear T_
 have T_ := Aside0.mk (Kd.C_below C4.out hb)
 clear C4
 have C4 := T_
 clear T_
 have FN_ := Aside0.mk (FF.out.step hb)
 clear FF hb
 have FF := FN_
 clear FN_
 generalize wn.alloc (.cells #[.int .i64 1, .int .i64 k, .slice none 0 0, .slice none 0 0, .int .i64 2, .int .i64 0, .slice A1 (bytesOf u).length c1, .slice none 0 0, .int .i64 2, .int .i64 0, .slice A2 (bytesOf f).length c2, .slice none 0 0, .int .i64 2, .int .i64 0, .slice A3 (bytesOf n).length c3, .slice none 0 0, .int .i64 2, .int .i64 0, .slice A4 (bytesOf o).length c4, .slice none 0 0, .int .i64 1, .int .i64 ro, .slice none 0 0, .slice none 0 0, .int .i64 1, .int .i64 ve, .slice none 0 0, .slice none 0 0, .int .i64 2, .int .i64 0, .slice A7 l7.length c7, .slice none 0 0] 43) = wm at FF G8 C1 C2 C3 C4 ⊢
 generalize wn.heap.size = g8 at G8 ⊢
 refine hK.out _ _ ⟨(blk_cell FF.out.bx 0).trans rfl, (blk_cell FF.out.bx 1).trans rfl, (blk_cell FF.out.bx 2).trans rfl, (blk_cell FF.out.bx 3).trans rfl, (blk_cell FF.out.bx 4).trans rfl, (blk_cell FF.out.bx 5).trans rfl, (blk_cell FF.out.bx 6).trans rfl, (blk_cell FF.out.bx 7).trans rfl⟩ (fun hHeld => ?_)
 clear hK K
 refine norm_ (a' := ?_) ?_ ?_
 rotate_left
 ·show Act.put _ (some 31) _ = _
  simp only [Act.put, List.setIfInBounds_toArray, List.set_cons_zero, List.set_cons_succ, i64_w, i32_w]
  rfl
 refine one_ (i := 25) (N := some 32) #[true, true, true, true, true, true, true, true, true, true, true, true, true, true, true, true, true, true, true, true, true, true, true, true, true, true, false, false, false, false, false] rfl rfl (one_of HT_.out (by kernel_rfl)) (by decide) (fun K hK => ?_)
 refine goes_ Tryd.func20 (by kernel_rfl) rfl #[.slice (some ⟨g8, 0, none⟩) 8 8] (by rfl) rfl rfl (by simp only [List.map_toArray, List.map_cons, List.map_nil]; rfl) ?_
 with_reducible refine (of_any _ _ _ _).mono ?_
 rintro e wn ⟨rfl, hb⟩
 refine ⟨_, rfl, ?_⟩
 have T_ := Aside0.mk (Kd.C_below C1.out hb)
 clear C1
 have C1 := T_
 clear T_
 have T_ := Aside0.mk (Kd.C_below C2.out hb)
 clear C2
 have C2 := T_
 clear T_
 have T_ := Aside0.mk (Kd.C_below C3.out hb)
 clear C3
 have C3 := T_
 clear T_
 have T_ := Aside0.mk (Kd.C_below C4.out hb)
 clear C4
 have C4 := T_
 clear T_
 have G9 := Aside0.mk ((hb.block _ (blk_lt G8.out)).trans G8.out)
 clear G8
 have G8 := G9
 clear G9
 have FN_ := Aside0.mk (FF.out.step hb)
 clear FF hb
 have FF := FN_
 clear FN_
 refine hK.out _ _ ⟨(blk_cell FF.out.bx 0).trans rfl, (blk_cell FF.out.bx 1).trans rfl, (blk_cell FF.out.bx 2).trans rfl, (blk_cell FF.out.bx 3).trans rfl, (blk_cell FF.out.bx 4).trans rfl, (blk_cell FF.out.bx 5).trans rfl, (blk_cell FF.out.bx 6).trans rfl, (blk_cell FF.out.bx 7).trans rfl⟩ (fun hHeld => ?_)
 clear hK K
 refine norm_ (a' := ?_) ?_ ?_
 rotate_left
 ·show Act.put _ (some 32) _ = _
  simp only [Act.put, List.setIfInBounds_toArray, List.set_cons_zero, List.set_cons_succ, i64_w, i32_w]
  rfl
 refine one_ (i := 26) (N := some 33) #[true, true, true, true, true, true, true, true, true, true, true, true, true, true, true, true, true, true, true, true, true, true, true, true, true, true, true, false, false, false, false] rfl rfl (one_of HT_.out (by kernel_rfl)) (by decide) (fun K hK => ?_)
 refine goes_ Tryd.func19 (by kernel_rfl) rfl #[.agg #[.int .i64 3, .int .i64 0, .slice none 0 0, .slice (some ⟨g8, 0, none⟩) 8 8]] (by rfl) rfl rfl (by simp only [List.map_toArray, List.map_cons, List.map_nil]; rfl) ?_
 with_reducible refine (enc_lit kk g8 (row8 k u f n o ro ve l7) rfl bs er _ (C_row8 G8.out C1.out S1.out C2.out S2.out C3.out S3.out C4.out S4.out FF.out.c7 L7.out) HE.out).mono ?_
 rintro e wn ⟨v0, rfl, hr, hb⟩
 refine ⟨_, rfl, ?_⟩
 have HR := Aside0.mk (Kd.R_lower hr FF.out.hb.size)
 clear hr
 have FN_ := Aside0.mk (FF.out.step hb)
 clear FF hb
 have FF := FN_
 clear FN_
 refine hK.out _ _ ⟨(blk_cell FF.out.bx 0).trans rfl, (blk_cell FF.out.bx 1).trans rfl, (blk_cell FF.out.bx 2).trans rfl, (blk_cell FF.out.bx 3).trans rfl, (blk_cell FF.out.bx 4).trans rfl, (blk_cell FF.out.bx 5).trans rfl, (blk_cell FF.out.bx 6).trans rfl, (blk_cell FF.out.bx 7).trans rfl⟩ (fun hHeld => ?_)
 clear hK K
 refine norm_ (a' := ?_) ?_ ?_
 rotate_left
 ·show Act.put _ (some 33) _ = _
  simp only [Act.put, List.setIfInBounds_toArray, List.set_cons_zero, List.set_cons_succ, i64_w, i32_w]
  rfl
 refine pure_ (i := 27) (N := some 34) (v := ?_) (a' := ?_) #[true, true, true, true, true, true, true, true, true, true, true, true, true, true, true, true, true, true, true, true, true, true, true, true, true, true, true, true, false, false, false] rfl rfl (any_of HT_.out (by kernel_rfl)) (fun _ _ _ h => h) (Or.inl ⟨by rfl, ?_⟩) ?_ ?_
 rotate_left
 ·intro w'
  go_simp
  with_reducible rfl
 rotate_left
 ·simp only [Act.put, List.setIfInBounds_toArray, List.set_cons_zero, List.set_cons_succ, i64_w, i32_w]
  rfl
 refine pure_ (i := 28) (N := some 35) (v := ?_) (a' := ?_) #[true, true, true, true, true, true, true, true, true, true, true, true, true, true, true, true, true, true, true, true, true, true, true, true, true, true, true, true, true, false, false] rfl rfl (any_of HT_.out (by kernel_rfl)) (fun _ _ _ h => h) (Or.inl ⟨by rfl, ?_⟩) ?_ ?_
 rotate_left
 ·intro w'
  go_simp
  with_reducible rfl
 rotate_left
 ·simp only [Act.put, List.setIfInBounds_toArray, List.set_cons_zero, List.set_cons_succ, i64_w, i32_w]
  rfl
 refine pure_ (i := 29) (N := some 2) (v := ?_) (a' := ?_) #[true, true, true, true, true, true, true, true, true, true, true, true, true, true, true, true, true, true, true, true, true, true, true, true, true, true, true, true, true, true, false] rfl rfl (any_of HT_.out (by kernel_rfl)) (fun _ _ _ h => h) (Or.inl ⟨by rfl, ?_⟩) ?_ ?_
 rotate_left
 ·intro w'
  go_simp
  with_reducible rfl
 rotate_left
 ·simp only [Act.put, List.setIfInBounds_toArray, List.set_cons_zero, List.set_cons_succ, i64_w, i32_w]
  rfl
 refine pure_ (i := 30) (N := some 3) (v := ?_) (a' := ?_) #[true, true, true, true, true, true, true, true, true, true, true, true, true, true, true, true, true, true, true, true, true, true, true, true, true, true, true, true, true, true, true] rfl rfl (any_of HT_.out (by kernel_rfl)) (fun _ _ _ h => h) (Or.inl ⟨by rfl, ?_⟩) ?_ ?_
 rotate_left
 ·intro w'
  go_simp
  with_reducible rfl
 rotate_left
 ·simp only [Act.put, List.setIfInBounds_toArray, List.set_cons_zero, List.set_cons_succ, i64_w, i32_w]
  rfl
 refine done_ (done_of HT_.out (by kernel_rfl)) ?_
 go_wp2
 go_ret2
 exact ⟨v0, rfl, HR.out, FF.out.hb⟩
def szOk (u f n o : ByteArray) : Bool := decide (u.size ≤ 9223372036854775807) && decide (f.size ≤ 9223372036854775807) && decide (n.size ≤ 9223372036854775807) && decide (o.size ≤ 9223372036854775807)
theorem szOk_iff {u f n o : ByteArray} (h : szOk u f n o = true) : u.size ≤ 9223372036854775807 ∧ f.size ≤ 9223372036854775807 ∧ n.size ≤ 9223372036854775807 ∧ o.size ≤ 9223372036854775807 := by
 simp only [szOk, Bool.and_eq_true, decide_eq_true_eq] at h
 exact ⟨h.1.1.1, h.1.1.2, h.1.2, h.2⟩
def call_Write.f (kk : Nat) (k : Int) (u f n o : ByteArray) (ro ve : Int) (l7 : List Int) : Option (List Int × Int) :=
 if szOk u f n o = true then (call_May.f kk k u f n o ro ve l7).bind fun m => if m = true then codec_Encode.f kk 3 0 [] (row8 k u f n o ro ve l7) else some ([], 13) else none
theorem call_Write.mono : ∀ k u f n o ro ve l7 kk, LeO (call_Write.f kk k u f n o ro ve l7) (call_Write.f (kk + 1) k u f n o ro ve l7) := by
 intro k u f n o ro ve l7 kk
 unfold call_Write.f
 exact LeO.ite (LeO.bind (call_May.mono _ _ _ _ _ _ _ _ _) fun _ => LeO.ite (codec_Encode.mono _ _ _ _ _) (LeO.refl _)) (LeO.refl _)
set_option maxHeartbeats 4000000 in
set_option maxRecDepth 100000 in
theorem call_Write.calls (kk : Nat) (k : Int) (u f n o : ByteArray) (ro ve : Int) (A7 : Option Addr) (c7 : Nat) (l7 : List Int) (r1 : List Int) (r2 : Int) (w : World) (hr0_7 : Kd.C (Kd.int .u8) w A7 l7.length l7) (hc0_7 : l7.length ≤ c7) (hgt : GT w) (h : call_Write.f kk k u f n o ro ve l7 = some (r1, r2)) :
  Calls Tryd.prog 11 #[.agg #[.int .i64 k, .string u, .string f, .string n, .string o, .int .i64 ro, .int .i64 ve, .slice A7 l7.length c7]] w fun e w' => ∃ v0_ : Value, e = .returned (.tuple #[v0_, .int .i64 r2]) ∧ Kd.R (Kd.int .u8) 5 w' w.heap.size (fun _ => True) v0_ r1 ∧ Below w.heap.size w w' := by
 unfold call_Write.f at h
 by_cases hs : szOk u f n o = true
 ·rw [if_pos hs] at h
  obtain ⟨hu, hf, hn, ho⟩ := szOk_iff hs
  obtain ⟨m, hm, h1⟩ := Option.bind_eq_some_iff.1 h
  by_cases c1 : m = true
  ·subst c1
   rw [if_pos rfl] at h1
   exact write_any kk k u f n o ro ve A7 c7 l7 r1 r2 w hu hf hn ho hr0_7 hc0_7 (fun W hW => call_May.calls kk k u f n o ro ve A7 c7 l7 true W (Kd.C_below hr0_7 hW) hc0_7 (gt_below hgt hW) hm) h1
  ·rw [if_neg c1] at h1
   cases h1
   have c2 : m = false := by cases m <;> simp_all
   subst c2
   clear c1 hu hf hn ho hs h
   have FF0 := Aside0.mk (show WS w k u f n o ro ve A7 c7 l7 _ from ⟨(Below.refl _ w).alloc (Nat.le_refl _) (.cells #[.int .i64 k, .string u, .string f, .string n, .string o, .int .i64 ro, .int .i64 ve, .slice A7 l7.length c7] 24), Array.getElem?_push_size, Kd.C_below hr0_7 (below_alloc (Below.refl _ _) _)⟩)
   have HM := Aside0.mk hm
   have HG := Aside0.mk hgt
   have LC := Aside0.mk hc0_7
   clear hm hgt hr0_7 hc0_7
   go_enter Tryd.func11, Tryd.ntmps11
   go_wp2_with fail
   refine (call_May.calls kk k u f n o ro ve A7 c7 l7 false _ FF0.out.c7 LC.out (gt_below HG.out FF0.out.hb) HM.out).mono ?_
   rintro e w1 ⟨rfl, hb⟩
   have FF := Aside0.mk (FF0.out.step hb)
   clear FF0 hb
   go_wp2
   go_ret2
   exact ⟨_, rfl, Kd.R_nil _ _ _ _ _, FF.out.hb⟩
 ·rw [if_neg hs] at h
  cases h

end Go.Proofs.YtiibnfnjfmcggaaDoor.PCallReads
