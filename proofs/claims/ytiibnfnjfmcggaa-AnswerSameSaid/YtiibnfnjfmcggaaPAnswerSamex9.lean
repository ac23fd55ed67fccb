-- Written by drive.py of this work: the kit's print.py with contracts of this work laid in.
import Derived.Test.YtiibnfnjfmcggaaPAnswerSamex0
import Derived.Test.YtiibnfnjfmcggaaPAnswerSamex5
import Derived.Test.YtiibnfnjfmcggaaPAnswerSamex7
import Derived.Test.YtiibnfnjfmcggaaPAnswerSamex8
namespace Go.Proofs.Ytiibnfnjfmcggaa.PAnswerSame
open Go.RowKit Go.Proofs.YtiibnfnjfmcggaaW.PrintWords Go.Proofs.YtiibnfnjfmcggaaW.PrintLast Go.Proofs.YtiibnfnjfmcggaaW.PrintMore
attribute [local go_sem] max2_int min2_int max_two min_two max_three min_three max_four min_four   -- for this text's walks alone
set_option linter.unusedVariables false
set_option linter.unusedSimpArgs false

/-! ### bastillelaw31_awake: function 9 -/
--ALONE
theorem fsz (w : World) (o : Obj) : (w.alloc o).heap.size = w.heap.size + 1 := Array.size_push _
theorem of_any (A : Option Addr) (n c : Nat) (w : World) : Calls Try.prog 29 #[.slice A n c] w fun e w' => e = .returned (.agg #[.int .i64 3, .int .i64 0, .slice none 0 0, .slice A n c]) ∧ Below w.heap.size w w' := by
  go_enter Try.func29, Try.ntmps29
  go_wp2
  refine bodyPost_ret (results_cell_row rfl _ _ w.heap.size 43 #[.int .i64 3, .int .i64 0, .slice none 0 0, .slice A n c] (0, 0) _ rfl (Array.getElem?_push_size) Try.underlying43 rfl (by kernel_rfl)) rfl ?_
  exact ⟨rfl, (Below.refl _ w).alloc (Nat.le_refl _) _⟩
theorem num_any (n : Int) (w : World) : Calls Try.prog 30 #[.int .i64 n] w fun e w' => e = .returned (.agg #[.int .i64 1, .int .i64 n, .slice none 0 0, .slice none 0 0]) ∧ Below w.heap.size w w' := by
  go_enter Try.func30, Try.ntmps30
  go_wp2
  refine bodyPost_ret (results_cell_row rfl _ _ w.heap.size 43 #[.int .i64 1, .int .i64 n, .slice none 0 0, .slice none 0 0] (0, 0) _ rfl (Array.getElem?_push_size) Try.underlying43 rfl (by kernel_rfl)) rfl ?_
  exact ⟨rfl, (Below.refl _ w).alloc (Nat.le_refl _) _⟩
theorem raw_any (A : Option Addr) (n c : Nat) (w : World) : Calls Try.prog 31 #[.slice A n c] w fun e w' => e = .returned (.agg #[.int .i64 2, .int .i64 0, .slice A n c, .slice none 0 0]) ∧ Below w.heap.size w w' := by
  go_enter Try.func31, Try.ntmps31
  go_wp2
  refine bodyPost_ret (results_cell_row rfl _ _ w.heap.size 43 #[.int .i64 2, .int .i64 0, .slice A n c, .slice none 0 0] (0, 0) _ rfl (Array.getElem?_push_size) Try.underlying43 rfl (by kernel_rfl)) rfl ?_
  exact ⟨rfl, (Below.refl _ w).alloc (Nat.le_refl _) _⟩
theorem ixf_91 (fv : Value) (w : World) : Calls Try.prog 91 #[.slice none 0 0, fv] w fun e w' => e = .returned (.int .i64 (-1)) ∧ Below w.heap.size w w' := by
  go_enter Try.func91, Try.ntmps91
  go_wp2
  go_loopg [8] 0 (fun g v8 wr => v8 = .int .i64 0 ∧ wr = w)
  case atStart => exact ⟨rfl, rfl⟩
  case round =>
    obtain ⟨rfl, rfl⟩ := hrel
    go_wp2
    go_ret
    exact ⟨rfl, Below.refl _ _⟩
theorem ixf_92 (fv : Value) (w : World) : Calls Try.prog 92 #[.slice none 0 0, fv] w fun e w' => e = .returned (.int .i64 (-1)) ∧ Below w.heap.size w w' := by
  go_enter Try.func92, Try.ntmps92
  go_wp2
  go_loopg [8] 0 (fun g v8 wr => v8 = .int .i64 0 ∧ wr = w)
  case atStart => exact ⟨rfl, rfl⟩
  case round =>
    obtain ⟨rfl, rfl⟩ := hrel
    go_wp2
    go_ret
    exact ⟨rfl, Below.refl _ _⟩
theorem ixf_93 (fv : Value) (w : World) : Calls Try.prog 93 #[.slice none 0 0, fv] w fun e w' => e = .returned (.int .i64 (-1)) ∧ Below w.heap.size w w' := by
  go_enter Try.func93, Try.ntmps93
  go_wp2
  go_loopg [8] 0 (fun g v8 wr => v8 = .int .i64 0 ∧ wr = w)
  case atStart => exact ⟨rfl, rfl⟩
  case round =>
    obtain ⟨rfl, rfl⟩ := hrel
    go_wp2
    go_ret
    exact ⟨rfl, Below.refl _ _⟩
theorem ctn_74 (fv : Value) (w : World) : Calls Try.prog 74 #[.slice none 0 0, fv] w fun e w' => e = .returned (.bool false) ∧ Below w.heap.size w w' := by
  go_enter Try.func74, Try.ntmps74
  go_wp2_with fail
  refine (ixf_91 fv w).mono ?_
  rintro e w1 ⟨rfl, hb⟩
  go_wp2
  go_ret
  exact ⟨rfl, hb⟩
theorem ctn_76 (fv : Value) (w : World) : Calls Try.prog 76 #[.slice none 0 0, fv] w fun e w' => e = .returned (.bool false) ∧ Below w.heap.size w w' := by
  go_enter Try.func76, Try.ntmps76
  go_wp2_with fail
  refine (ixf_92 fv w).mono ?_
  rintro e w1 ⟨rfl, hb⟩
  go_wp2
  go_ret
  exact ⟨rfl, hb⟩
theorem ctn_78 (fv : Value) (w : World) : Calls Try.prog 78 #[.slice none 0 0, fv] w fun e w' => e = .returned (.bool false) ∧ Below w.heap.size w w' := by
  go_enter Try.func78, Try.ntmps78
  go_wp2_with fail
  refine (ixf_93 fv w).mono ?_
  rintro e w1 ⟨rfl, hb⟩
  go_wp2
  go_ret
  exact ⟨rfl, hb⟩
theorem all_39 (fv : Value) (hfv : fv.oneCell' = true) (w : World) : Calls Try.prog 39 #[.slice none 0 0, fv] w fun e w' => e = .returned (.bool true) ∧ Below w.heap.size w w' := by
  go_enter Try.func39, Try.ntmps39
  go_wp2_with fail
  refine (ctn_74 _ _).mono ?_
  rintro e w1 ⟨rfl, hb⟩
  go_wp2
  go_ret
  exact ⟨rfl, (below_alloc (Below.refl _ _) _).trans (hb.mono (by rw [fsz]; exact Nat.le_succ _))⟩
theorem all_40 (fv : Value) (hfv : fv.oneCell' = true) (w : World) : Calls Try.prog 40 #[.slice none 0 0, fv] w fun e w' => e = .returned (.bool true) ∧ Below w.heap.size w w' := by
  go_enter Try.func40, Try.ntmps40
  go_wp2_with fail
  refine (ctn_76 _ _).mono ?_
  rintro e w1 ⟨rfl, hb⟩
  go_wp2
  go_ret
  exact ⟨rfl, (below_alloc (Below.refl _ _) _).trans (hb.mono (by rw [fsz]; exact Nat.le_succ _))⟩
theorem all_42 (fv : Value) (hfv : fv.oneCell' = true) (w : World) : Calls Try.prog 42 #[.slice none 0 0, fv] w fun e w' => e = .returned (.bool true) ∧ Below w.heap.size w w' := by
  go_enter Try.func42, Try.ntmps42
  go_wp2_with fail
  refine (ctn_78 _ _).mono ?_
  rintro e w1 ⟨rfl, hb⟩
  go_wp2
  go_ret
  exact ⟨rfl, (below_alloc (Below.refl _ _) _).trans (hb.mono (by rw [fsz]; exact Nat.le_succ _))⟩
def VB (g : Nat) (w : World) (u0 u1 u2 u3 : Value) : Prop := w.heap[g]? = some (.cells #[u0, u1, u2, u3] 43 (0, 0))
theorem vb_below {g : Nat} {w w' : World} {u0 u1 u2 u3 : Value} (h : VB g w u0 u1 u2 u3) (hb : Below w.heap.size w w') : VB g w' u0 u1 u2 u3 := (hb.block _ (blk_lt h)).trans h
theorem vb_put4 {g : Nat} {w : World} {u0 u1 u2 u3 : Value} (h : VB g w u0 u1 u2 u3) (v0 v1 v2 v3 : Value) : VB g ((((w.setCell ⟨g, 0, none⟩ v0).setCell ⟨g, 1, none⟩ v1).setCell ⟨g, 2, none⟩ v2).setCell ⟨g, 3, none⟩ v3) v0 v1 v2 v3 :=
  blk_set (blk_set (blk_set (blk_set h 0 v0) 1 v1) 2 v2) 3 v3
theorem below_put4 {n g : Nat} {w0 w : World} (h : Below n w0 w) (hg : n ≤ g) (v0 v1 v2 v3 : Value) : Below n w0 ((((w.setCell ⟨g, 0, none⟩ v0).setCell ⟨g, 1, none⟩ v1).setCell ⟨g, 2, none⟩ v2).setCell ⟨g, 3, none⟩ v3) :=
  (((h.setCell hg _).setCell hg _).setCell hg _).setCell hg _
theorem word0 (w : World) : Calls Try.prog 68 #[.string ByteArray.empty] w fun e w' => ∃ A c, e = .returned (.agg #[.int .i64 2, .int .i64 0, .slice A 0 c, .slice none 0 0]) ∧ Below w.heap.size w w' := by
  have hcv2 := fun w s => run_bytes_of_string (P := Try.prog) w 9 23 5 s Try.underlying9 Try.underlying23 Try.underlying5
  go_enter Try.func68, Try.ntmps68
  go_wp2_with fail
  refine (raw_any _ _ _ _).mono ?_
  rintro e w2 ⟨rfl, hb⟩
  have HB1 : Below w.heap.size w w2 := by
    refine Below.trans ?_ (hb.mono (by simp only [fsz, World.drew]; omega))
    repeat (first | exact Below.refl _ _ | refine Below.alloc ?_ (by (try simp only [fsz, World.drew]); omega) _ | refine below_drew ?_)
  have K1 : VB w.heap.size w2 (.int .i64 0) (.int .i64 0) (.slice none 0 0) (.slice none 0 0) := (hb.block _ (by simp only [fsz, World.drew]; omega)).trans (blk_alloc (show (w.alloc _).heap[w.heap.size]? = some _ from Array.getElem?_push_size) _)
  clear hb
  have z0 := (blk_cell K1 0).trans rfl
  have z1 := (blk_cell K1 1).trans rfl
  have z2 := (blk_cell K1 2).trans rfl
  have z3 := (blk_cell K1 3).trans rfl
  have f0 := blk_frozen K1 0
  have f1 := blk_frozen K1 1
  have f2 := blk_frozen K1 2
  have f3 := blk_frozen K1 3
  go_wp2
  refine bodyPost_ret (results_cell_row rfl _ _ w.heap.size 43 #[.int .i64 2, .int .i64 0, .slice _ _ _, .slice none 0 0] (0, 0) _ rfl (vb_put4 K1 _ _ _ _) Try.underlying43 rfl (by kernel_rfl)) rfl ?_
  exact ⟨_, _, rfl, below_put4 HB1 (Nat.le_refl _) _ _ _ _⟩
theorem list_69 (fv : Value) (w : World) : Calls Try.prog 69 #[.slice none 0 0, fv] w fun e w' => e = .returned (.agg #[.int .i64 3, .int .i64 0, .slice none 0 0, .slice none 0 0]) ∧ Below w.heap.size w w' := by
  go_enter Try.func69, Try.ntmps69
  go_wp2_with fail
  refine (of_any _ _ _ _).mono ?_
  rintro e w2 ⟨rfl, hb⟩
  have HB1 : Below w.heap.size w w2 := (below_alloc (Below.refl _ _) _).trans (hb.mono (by rw [fsz]; exact Nat.le_succ _))
  have K1 : VB w.heap.size w2 (.int .i64 0) (.int .i64 0) (.slice none 0 0) (.slice none 0 0) := (hb.block _ (by rw [fsz]; exact Nat.lt_succ_self _)).trans (Array.getElem?_push_size)
  clear hb
  have z0 := (blk_cell K1 0).trans rfl
  have z1 := (blk_cell K1 1).trans rfl
  have z2 := (blk_cell K1 2).trans rfl
  have z3 := (blk_cell K1 3).trans rfl
  have f0 := blk_frozen K1 0
  have f1 := blk_frozen K1 1
  have f2 := blk_frozen K1 2
  have f3 := blk_frozen K1 3
  go_wp2
  go_loopg [11] 0 (fun g v11 wr => v11 = .int .i64 0 ∧ Aside0 (Below w.heap.size w wr) ∧ Aside0 (VB w.heap.size wr (.int .i64 0) (.int .i64 0) (.slice none 0 0) (.slice none 0 0)) ∧ Aside0 (VB w2.heap.size wr (.int .i64 3) (.int .i64 0) (.slice none 0 0) (.slice none 0 0)))
  case atStart =>
    exact ⟨rfl, ⟨HB1.alloc HB1.size _⟩, ⟨blk_alloc K1 _⟩, ⟨Array.getElem?_push_size⟩⟩
  case round =>
    obtain ⟨rfl, HB2, K2, K3⟩ := hrel
    clear z0 z1 z2 z3 f0 f1 f2 f3
    have z0 := (blk_cell K2.out 0).trans rfl
    have z1 := (blk_cell K2.out 1).trans rfl
    have z2 := (blk_cell K2.out 2).trans rfl
    have z3 := (blk_cell K2.out 3).trans rfl
    have f0 := blk_frozen K2.out 0
    have f1 := blk_frozen K2.out 1
    have f2 := blk_frozen K2.out 2
    have f3 := blk_frozen K2.out 3
    have y0 := (blk_cell K3.out 0).trans rfl
    have y1 := (blk_cell K3.out 1).trans rfl
    have y2 := (blk_cell K3.out 2).trans rfl
    have y3 := (blk_cell K3.out 3).trans rfl
    go_wp2
    refine bodyPost_ret (results_cell_row rfl _ _ w.heap.size 43 #[.int .i64 3, .int .i64 0, .slice none 0 0, .slice none 0 0] (0, 0) _ rfl (vb_put4 K2.out _ _ _ _) Try.underlying43 rfl (by kernel_rfl)) rfl ?_
    exact ⟨rfl, below_put4 HB2.out (Nat.le_refl _) _ _ _ _⟩
theorem list_70 (fv : Value) (w : World) : Calls Try.prog 70 #[.slice none 0 0, fv] w fun e w' => e = .returned (.agg #[.int .i64 3, .int .i64 0, .slice none 0 0, .slice none 0 0]) ∧ Below w.heap.size w w' := by
  go_enter Try.func70, Try.ntmps70
  go_wp2_with fail
  refine (of_any _ _ _ _).mono ?_
  rintro e w2 ⟨rfl, hb⟩
  have HB1 : Below w.heap.size w w2 := (below_alloc (Below.refl _ _) _).trans (hb.mono (by rw [fsz]; exact Nat.le_succ _))
  have K1 : VB w.heap.size w2 (.int .i64 0) (.int .i64 0) (.slice none 0 0) (.slice none 0 0) := (hb.block _ (by rw [fsz]; exact Nat.lt_succ_self _)).trans (Array.getElem?_push_size)
  clear hb
  have z0 := (blk_cell K1 0).trans rfl
  have z1 := (blk_cell K1 1).trans rfl
  have z2 := (blk_cell K1 2).trans rfl
  have z3 := (blk_cell K1 3).trans rfl
  have f0 := blk_frozen K1 0
  have f1 := blk_frozen K1 1
  have f2 := blk_frozen K1 2
  have f3 := blk_frozen K1 3
  go_wp2
  go_loopg [11] 0 (fun g v11 wr => v11 = .int .i64 0 ∧ Aside0 (Below w.heap.size w wr) ∧ Aside0 (VB w.heap.size wr (.int .i64 0) (.int .i64 0) (.slice none 0 0) (.slice none 0 0)) ∧ Aside0 (VB w2.heap.size wr (.int .i64 3) (.int .i64 0) (.slice none 0 0) (.slice none 0 0)))
  case atStart =>
    exact ⟨rfl, ⟨HB1.alloc HB1.size _⟩, ⟨blk_alloc K1 _⟩, ⟨Array.getElem?_push_size⟩⟩
  case round =>
    obtain ⟨rfl, HB2, K2, K3⟩ := hrel
    clear z0 z1 z2 z3 f0 f1 f2 f3
    have z0 := (blk_cell K2.out 0).trans rfl
    have z1 := (blk_cell K2.out 1).trans rfl
    have z2 := (blk_cell K2.out 2).trans rfl
    have z3 := (blk_cell K2.out 3).trans rfl
    have f0 := blk_frozen K2.out 0
    have f1 := blk_frozen K2.out 1
    have f2 := blk_frozen K2.out 2
    have f3 := blk_frozen K2.out 3
    have y0 := (blk_cell K3.out 0).trans rfl
    have y1 := (blk_cell K3.out 1).trans rfl
    have y2 := (blk_cell K3.out 2).trans rfl
    have y3 := (blk_cell K3.out 3).trans rfl
    go_wp2
    refine bodyPost_ret (results_cell_row rfl _ _ w.heap.size 43 #[.int .i64 3, .int .i64 0, .slice none 0 0, .slice none 0 0] (0, 0) _ rfl (vb_put4 K2.out _ _ _ _) Try.underlying43 rfl (by kernel_rfl)) rfl ?_
    exact ⟨rfl, below_put4 HB2.out (Nat.le_refl _) _ _ _ _⟩
theorem list_72 (fv : Value) (w : World) : Calls Try.prog 72 #[.slice none 0 0, fv] w fun e w' => e = .returned (.agg #[.int .i64 3, .int .i64 0, .slice none 0 0, .slice none 0 0]) ∧ Below w.heap.size w w' := by
  go_enter Try.func72, Try.ntmps72
  go_wp2_with fail
  refine (of_any _ _ _ _).mono ?_
  rintro e w2 ⟨rfl, hb⟩
  have HB1 : Below w.heap.size w w2 := (below_alloc (Below.refl _ _) _).trans (hb.mono (by rw [fsz]; exact Nat.le_succ _))
  have K1 : VB w.heap.size w2 (.int .i64 0) (.int .i64 0) (.slice none 0 0) (.slice none 0 0) := (hb.block _ (by rw [fsz]; exact Nat.lt_succ_self _)).trans (Array.getElem?_push_size)
  clear hb
  have z0 := (blk_cell K1 0).trans rfl
  have z1 := (blk_cell K1 1).trans rfl
  have z2 := (blk_cell K1 2).trans rfl
  have z3 := (blk_cell K1 3).trans rfl
  have f0 := blk_frozen K1 0
  have f1 := blk_frozen K1 1
  have f2 := blk_frozen K1 2
  have f3 := blk_frozen K1 3
  go_wp2
  go_loopg [11] 0 (fun g v11 wr => v11 = .int .i64 0 ∧ Aside0 (Below w.heap.size w wr) ∧ Aside0 (VB w.heap.size wr (.int .i64 0) (.int .i64 0) (.slice none 0 0) (.slice none 0 0)) ∧ Aside0 (VB w2.heap.size wr (.int .i64 3) (.int .i64 0) (.slice none 0 0) (.slice none 0 0)))
  case atStart =>
    exact ⟨rfl, ⟨HB1.alloc HB1.size _⟩, ⟨blk_alloc K1 _⟩, ⟨Array.getElem?_push_size⟩⟩
  case round =>
    obtain ⟨rfl, HB2, K2, K3⟩ := hrel
    clear z0 z1 z2 z3 f0 f1 f2 f3
    have z0 := (blk_cell K2.out 0).trans rfl
    have z1 := (blk_cell K2.out 1).trans rfl
    have z2 := (blk_cell K2.out 2).trans rfl
    have z3 := (blk_cell K2.out 3).trans rfl
    have f0 := blk_frozen K2.out 0
    have f1 := blk_frozen K2.out 1
    have f2 := blk_frozen K2.out 2
    have f3 := blk_frozen K2.out 3
    have y0 := (blk_cell K3.out 0).trans rfl
    have y1 := (blk_cell K3.out 1).trans rfl
    have y2 := (blk_cell K3.out 2).trans rfl
    have y3 := (blk_cell K3.out 3).trans rfl
    go_wp2
    refine bodyPost_ret (results_cell_row rfl _ _ w.heap.size 43 #[.int .i64 3, .int .i64 0, .slice none 0 0, .slice none 0 0] (0, 0) _ rfl (vb_put4 K2.out _ _ _ _) Try.underlying43 rfl (by kernel_rfl)) rfl ?_
    exact ⟨rfl, below_put4 HB2.out (Nat.le_refl _) _ _ _ _⟩
structure VS (w W : World) : Prop where
  hb : Below w.heap.size w W
  bx : W.heap[w.heap.size]? = some (.cells #[.int .i64 0, .int .i64 0, .string ByteArray.empty, .slice none 0 0, .slice none 0 0, .slice none 0 0, .slice none 0 0] 28 (0, 0))
  rs : VB (w.heap.size + 1) W (.int .i64 0) (.int .i64 0) (.slice none 0 0) (.slice none 0 0)
theorem VS.step {w W W' : World} (h : VS w W) (hb : Below W.heap.size W W') : VS w W' := ⟨h.hb.trans (hb.mono h.hb.size), (hb.block _ (blk_lt h.bx)).trans h.bx, vb_below h.rs hb⟩
def answer_value.T1 : Bool × List (List Nat × List Nat) := (true, [([], []), ([0], [0]), ([1], [1]), ([], []), ([3], [3]), ([4, 2], [4]), ([], []), ([6], [6]), ([7, 5], [7]), ([], []), ([9], [9]), ([10, 8], [10]), ([], []), ([12], [12]), ([13, 11], [13]), ([], []), ([15], [15]), ([16, 14], [16]), ([], []), ([18], [18]), ([19, 17], [19]), ([2, 5, 8, 11, 14, 17, 20], [2, 5, 8, 11, 14, 17, 20]), ([21, 20], [21]), ([22, 22, 0, 1, 2, 3, 4, 5, 6, 7, 8, 9, 10, 11, 12, 13, 14, 15, 16, 17, 18, 19, 20, 21, 22], [22])])
def answer_value.B1 : List Nat := [0, 1, 3, 0, 8, 31, 0, 64, 255, 0, 512, 2047, 0, 4096, 16383, 0, 32768, 131071, 0, 262144, 1048575, 2097151, 4194303, 8388607]
theorem answer_value.tab1 : rtab .any (opsOf Try.f35 1) = answer_value.T1 := by kernel_rfl
theorem answer_value.bits1 : waitsOk answer_value.T1.2 answer_value.B1 = true := by kernel_rfl
theorem far_put4 {k g : Nat} {w : World} {o : Obj} (h : w.heap[k]? = some o) (hne : k ≠ g) (v0 v1 v2 v3 : Value) : ((((w.setCell ⟨g, 0, none⟩ v0).setCell ⟨g, 1, none⟩ v1).setCell ⟨g, 2, none⟩ v2).setCell ⟨g, 3, none⟩ v3).heap[k]? = some o :=
  ((Below.heap_setCell _ _ _ k hne).trans ((Below.heap_setCell _ _ _ k hne).trans ((Below.heap_setCell _ _ _ k hne).trans (Below.heap_setCell _ _ _ k hne)))).trans h
set_option maxHeartbeats 4000000 in
set_option maxRecDepth 100000 in
theorem value_zero (w : World) : Calls Try.prog 35 #[.agg #[.int .i64 0, .int .i64 0, .string ByteArray.empty, .slice none 0 0, .slice none 0 0, .slice none 0 0, .slice none 0 0]] w fun e w' => ∃ A9 c9 g8, e = .returned (.agg #[.int .i64 3, .int .i64 0, .slice none 0 0, .slice (some ⟨g8, 0, none⟩) 7 7]) ∧ w'.heap[g8]? = some (.cells #[.int .i64 1, .int .i64 0, .slice none 0 0, .slice none 0 0, .int .i64 1, .int .i64 0, .slice none 0 0, .slice none 0 0, .int .i64 2, .int .i64 0, .slice A9 0 c9, .slice none 0 0, .int .i64 2, .int .i64 0, .slice none 0 0, .slice none 0 0, .int .i64 3, .int .i64 0, .slice none 0 0, .slice none 0 0, .int .i64 3, .int .i64 0, .slice none 0 0, .slice none 0 0, .int .i64 3, .int .i64 0, .slice none 0 0, .slice none 0 0] 43 (0, 0)) ∧ Below w.heap.size w w' := by
  have HBB : VS w ((w.alloc (.cells #[.int .i64 0, .int .i64 0, .string ByteArray.empty, .slice none 0 0, .slice none 0 0, .slice none 0 0, .slice none 0 0] 28)).alloc (.cells #[.int .i64 0, .int .i64 0, .slice none 0 0, .slice none 0 0] 43)) :=
    ⟨((Below.refl _ w).alloc (Nat.le_refl _) _).alloc (by rw [fsz]; exact Nat.le_succ _) _, blk_alloc (show (w.alloc _).heap[w.heap.size]? = some _ from Array.getElem?_push_size) _, by rw [← fsz w (.cells #[.int .i64 0, .int .i64 0, .string ByteArray.empty, .slice none 0 0, .slice none 0 0, .slice none 0 0, .slice none 0 0] 28)]; exact Array.getElem?_push_size⟩
  have FF := Aside0.mk (HBB.step (below_drew (Below.refl _ _)))
  clear HBB
  go_enter Try.func35, Try.ntmps35
  go_upto_region 1 with (fail)
  refine start_ (n := 24) (S := fun w' => w'.cell? ⟨w.heap.size, 0, none⟩ = some (.int .i64 0) ∧ w'.cell? ⟨w.heap.size, 1, none⟩ = some (.int .i64 0) ∧ w'.cell? ⟨w.heap.size, 2, none⟩ = some (.string ByteArray.empty) ∧ w'.cell? ⟨w.heap.size, 3, none⟩ = some (.slice none 0 0) ∧ w'.cell? ⟨w.heap.size, 4, none⟩ = some (.slice none 0 0) ∧ w'.cell? ⟨w.heap.size, 5, none⟩ = some (.slice none 0 0) ∧ w'.cell? ⟨w.heap.size, 6, none⟩ = some (.slice none 0 0)) (ds := []) #[false, false, false, false, false, false, false, false, false, false, false, false, false, false, false, false, false, false, false, false, false, false, false, false] (by kernel_rfl) rfl rfl ⟨(blk_cell FF.out.bx 0).trans rfl, (blk_cell FF.out.bx 1).trans rfl, (blk_cell FF.out.bx 2).trans rfl, (blk_cell FF.out.bx 3).trans rfl, (blk_cell FF.out.bx 4).trans rfl, (blk_cell FF.out.bx 5).trans rfl, (blk_cell FF.out.bx 6).trans rfl⟩ (fun hHeld => ?_)
  refine with_tabW answer_value.tab1 answer_value.bits1 (fun HT_ HW_ => ?_)
  generalize World.drew _ = wd at FF hHeld ⊢
  refine pure_ (i := 0) (N := some 3) (v := ?_) (a' := ?_) #[true, false, false, false, false, false, false, false, false, false, false, false, false, false, false, false, false, false, false, false, false, false, false, false] rfl rfl (any_of HT_.out (by kernel_rfl)) (fun _ _ _ h => h) (Or.inl ⟨by rfl, ?_⟩) ?_ ?_
  rotate_left
  · intro w'
    go_simp
    with_reducible rfl
  rotate_left
  · simp only [Act.put, List.setIfInBounds_toArray, List.set_cons_zero, List.set_cons_succ, i64_w, i32_w]
    rfl
  refine pure_ (i := 3) (N := some 6) (v := ?_) (a' := ?_) #[true, false, false, true, false, false, false, false, false, false, false, false, false, false, false, false, false, false, false, false, false, false, false, false] rfl rfl (any_of HT_.out (by kernel_rfl)) (fun _ _ _ h => h) (Or.inl ⟨by rfl, ?_⟩) ?_ ?_
  rotate_left
  · intro w'
    go_simp
    with_reducible rfl
  rotate_left
  · simp only [Act.put, List.setIfInBounds_toArray, List.set_cons_zero, List.set_cons_succ, i64_w, i32_w]
    rfl
  refine pure_ (i := 6) (N := some 9) (v := ?_) (a' := ?_) #[true, false, false, true, false, false, true, false, false, false, false, false, false, false, false, false, false, false, false, false, false, false, false, false] rfl rfl (any_of HT_.out (by kernel_rfl)) (fun _ _ _ h => h) (Or.inl ⟨by rfl, ?_⟩) ?_ ?_
  rotate_left
  · intro w'
    go_simp
    with_reducible rfl
  rotate_left
  · simp only [Act.put, List.setIfInBounds_toArray, List.set_cons_zero, List.set_cons_succ, i64_w, i32_w]
    rfl
  refine pure_ (i := 9) (N := some 12) (v := ?_) (a' := ?_) #[true, false, false, true, false, false, true, false, false, true, false, false, false, false, false, false, false, false, false, false, false, false, false, false] rfl rfl (any_of HT_.out (by kernel_rfl)) (fun _ _ _ h => h) (Or.inl ⟨by rfl, ?_⟩) ?_ ?_
  rotate_left
  · intro w'
    go_simp
    with_reducible rfl
  rotate_left
  · simp only [Act.put, List.setIfInBounds_toArray, List.set_cons_zero, List.set_cons_succ, i64_w, i32_w]
    rfl
  refine pure_ (i := 12) (N := some 15) (v := ?_) (a' := ?_) #[true, false, false, true, false, false, true, false, false, true, false, false, true, false, false, false, false, false, false, false, false, false, false, false] rfl rfl (any_of HT_.out (by kernel_rfl)) (fun _ _ _ h => h) (Or.inl ⟨by rfl, ?_⟩) ?_ ?_
  rotate_left
  · intro w'
    go_simp
    with_reducible rfl
  rotate_left
  · simp only [Act.put, List.setIfInBounds_toArray, List.set_cons_zero, List.set_cons_succ, i64_w, i32_w]
    rfl
  refine pure_ (i := 15) (N := some 18) (v := ?_) (a' := ?_) #[true, false, false, true, false, false, true, false, false, true, false, false, true, false, false, true, false, false, false, false, false, false, false, false] rfl rfl (any_of HT_.out (by kernel_rfl)) (fun _ _ _ h => h) (Or.inl ⟨by rfl, ?_⟩) ?_ ?_
  rotate_left
  · intro w'
    go_simp
    with_reducible rfl
  rotate_left
  · simp only [Act.put, List.setIfInBounds_toArray, List.set_cons_zero, List.set_cons_succ, i64_w, i32_w]
    rfl
  refine pure_ (i := 18) (N := some 21) (v := ?_) (a' := ?_) #[true, false, false, true, false, false, true, false, false, true, false, false, true, false, false, true, false, false, true, false, false, false, false, false] rfl rfl (any_of HT_.out (by kernel_rfl)) (fun _ _ _ h => h) (Or.inl ⟨by rfl, ?_⟩) ?_ ?_
  rotate_left
  · intro w'
    go_simp
    with_reducible rfl
  rotate_left
  · simp only [Act.put, List.setIfInBounds_toArray, List.set_cons_zero, List.set_cons_succ, i64_w, i32_w]
    rfl
  refine take_ (i := 1) (N := some 4) (v := ?_) (a' := ?_) #[true, true, false, true, false, false, true, false, false, true, false, false, true, false, false, true, false, false, true, false, false, false, false, false] rfl rfl (take_ofW HT_.out HW_.out (by kernel_rfl)) (fun _ _ _ h => h) (Or.inl ⟨by rfl, ?_⟩) hHeld ?_ ?_
  rotate_left
  · rintro w' ⟨s0, s1, s2, s3, s4, s5, s6⟩
    go_simp
    with_reducible rfl
  rotate_left
  · simp only [Act.put, List.setIfInBounds_toArray, List.set_cons_zero, List.set_cons_succ, i64_w, i32_w]
    rfl
  refine take_ (i := 4) (N := some 7) (v := ?_) (a' := ?_) #[true, true, false, true, true, false, true, false, false, true, false, false, true, false, false, true, false, false, true, false, false, false, false, false] rfl rfl (take_ofW HT_.out HW_.out (by kernel_rfl)) (fun _ _ _ h => h) (Or.inl ⟨by rfl, ?_⟩) hHeld ?_ ?_
  rotate_left
  · rintro w' ⟨s0, s1, s2, s3, s4, s5, s6⟩
    go_simp
    with_reducible rfl
  rotate_left
  · simp only [Act.put, List.setIfInBounds_toArray, List.set_cons_zero, List.set_cons_succ, i64_w, i32_w]
    rfl
  refine take_ (i := 7) (N := some 10) (v := ?_) (a' := ?_) #[true, true, false, true, true, false, true, true, false, true, false, false, true, false, false, true, false, false, true, false, false, false, false, false] rfl rfl (take_ofW HT_.out HW_.out (by kernel_rfl)) (fun _ _ _ h => h) (Or.inl ⟨by rfl, ?_⟩) hHeld ?_ ?_
  rotate_left
  · rintro w' ⟨s0, s1, s2, s3, s4, s5, s6⟩
    go_simp
    with_reducible rfl
  rotate_left
  · simp only [Act.put, List.setIfInBounds_toArray, List.set_cons_zero, List.set_cons_succ, i64_w, i32_w]
    rfl
  refine take_ (i := 10) (N := some 13) (v := ?_) (a' := ?_) #[true, true, false, true, true, false, true, true, false, true, true, false, true, false, false, true, false, false, true, false, false, false, false, false] rfl rfl (take_ofW HT_.out HW_.out (by kernel_rfl)) (fun _ _ _ h => h) (Or.inl ⟨by rfl, ?_⟩) hHeld ?_ ?_
  rotate_left
  · rintro w' ⟨s0, s1, s2, s3, s4, s5, s6⟩
    go_simp
    with_reducible rfl
  rotate_left
  · simp only [Act.put, List.setIfInBounds_toArray, List.set_cons_zero, List.set_cons_succ, i64_w, i32_w]
    rfl
  refine take_ (i := 13) (N := some 16) (v := ?_) (a' := ?_) #[true, true, false, true, true, false, true, true, false, true, true, false, true, true, false, true, false, false, true, false, false, false, false, false] rfl rfl (take_ofW HT_.out HW_.out (by kernel_rfl)) (fun _ _ _ h => h) (Or.inl ⟨by rfl, ?_⟩) hHeld ?_ ?_
  rotate_left
  · rintro w' ⟨s0, s1, s2, s3, s4, s5, s6⟩
    go_simp
    with_reducible rfl
  rotate_left
  · simp only [Act.put, List.setIfInBounds_toArray, List.set_cons_zero, List.set_cons_succ, i64_w, i32_w]
    rfl
  refine take_ (i := 16) (N := some 19) (v := ?_) (a' := ?_) #[true, true, false, true, true, false, true, true, false, true, true, false, true, true, false, true, true, false, true, false, false, false, false, false] rfl rfl (take_ofW HT_.out HW_.out (by kernel_rfl)) (fun _ _ _ h => h) (Or.inl ⟨by rfl, ?_⟩) hHeld ?_ ?_
  rotate_left
  · rintro w' ⟨s0, s1, s2, s3, s4, s5, s6⟩
    go_simp
    with_reducible rfl
  rotate_left
  · simp only [Act.put, List.setIfInBounds_toArray, List.set_cons_zero, List.set_cons_succ, i64_w, i32_w]
    rfl
  refine take_ (i := 19) (N := some 22) (v := ?_) (a' := ?_) #[true, true, false, true, true, false, true, true, false, true, true, false, true, true, false, true, true, false, true, true, false, false, false, false] rfl rfl (take_ofW HT_.out HW_.out (by kernel_rfl)) (fun _ _ _ h => h) (Or.inl ⟨by rfl, ?_⟩) hHeld ?_ ?_
  rotate_left
  · rintro w' ⟨s0, s1, s2, s3, s4, s5, s6⟩
    go_simp
    with_reducible rfl
  rotate_left
  · simp only [Act.put, List.setIfInBounds_toArray, List.set_cons_zero, List.set_cons_succ, i64_w, i32_w]
    rfl
  refine one_ (i := 2) (N := some 5) #[true, true, true, true, true, false, true, true, false, true, true, false, true, true, false, true, true, false, true, true, false, false, false, false] rfl rfl (one_of HT_.out (by kernel_rfl)) (by decide) (fun K hK => ?_)
  refine goes_ Try.func30 (by kernel_rfl) rfl #[.int .i64 0] (by rfl) rfl rfl (by simp only [List.map_toArray, List.map_cons, List.map_nil]; rfl) ?_
  with_reducible refine (num_any _ _).mono ?_
  rintro e wn ⟨rfl, hb⟩
  refine ⟨_, rfl, ?_⟩
  have FN_ := Aside0.mk (FF.out.step hb)
  clear FF hb
  have FF := FN_
  clear FN_
  refine hK.out _ _ ⟨(blk_cell FF.out.bx 0).trans rfl, (blk_cell FF.out.bx 1).trans rfl, (blk_cell FF.out.bx 2).trans rfl, (blk_cell FF.out.bx 3).trans rfl, (blk_cell FF.out.bx 4).trans rfl, (blk_cell FF.out.bx 5).trans rfl, (blk_cell FF.out.bx 6).trans rfl⟩ (fun hHeld => ?_)
  clear hK K
  refine norm_ (a' := ?_) ?_ ?_
  rotate_left
  · show Act.put _ (some 5) _ = _
    simp only [Act.put, List.setIfInBounds_toArray, List.set_cons_zero, List.set_cons_succ, i64_w, i32_w]
    rfl
  refine one_ (i := 5) (N := some 8) #[true, true, true, true, true, true, true, true, false, true, true, false, true, true, false, true, true, false, true, true, false, false, false, false] rfl rfl (one_of HT_.out (by kernel_rfl)) (by decide) (fun K hK => ?_)
  refine goes_ Try.func30 (by kernel_rfl) rfl #[.int .i64 0] (by rfl) rfl rfl (by simp only [List.map_toArray, List.map_cons, List.map_nil]; rfl) ?_
  with_reducible refine (num_any _ _).mono ?_
  rintro e wn ⟨rfl, hb⟩
  refine ⟨_, rfl, ?_⟩
  have FN_ := Aside0.mk (FF.out.step hb)
  clear FF hb
  have FF := FN_
  clear FN_
  refine hK.out _ _ ⟨(blk_cell FF.out.bx 0).trans rfl, (blk_cell FF.out.bx 1).trans rfl, (blk_cell FF.out.bx 2).trans rfl, (blk_cell FF.out.bx 3).trans rfl, (blk_cell FF.out.bx 4).trans rfl, (blk_cell FF.out.bx 5).trans rfl, (blk_cell FF.out.bx 6).trans rfl⟩ (fun hHeld => ?_)
  clear hK K
  refine norm_ (a' := ?_) ?_ ?_
  rotate_left
  · show Act.put _ (some 8) _ = _
    simp only [Act.put, List.setIfInBounds_toArray, List.set_cons_zero, List.set_cons_succ, i64_w, i32_w]
    rfl
  refine one_ (i := 8) (N := some 11) #[true, true, true, true, true, true, true, true, true, true, true, false, true, true, false, true, true, false, true, true, false, false, false, false] rfl rfl (one_of HT_.out (by kernel_rfl)) (by decide) (fun K hK => ?_)
  refine goes_ Try.func68 (by kernel_rfl) rfl #[.string ByteArray.empty] (by rfl) rfl rfl (by simp only [List.map_toArray, List.map_cons, List.map_nil]; rfl) ?_
  with_reducible refine (word0 _).mono ?_
  rintro e wn ⟨A9, c9, rfl, hb⟩
  refine ⟨_, rfl, ?_⟩
  have FN_ := Aside0.mk (FF.out.step hb)
  clear FF hb
  have FF := FN_
  clear FN_
  refine hK.out _ _ ⟨(blk_cell FF.out.bx 0).trans rfl, (blk_cell FF.out.bx 1).trans rfl, (blk_cell FF.out.bx 2).trans rfl, (blk_cell FF.out.bx 3).trans rfl, (blk_cell FF.out.bx 4).trans rfl, (blk_cell FF.out.bx 5).trans rfl, (blk_cell FF.out.bx 6).trans rfl⟩ (fun hHeld => ?_)
  clear hK K
  refine norm_ (a' := ?_) ?_ ?_
  rotate_left
  · show Act.put _ (some 11) _ = _
    simp only [Act.put, List.setIfInBounds_toArray, List.set_cons_zero, List.set_cons_succ, i64_w, i32_w]
    rfl
  refine one_ (i := 11) (N := some 14) #[true, true, true, true, true, true, true, true, true, true, true, true, true, true, false, true, true, false, true, true, false, false, false, false] rfl rfl (one_of HT_.out (by kernel_rfl)) (by decide) (fun K hK => ?_)
  refine goes_ Try.func31 (by kernel_rfl) rfl #[.slice none 0 0] (by rfl) rfl rfl (by simp only [List.map_toArray, List.map_cons, List.map_nil]; rfl) ?_
  with_reducible refine (raw_any _ _ _ _).mono ?_
  rintro e wn ⟨rfl, hb⟩
  refine ⟨_, rfl, ?_⟩
  have FN_ := Aside0.mk (FF.out.step hb)
  clear FF hb
  have FF := FN_
  clear FN_
  refine hK.out _ _ ⟨(blk_cell FF.out.bx 0).trans rfl, (blk_cell FF.out.bx 1).trans rfl, (blk_cell FF.out.bx 2).trans rfl, (blk_cell FF.out.bx 3).trans rfl, (blk_cell FF.out.bx 4).trans rfl, (blk_cell FF.out.bx 5).trans rfl, (blk_cell FF.out.bx 6).trans rfl⟩ (fun hHeld => ?_)
  clear hK K
  refine norm_ (a' := ?_) ?_ ?_
  rotate_left
  · show Act.put _ (some 14) _ = _
    simp only [Act.put, List.setIfInBounds_toArray, List.set_cons_zero, List.set_cons_succ, i64_w, i32_w]
    rfl
  refine one_ (i := 14) (N := some 17) #[true, true, true, true, true, true, true, true, true, true, true, true, true, true, true, true, true, false, true, true, false, false, false, false] rfl rfl (one_of HT_.out (by kernel_rfl)) (by decide) (fun K hK => ?_)
  refine goes_ Try.func69 (by kernel_rfl) rfl #[.slice none 0 0, .func (.func 68) #[] #[]] (by rfl) rfl rfl (by simp only [List.map_toArray, List.map_cons, List.map_nil]; rfl) ?_
  with_reducible refine (list_69 _ _).mono ?_
  rintro e wn ⟨rfl, hb⟩
  refine ⟨_, rfl, ?_⟩
  have FN_ := Aside0.mk (FF.out.step hb)
  clear FF hb
  have FF := FN_
  clear FN_
  refine hK.out _ _ ⟨(blk_cell FF.out.bx 0).trans rfl, (blk_cell FF.out.bx 1).trans rfl, (blk_cell FF.out.bx 2).trans rfl, (blk_cell FF.out.bx 3).trans rfl, (blk_cell FF.out.bx 4).trans rfl, (blk_cell FF.out.bx 5).trans rfl, (blk_cell FF.out.bx 6).trans rfl⟩ (fun hHeld => ?_)
  clear hK K
  refine norm_ (a' := ?_) ?_ ?_
  rotate_left
  · show Act.put _ (some 17) _ = _
    simp only [Act.put, List.setIfInBounds_toArray, List.set_cons_zero, List.set_cons_succ, i64_w, i32_w]
    rfl
  refine one_ (i := 17) (N := some 20) #[true, true, true, true, true, true, true, true, true, true, true, true, true, true, true, true, true, true, true, true, false, false, false, false] rfl rfl (one_of HT_.out (by kernel_rfl)) (by decide) (fun K hK => ?_)
  refine goes_ Try.func70 (by kernel_rfl) rfl #[.slice none 0 0, .func (.func 71) #[] #[]] (by rfl) rfl rfl (by simp only [List.map_toArray, List.map_cons, List.map_nil]; rfl) ?_
  with_reducible refine (list_70 _ _).mono ?_
  rintro e wn ⟨rfl, hb⟩
  refine ⟨_, rfl, ?_⟩
  have FN_ := Aside0.mk (FF.out.step hb)
  clear FF hb
  have FF := FN_
  clear FN_
  refine hK.out _ _ ⟨(blk_cell FF.out.bx 0).trans rfl, (blk_cell FF.out.bx 1).trans rfl, (blk_cell FF.out.bx 2).trans rfl, (blk_cell FF.out.bx 3).trans rfl, (blk_cell FF.out.bx 4).trans rfl, (blk_cell FF.out.bx 5).trans rfl, (blk_cell FF.out.bx 6).trans rfl⟩ (fun hHeld => ?_)
  clear hK K
  refine norm_ (a' := ?_) ?_ ?_
  rotate_left
  · show Act.put _ (some 20) _ = _
    simp only [Act.put, List.setIfInBounds_toArray, List.set_cons_zero, List.set_cons_succ, i64_w, i32_w]
    rfl
  refine one_ (i := 20) (N := some 23) #[true, true, true, true, true, true, true, true, true, true, true, true, true, true, true, true, true, true, true, true, true, false, false, false] rfl rfl (one_of HT_.out (by kernel_rfl)) (by decide) (fun K hK => ?_)
  refine goes_ Try.func72 (by kernel_rfl) rfl #[.slice none 0 0, .func (.func 73) #[] #[]] (by rfl) rfl rfl (by simp only [List.map_toArray, List.map_cons, List.map_nil]; rfl) ?_
  with_reducible refine (list_72 _ _).mono ?_
  rintro e wn ⟨rfl, hb⟩
  refine ⟨_, rfl, ?_⟩
  have FN_ := Aside0.mk (FF.out.step hb)
  clear FF hb
  have FF := FN_
  clear FN_
  refine hK.out _ _ ⟨(blk_cell FF.out.bx 0).trans rfl, (blk_cell FF.out.bx 1).trans rfl, (blk_cell FF.out.bx 2).trans rfl, (blk_cell FF.out.bx 3).trans rfl, (blk_cell FF.out.bx 4).trans rfl, (blk_cell FF.out.bx 5).trans rfl, (blk_cell FF.out.bx 6).trans rfl⟩ (fun hHeld => ?_)
  clear hK K
  refine norm_ (a' := ?_) ?_ ?_
  rotate_left
  · show Act.put _ (some 23) _ = _
    simp only [Act.put, List.setIfInBounds_toArray, List.set_cons_zero, List.set_cons_succ, i64_w, i32_w]
    rfl
  refine one_ (i := 21) (N := some 24) #[true, true, true, true, true, true, true, true, true, true, true, true, true, true, true, true, true, true, true, true, true, true, false, false] rfl rfl (one_of HT_.out (by kernel_rfl)) (by decide) (fun K hK => ?_)
  refine event_step (w1 := wn.alloc (.cells #[.int .i64 1, .int .i64 0, .slice none 0 0, .slice none 0 0, .int .i64 1, .int .i64 0, .slice none 0 0, .slice none 0 0, .int .i64 2, .int .i64 0, .slice A9 0 c9, .slice none 0 0, .int .i64 2, .int .i64 0, .slice none 0 0, .slice none 0 0, .int .i64 3, .int .i64 0, .slice none 0 0, .slice none 0 0, .int .i64 3, .int .i64 0, .slice none 0 0, .slice none 0 0, .int .i64 3, .int .i64 0, .slice none 0 0, .slice none 0 0] 43)) (v := .slice (some ⟨wn.heap.size, 0, none⟩) 7 7) (by rfl) ?_ ?_
  · first | (go_simp; done) | (go_simp; rfl)
  have hb := below_alloc (Below.refl wn.heap.size wn) (.cells #[.int .i64 1, .int .i64 0, .slice none 0 0, .slice none 0 0, .int .i64 1, .int .i64 0, .slice none 0 0, .slice none 0 0, .int .i64 2, .int .i64 0, .slice A9 0 c9, .slice none 0 0, .int .i64 2, .int .i64 0, .slice none 0 0, .slice none 0 0, .int .i64 3, .int .i64 0, .slice none 0 0, .slice none 0 0, .int .i64 3, .int .i64 0, .slice none 0 0, .slice none 0 0, .int .i64 3, .int .i64 0, .slice none 0 0, .slice none 0 0] 43)
  have L8 := Aside0.mk (blk_lt FF.out.rs)
  have G8 := Aside0.mk (show (wn.alloc (.cells #[.int .i64 1, .int .i64 0, .slice none 0 0, .slice none 0 0, .int .i64 1, .int .i64 0, .slice none 0 0, .slice none 0 0, .int .i64 2, .int .i64 0, .slice A9 0 c9, .slice none 0 0, .int .i64 2, .int .i64 0, .slice none 0 0, .slice none 0 0, .int .i64 3, .int .i64 0, .slice none 0 0, .slice none 0 0, .int .i64 3, .int .i64 0, .slice none 0 0, .slice none 0 0, .int .i64 3, .int .i64 0, .slice none 0 0, .slice none 0 0] 43)).heap[wn.heap.size]? = some (.cells #[.int .i64 1, .int .i64 0, .slice none 0 0, .slice none 0 0, .int .i64 1, .int .i64 0, .slice none 0 0, .slice none 0 0, .int .i64 2, .int .i64 0, .slice A9 0 c9, .slice none 0 0, .int .i64 2, .int .i64 0, .slice none 0 0, .slice none 0 0, .int .i64 3, .int .i64 0, .slice none 0 0, .slice none 0 0, .int .i64 3, .int .i64 0, .slice none 0 0, .slice none 0 0, .int .i64 3, .int .i64 0, .slice none 0 0, .slice none 0 0] 43 (0, 0)) from blk_new wn _)
  have FN_ := Aside0.mk (FF.out.step hb)
  clear FF hb
  have FF := FN_
  clear FN_
  generalize wn.alloc (.cells #[.int .i64 1, .int .i64 0, .slice none 0 0, .slice none 0 0, .int .i64 1, .int .i64 0, .slice none 0 0, .slice none 0 0, .int .i64 2, .int .i64 0, .slice A9 0 c9, .slice none 0 0, .int .i64 2, .int .i64 0, .slice none 0 0, .slice none 0 0, .int .i64 3, .int .i64 0, .slice none 0 0, .slice none 0 0, .int .i64 3, .int .i64 0, .slice none 0 0, .slice none 0 0, .int .i64 3, .int .i64 0, .slice none 0 0, .slice none 0 0] 43) = wm at FF G8 ⊢
  generalize wn.heap.size = g8 at G8 L8 ⊢
  refine hK.out _ _ ⟨(blk_cell FF.out.bx 0).trans rfl, (blk_cell FF.out.bx 1).trans rfl, (blk_cell FF.out.bx 2).trans rfl, (blk_cell FF.out.bx 3).trans rfl, (blk_cell FF.out.bx 4).trans rfl, (blk_cell FF.out.bx 5).trans rfl, (blk_cell FF.out.bx 6).trans rfl⟩ (fun hHeld => ?_)
  clear hK K
  refine norm_ (a' := ?_) ?_ ?_
  rotate_left
  · show Act.put _ (some 24) _ = _
    simp only [Act.put, List.setIfInBounds_toArray, List.set_cons_zero, List.set_cons_succ, i64_w, i32_w]
    rfl
  refine one_ (i := 22) (N := some 25) #[true, true, true, true, true, true, true, true, true, true, true, true, true, true, true, true, true, true, true, true, true, true, true, false] rfl rfl (one_of HT_.out (by kernel_rfl)) (by decide) (fun K hK => ?_)
  refine goes_ Try.func29 (by kernel_rfl) rfl #[.slice (some ⟨g8, 0, none⟩) 7 7] (by rfl) rfl rfl (by simp only [List.map_toArray, List.map_cons, List.map_nil]; rfl) ?_
  with_reducible refine (of_any _ _ _ _).mono ?_
  rintro e wn ⟨rfl, hb⟩
  refine ⟨_, rfl, ?_⟩
  have G9 := Aside0.mk ((hb.block _ (blk_lt G8.out)).trans G8.out)
  clear G8
  have G8 := G9
  clear G9
  have FN_ := Aside0.mk (FF.out.step hb)
  clear FF hb
  have FF := FN_
  clear FN_
  refine hK.out _ _ ⟨(blk_cell FF.out.bx 0).trans rfl, (blk_cell FF.out.bx 1).trans rfl, (blk_cell FF.out.bx 2).trans rfl, (blk_cell FF.out.bx 3).trans rfl, (blk_cell FF.out.bx 4).trans rfl, (blk_cell FF.out.bx 5).trans rfl, (blk_cell FF.out.bx 6).trans rfl⟩ (fun hHeld => ?_)
  clear hK K
  refine norm_ (a' := ?_) ?_ ?_
  rotate_left
  · show Act.put _ (some 25) _ = _
    simp only [Act.put, List.setIfInBounds_toArray, List.set_cons_zero, List.set_cons_succ, i64_w, i32_w]
    rfl
  refine one_ (i := 23) (N := none) #[true, true, true, true, true, true, true, true, true, true, true, true, true, true, true, true, true, true, true, true, true, true, true, true] rfl rfl (one_of HT_.out (by kernel_rfl)) (by decide) (fun K hK => ?_)
  have z0 := (blk_cell FF.out.rs 0).trans rfl
  have z1 := (blk_cell FF.out.rs 1).trans rfl
  have z2 := (blk_cell FF.out.rs 2).trans rfl
  have z3 := (blk_cell FF.out.rs 3).trans rfl
  have f0 := blk_frozen FF.out.rs 0
  have f1 := blk_frozen FF.out.rs 1
  have f2 := blk_frozen FF.out.rs 2
  have f3 := blk_frozen FF.out.rs 3
  refine skip_ (w1 := ((((wn.setCell ⟨w.heap.size + 1, 0, none⟩ (.int .i64 3)).setCell ⟨w.heap.size + 1, 1, none⟩ (.int .i64 0)).setCell ⟨w.heap.size + 1, 2, none⟩ (.slice none 0 0)).setCell ⟨w.heap.size + 1, 3, none⟩ (.slice (some ⟨g8, 0, none⟩) 7 7))) (by rfl) rfl ?_ ?_
  · first | (go_simp; done) | (go_simp; rfl)
  refine hK.out _ _ ⟨(far_put4 FF.out.bx (by omega) _ _ _ _ |> fun hx => (blk_cell hx 0).trans rfl), (far_put4 FF.out.bx (by omega) _ _ _ _ |> fun hx => (blk_cell hx 1).trans rfl), (far_put4 FF.out.bx (by omega) _ _ _ _ |> fun hx => (blk_cell hx 2).trans rfl), (far_put4 FF.out.bx (by omega) _ _ _ _ |> fun hx => (blk_cell hx 3).trans rfl), (far_put4 FF.out.bx (by omega) _ _ _ _ |> fun hx => (blk_cell hx 4).trans rfl), (far_put4 FF.out.bx (by omega) _ _ _ _ |> fun hx => (blk_cell hx 5).trans rfl), (far_put4 FF.out.bx (by omega) _ _ _ _ |> fun hx => (blk_cell hx 6).trans rfl)⟩ (fun hHeld => ?_)
  clear hK K
  refine done_ (done_of HT_.out (by kernel_rfl)) ?_
  go_wp2
  refine bodyPost_ret (results_cell_row rfl _ _ (w.heap.size + 1) 43 #[.int .i64 3, .int .i64 0, .slice none 0 0, .slice (some ⟨g8, 0, none⟩) 7 7] (0, 0) _ rfl (vb_put4 FF.out.rs _ _ _ _) Try.underlying43 rfl (by kernel_rfl)) rfl ?_
  exact ⟨A9, c9, g8, rfl, far_put4 G8.out (Nat.ne_of_gt L8.out) _ _ _ _, below_put4 FF.out.hb (Nat.le_succ _) _ _ _ _⟩
def zl : List S43 := [⟨1, 0, [], []⟩, ⟨1, 0, [], []⟩, ⟨2, 0, [], []⟩, ⟨2, 0, [], []⟩, ⟨3, 0, [], []⟩, ⟨3, 0, [], []⟩, ⟨3, 0, [], []⟩]
theorem C_none {α : Type} (d : Kd α) (W : World) (A : Option Addr) : d.C W A ([] : List α).length [] := ⟨rfl, by simp, fun h => absurd h (Nat.lt_irrefl 0)⟩
theorem C_zl {W : World} {g : Nat} {A9 : Option Addr} {c9 : Nat} (h : W.heap[g]? = some (.cells #[.int .i64 1, .int .i64 0, .slice none 0 0, .slice none 0 0, .int .i64 1, .int .i64 0, .slice none 0 0, .slice none 0 0, .int .i64 2, .int .i64 0, .slice A9 0 c9, .slice none 0 0, .int .i64 2, .int .i64 0, .slice none 0 0, .slice none 0 0, .int .i64 3, .int .i64 0, .slice none 0 0, .slice none 0 0, .int .i64 3, .int .i64 0, .slice none 0 0, .slice none 0 0, .int .i64 3, .int .i64 0, .slice none 0 0, .slice none 0 0] 43 (0, 0))) : Kd.C k43 W (some ⟨g, 0, none⟩) 7 zl :=
  ⟨rfl, by decide, fun _ => ⟨_, rfl, fun j p hj => by
    match j, hj with
    | 0, hj =>
      cases hj
      refine ⟨[.int .i64 1, .int .i64 0, .slice none 0 0, .slice none 0 0], rfl, k43_mk W ⟨1, 0, [], []⟩ (Nat.zero_le _) (C_none _ _ _) (Nat.zero_le _) (C_none _ _ _), fun i u hi => ?_⟩
      match i, hi with
      | 0, hi => cases hi; exact (blk_cell h 0).trans rfl
      | 1, hi => cases hi; exact (blk_cell h 1).trans rfl
      | 2, hi => cases hi; exact (blk_cell h 2).trans rfl
      | 3, hi => cases hi; exact (blk_cell h 3).trans rfl
      | n + 4, hi => simp at hi
    | 1, hj =>
      cases hj
      refine ⟨[.int .i64 1, .int .i64 0, .slice none 0 0, .slice none 0 0], rfl, k43_mk W ⟨1, 0, [], []⟩ (Nat.zero_le _) (C_none _ _ _) (Nat.zero_le _) (C_none _ _ _), fun i u hi => ?_⟩
      match i, hi with
      | 0, hi => cases hi; exact (blk_cell h 4).trans rfl
      | 1, hi => cases hi; exact (blk_cell h 5).trans rfl
      | 2, hi => cases hi; exact (blk_cell h 6).trans rfl
      | 3, hi => cases hi; exact (blk_cell h 7).trans rfl
      | n + 4, hi => simp at hi
    | 2, hj =>
      cases hj
      refine ⟨[.int .i64 2, .int .i64 0, .slice A9 0 c9, .slice none 0 0], rfl, k43_mk W ⟨2, 0, [], []⟩ (Nat.zero_le _) (C_none _ _ _) (Nat.zero_le _) (C_none _ _ _), fun i u hi => ?_⟩
      match i, hi with
      | 0, hi => cases hi; exact (blk_cell h 8).trans rfl
      | 1, hi => cases hi; exact (blk_cell h 9).trans rfl
      | 2, hi => cases hi; exact (blk_cell h 10).trans rfl
      | 3, hi => cases hi; exact (blk_cell h 11).trans rfl
      | n + 4, hi => simp at hi
    | 3, hj =>
      cases hj
      refine ⟨[.int .i64 2, .int .i64 0, .slice none 0 0, .slice none 0 0], rfl, k43_mk W ⟨2, 0, [], []⟩ (Nat.zero_le _) (C_none _ _ _) (Nat.zero_le _) (C_none _ _ _), fun i u hi => ?_⟩
      match i, hi with
      | 0, hi => cases hi; exact (blk_cell h 12).trans rfl
      | 1, hi => cases hi; exact (blk_cell h 13).trans rfl
      | 2, hi => cases hi; exact (blk_cell h 14).trans rfl
      | 3, hi => cases hi; exact (blk_cell h 15).trans rfl
      | n + 4, hi => simp at hi
    | 4, hj =>
      cases hj
      refine ⟨[.int .i64 3, .int .i64 0, .slice none 0 0, .slice none 0 0], rfl, k43_mk W ⟨3, 0, [], []⟩ (Nat.zero_le _) (C_none _ _ _) (Nat.zero_le _) (C_none _ _ _), fun i u hi => ?_⟩
      match i, hi with
      | 0, hi => cases hi; exact (blk_cell h 16).trans rfl
      | 1, hi => cases hi; exact (blk_cell h 17).trans rfl
      | 2, hi => cases hi; exact (blk_cell h 18).trans rfl
      | 3, hi => cases hi; exact (blk_cell h 19).trans rfl
      | n + 4, hi => simp at hi
    | 5, hj =>
      cases hj
      refine ⟨[.int .i64 3, .int .i64 0, .slice none 0 0, .slice none 0 0], rfl, k43_mk W ⟨3, 0, [], []⟩ (Nat.zero_le _) (C_none _ _ _) (Nat.zero_le _) (C_none _ _ _), fun i u hi => ?_⟩
      match i, hi with
      | 0, hi => cases hi; exact (blk_cell h 20).trans rfl
      | 1, hi => cases hi; exact (blk_cell h 21).trans rfl
      | 2, hi => cases hi; exact (blk_cell h 22).trans rfl
      | 3, hi => cases hi; exact (blk_cell h 23).trans rfl
      | n + 4, hi => simp at hi
    | 6, hj =>
      cases hj
      refine ⟨[.int .i64 3, .int .i64 0, .slice none 0 0, .slice none 0 0], rfl, k43_mk W ⟨3, 0, [], []⟩ (Nat.zero_le _) (C_none _ _ _) (Nat.zero_le _) (C_none _ _ _), fun i u hi => ?_⟩
      match i, hi with
      | 0, hi => cases hi; exact (blk_cell h 24).trans rfl
      | 1, hi => cases hi; exact (blk_cell h 25).trans rfl
      | 2, hi => cases hi; exact (blk_cell h 26).trans rfl
      | 3, hi => cases hi; exact (blk_cell h 27).trans rfl
      | n + 4, hi => simp at hi
    | n + 7, hj => simp [zl] at hj⟩⟩
set_option maxHeartbeats 4000000 in
set_option maxRecDepth 100000 in
theorem may_zero (k : Nat) (n : Int) (hs : codec_Size.f k 3 0 [] zl = some (n, true)) (w : World) : Calls Try.prog 13 #[.agg #[.int .i64 0, .int .i64 0, .string ByteArray.empty, .slice none 0 0, .slice none 0 0, .slice none 0 0, .slice none 0 0]] w fun e w' => e = .returned (.bool true) ∧ Below w.heap.size w w' := by
  have HB0 := Aside0.mk ((Below.refl _ w).alloc (Nat.le_refl _) (.cells #[.int .i64 0, .int .i64 0, .string ByteArray.empty, .slice none 0 0, .slice none 0 0, .slice none 0 0, .slice none 0 0] 28))
  have BX0 := Aside0.mk (show (w.alloc (.cells #[.int .i64 0, .int .i64 0, .string ByteArray.empty, .slice none 0 0, .slice none 0 0, .slice none 0 0, .slice none 0 0] 28)).heap[w.heap.size]? = some (.cells #[.int .i64 0, .int .i64 0, .string ByteArray.empty, .slice none 0 0, .slice none 0 0, .slice none 0 0, .slice none 0 0] 28 (0, 0)) from Array.getElem?_push_size)
  go_enter Try.func13, Try.ntmps13
  go_wp2_with fail
  refine (all_39 _ rfl _).mono ?_
  rintro e w1 ⟨rfl, hb⟩
  have HB1 := Aside0.mk (HB0.out.trans (hb.mono HB0.out.size))
  have BX1 := Aside0.mk (show _ = some (.cells #[.int .i64 0, .int .i64 0, .string ByteArray.empty, .slice none 0 0, .slice none 0 0, .slice none 0 0, .slice none 0 0] 28 (0, 0)) from (hb.block _ (blk_lt BX0.out)).trans BX0.out)
  clear hb HB0 BX0
  have x0 := (blk_cell BX1.out 0).trans rfl
  have x1 := (blk_cell BX1.out 1).trans rfl
  have x2 := (blk_cell BX1.out 2).trans rfl
  have x3 := (blk_cell BX1.out 3).trans rfl
  have x4 := (blk_cell BX1.out 4).trans rfl
  have x5 := (blk_cell BX1.out 5).trans rfl
  have x6 := (blk_cell BX1.out 6).trans rfl
  go_wp2_with fail
  refine (all_40 _ rfl _).mono ?_
  rintro e w2 ⟨rfl, hb⟩
  have HB2 := Aside0.mk (HB1.out.trans (hb.mono HB1.out.size))
  have BX2 := Aside0.mk (show _ = some (.cells #[.int .i64 0, .int .i64 0, .string ByteArray.empty, .slice none 0 0, .slice none 0 0, .slice none 0 0, .slice none 0 0] 28 (0, 0)) from (hb.block _ (blk_lt BX1.out)).trans BX1.out)
  clear x0 x1 x2 x3 x4 x5 x6
  clear hb HB1 BX1
  have x0 := (blk_cell BX2.out 0).trans rfl
  have x1 := (blk_cell BX2.out 1).trans rfl
  have x2 := (blk_cell BX2.out 2).trans rfl
  have x3 := (blk_cell BX2.out 3).trans rfl
  have x4 := (blk_cell BX2.out 4).trans rfl
  have x5 := (blk_cell BX2.out 5).trans rfl
  have x6 := (blk_cell BX2.out 6).trans rfl
  go_wp2_with fail
  refine (all_42 _ rfl _).mono ?_
  rintro e w3 ⟨rfl, hb⟩
  have HB3 := Aside0.mk (HB2.out.trans (hb.mono HB2.out.size))
  have BX3 := Aside0.mk (show _ = some (.cells #[.int .i64 0, .int .i64 0, .string ByteArray.empty, .slice none 0 0, .slice none 0 0, .slice none 0 0, .slice none 0 0] 28 (0, 0)) from (hb.block _ (blk_lt BX2.out)).trans BX2.out)
  clear x0 x1 x2 x3 x4 x5 x6
  clear hb HB2 BX2
  have x0 := (blk_cell BX3.out 0).trans rfl
  have x1 := (blk_cell BX3.out 1).trans rfl
  have x2 := (blk_cell BX3.out 2).trans rfl
  have x3 := (blk_cell BX3.out 3).trans rfl
  have x4 := (blk_cell BX3.out 4).trans rfl
  have x5 := (blk_cell BX3.out 5).trans rfl
  have x6 := (blk_cell BX3.out 6).trans rfl
  go_wp2_with fail
  refine (value_zero _).mono ?_
  rintro e w4 ⟨A9, c9, g8, rfl, hz, hb⟩
  have HZ := Aside0.mk hz
  clear hz
  have HB4 := Aside0.mk (HB3.out.trans (hb.mono HB3.out.size))
  have BX4 := Aside0.mk (show _ = some (.cells #[.int .i64 0, .int .i64 0, .string ByteArray.empty, .slice none 0 0, .slice none 0 0, .slice none 0 0, .slice none 0 0] 28 (0, 0)) from (hb.block _ (blk_lt BX3.out)).trans BX3.out)
  clear x0 x1 x2 x3 x4 x5 x6
  clear hb HB3 BX3
  have x0 := (blk_cell BX4.out 0).trans rfl
  have x1 := (blk_cell BX4.out 1).trans rfl
  have x2 := (blk_cell BX4.out 2).trans rfl
  have x3 := (blk_cell BX4.out 3).trans rfl
  have x4 := (blk_cell BX4.out 4).trans rfl
  have x5 := (blk_cell BX4.out 5).trans rfl
  have x6 := (blk_cell BX4.out 6).trans rfl
  go_wp2_with fail
  refine (codec_Size.calls k 3 0 none 0 [] (some ⟨g8, 0, none⟩) 7 zl n true _ (C_none _ _ _) (Nat.le_refl _) (C_zl HZ.out) (Nat.le_refl _) hs).mono ?_
  rintro e w5 ⟨rfl, hb⟩
  have HB5 := Aside0.mk (HB4.out.trans (hb.mono HB4.out.size))
  have BX5 := Aside0.mk (show _ = some (.cells #[.int .i64 0, .int .i64 0, .string ByteArray.empty, .slice none 0 0, .slice none 0 0, .slice none 0 0, .slice none 0 0] 28 (0, 0)) from (hb.block _ (blk_lt BX4.out)).trans BX4.out)
  clear x0 x1 x2 x3 x4 x5 x6
  clear hb HB4 BX4
  have x0 := (blk_cell BX5.out 0).trans rfl
  have x1 := (blk_cell BX5.out 1).trans rfl
  have x2 := (blk_cell BX5.out 2).trans rfl
  have x3 := (blk_cell BX5.out 3).trans rfl
  have x4 := (blk_cell BX5.out 4).trans rfl
  have x5 := (blk_cell BX5.out 5).trans rfl
  have x6 := (blk_cell BX5.out 6).trans rfl
  go_wp2
  go_ret
  exact ⟨rfl, HB5.out⟩
set_option maxHeartbeats 4000000 in
set_option maxRecDepth 100000 in
theorem write_zero (k : Nat) (n : Int) (bs : List Int) (hs : codec_Size.f k 3 0 [] zl = some (n, true)) (he : codec_Encode.f k 3 0 [] zl = some (bs, 0)) (w : World) : Calls Try.prog 11 #[.agg #[.int .i64 0, .int .i64 0, .string ByteArray.empty, .slice none 0 0, .slice none 0 0, .slice none 0 0, .slice none 0 0]] w fun e w' => ∃ v0, e = .returned (.tuple #[v0, .int .i64 0]) ∧ Kd.R (Kd.int .u8) 5 w' w.heap.size (fun _ => True) v0 bs ∧ Below w.heap.size w w' := by
  have HB0 := Aside0.mk ((Below.refl _ w).alloc (Nat.le_refl _) (.cells #[.int .i64 0, .int .i64 0, .string ByteArray.empty, .slice none 0 0, .slice none 0 0, .slice none 0 0, .slice none 0 0] 28))
  have BX0 := Aside0.mk (show (w.alloc (.cells #[.int .i64 0, .int .i64 0, .string ByteArray.empty, .slice none 0 0, .slice none 0 0, .slice none 0 0, .slice none 0 0] 28)).heap[w.heap.size]? = some (.cells #[.int .i64 0, .int .i64 0, .string ByteArray.empty, .slice none 0 0, .slice none 0 0, .slice none 0 0, .slice none 0 0] 28 (0, 0)) from Array.getElem?_push_size)
  go_enter Try.func11, Try.ntmps11
  go_wp2_with fail
  refine (may_zero k n hs _).mono ?_
  rintro e w1 ⟨rfl, hb⟩
  have HB1 := Aside0.mk (HB0.out.trans (hb.mono HB0.out.size))
  have BX1 := Aside0.mk (show _ = some (.cells #[.int .i64 0, .int .i64 0, .string ByteArray.empty, .slice none 0 0, .slice none 0 0, .slice none 0 0, .slice none 0 0] 28 (0, 0)) from (hb.block _ (blk_lt BX0.out)).trans BX0.out)
  clear hb HB0 BX0
  have x0 := (blk_cell BX1.out 0).trans rfl
  have x1 := (blk_cell BX1.out 1).trans rfl
  have x2 := (blk_cell BX1.out 2).trans rfl
  have x3 := (blk_cell BX1.out 3).trans rfl
  have x4 := (blk_cell BX1.out 4).trans rfl
  have x5 := (blk_cell BX1.out 5).trans rfl
  have x6 := (blk_cell BX1.out 6).trans rfl
  go_wp2_with fail
  refine (value_zero _).mono ?_
  rintro e w2 ⟨A9, c9, g8, rfl, hz, hb⟩
  have HZ := Aside0.mk hz
  clear hz
  have HB2 := Aside0.mk (HB1.out.trans (hb.mono HB1.out.size))
  have BX2 := Aside0.mk (show _ = some (.cells #[.int .i64 0, .int .i64 0, .string ByteArray.empty, .slice none 0 0, .slice none 0 0, .slice none 0 0, .slice none 0 0] 28 (0, 0)) from (hb.block _ (blk_lt BX1.out)).trans BX1.out)
  clear x0 x1 x2 x3 x4 x5 x6
  clear hb HB1 BX1
  have x0 := (blk_cell BX2.out 0).trans rfl
  have x1 := (blk_cell BX2.out 1).trans rfl
  have x2 := (blk_cell BX2.out 2).trans rfl
  have x3 := (blk_cell BX2.out 3).trans rfl
  have x4 := (blk_cell BX2.out 4).trans rfl
  have x5 := (blk_cell BX2.out 5).trans rfl
  have x6 := (blk_cell BX2.out 6).trans rfl
  go_wp2_with fail
  refine (codec_Encode.calls k 3 0 none 0 [] (some ⟨g8, 0, none⟩) 7 zl bs 0 _ (C_none _ _ _) (Nat.le_refl _) (C_zl HZ.out) (Nat.le_refl _) he).mono ?_
  rintro e w3 ⟨v0, rfl, hR, hb⟩
  have HR := Aside0.mk (Kd.R_lower hR HB2.out.size)
  clear hR
  have HB3 := Aside0.mk (HB2.out.trans (hb.mono HB2.out.size))
  have BX3 := Aside0.mk (show _ = some (.cells #[.int .i64 0, .int .i64 0, .string ByteArray.empty, .slice none 0 0, .slice none 0 0, .slice none 0 0, .slice none 0 0] 28 (0, 0)) from (hb.block _ (blk_lt BX2.out)).trans BX2.out)
  clear x0 x1 x2 x3 x4 x5 x6
  clear hb HB2 BX2
  have x0 := (blk_cell BX3.out 0).trans rfl
  have x1 := (blk_cell BX3.out 1).trans rfl
  have x2 := (blk_cell BX3.out 2).trans rfl
  have x3 := (blk_cell BX3.out 3).trans rfl
  have x4 := (blk_cell BX3.out 4).trans rfl
  have x5 := (blk_cell BX3.out 5).trans rfl
  have x6 := (blk_cell BX3.out 6).trans rfl
  go_wp2
  go_ret2
  exact ⟨v0, rfl, HR.out, HB3.out⟩
def lit31 : List Int := [3, 0, 7, 1, 0, 1, 0, 2, 0, 0, 0, 2, 0, 0, 0, 3, 0, 0, 3, 0, 0, 3, 0, 0]
theorem C_ints {W : World} {g : Nat} {t : Nat} (l : List Int) (hl : l.length ≤ 9223372036854775807) (h : W.heap[g]? = some (.cells (l.map (Value.int .u8)).toArray t (0, 0))) : Kd.C (Kd.int .u8) W (some ⟨g, 0, none⟩) l.length l :=
  ⟨rfl, hl, fun _ => ⟨_, rfl, fun j p hj => ⟨[.int .u8 p], rfl, rfl, fun i u hi => by
    match i, hi with
    | 0, hi =>
      cases hi
      have h2 := blk_cell h j
      rw [List.getElem?_toArray, List.getElem?_map, hj] at h2
      have e : (Addr.add ⟨g, 0, none⟩ (j * (Kd.int IntKind.u8).sz + 0)) = (⟨g, j, none⟩ : Addr) := by
        have s1 : (Kd.int IntKind.u8).sz = 1 := rfl
        rw [s1]
        simp only [Addr.add, Nat.mul_one, Nat.add_zero]
        split
        · rename_i h0
          rw [h0]
        · simp
      rw [e]
      exact h2
    | n + 1, hi => simp at hi⟩⟩⟩
set_option maxHeartbeats 4000000 in
set_option maxRecDepth 100000 in
theorem awake_walk (k : Nat) (n : Int) (bs : List Int) (hs : codec_Size.f k 3 0 [] zl = some (n, true)) (he : codec_Encode.f k 3 0 [] zl = some (bs, 0)) (hq : bastilleref01_Same.f k bs lit31 = some true) (w : World) : Calls Try.prog 9 #[] w fun e w' => e = .returned (.bool true) ∧ Below w.heap.size w w' := by
  go_enter Try.func9, Try.ntmps9
  go_wp2_with fail
  refine (write_zero k n bs hs he _).mono ?_
  rintro e w1 ⟨v0, rfl, hR, hb⟩
  obtain ⟨A, c, rfl⟩ := Kd.R_slice hR
  have HR := Aside0.mk hR
  have HB := Aside0.mk hb
  clear hR hb
  go_wp2_with fail
  refine (bastilleref01_Same.calls k A c bs (some ⟨w1.heap.size, 0, none⟩) 24 lit31 true _ (Kd.C_below (Kd.R_reads' HR.out).2.2 (below_alloc (Below.refl _ _) _)) (Kd.R_reads' HR.out).2.1 (C_ints lit31 (by decide) (Array.getElem?_push_size)) (Nat.le_refl _) hq).mono ?_
  rintro e w2 ⟨rfl, hd⟩
  have HB2 := Aside0.mk ((HB.out.alloc HB.out.size _).trans (hd.below.mono (Nat.le_trans HB.out.size (by rw [fsz]; exact Nat.le_succ _))))
  clear hd
  go_wp2
  go_ret
  exact ⟨rfl, HB2.out⟩
def bastillelaw31_awake.f (k : Nat) : Option Bool :=
  (codec_Size.f k 3 0 [] zl).bind fun s => if s.2 = true then (codec_Encode.f k 3 0 [] zl).bind fun b => if b.2 = 0 then (bastilleref01_Same.f k b.1 lit31).bind fun t => if t = true then some true else none else none else none
theorem bastillelaw31_awake.mono : ∀ k, LeO (bastillelaw31_awake.f k) (bastillelaw31_awake.f (k + 1)) := by
  intro k
  unfold bastillelaw31_awake.f
  exact LeO.bind (codec_Size.mono _ _ _ _ _) fun _ => LeO.ite (LeO.bind (codec_Encode.mono _ _ _ _ _) fun _ => LeO.ite (LeO.bind (bastilleref01_Same.mono _ _ _) fun _ => LeO.refl _) (LeO.refl _)) (LeO.refl _)
theorem bastillelaw31_awake.calls (k : Nat) (r : Bool) (w : World) (h : bastillelaw31_awake.f k = some r) : Calls Try.prog 9 #[] w fun e w' => e = .returned (.bool r) ∧ Below w.heap.size w w' := by
  unfold bastillelaw31_awake.f at h
  obtain ⟨⟨n, s⟩, hs, h1⟩ := Option.bind_eq_some_iff.1 h
  by_cases c1 : s = true
  · subst c1
    rw [if_pos rfl] at h1
    obtain ⟨⟨bs, b2⟩, hb, h2⟩ := Option.bind_eq_some_iff.1 h1
    by_cases c2 : b2 = 0
    · subst c2
      rw [if_pos rfl] at h2
      obtain ⟨t, ht, h3⟩ := Option.bind_eq_some_iff.1 h2
      by_cases c3 : t = true
      · subst c3
        rw [if_pos rfl] at h3
        cases h3
        exact awake_walk k n bs hs hb ht w
      · rw [if_neg c3] at h3
        cases h3
    · rw [if_neg c2] at h2
      cases h2
  · rw [if_neg c1] at h1
    cases h1


end Go.Proofs.Ytiibnfnjfmcggaa.PAnswerSame
