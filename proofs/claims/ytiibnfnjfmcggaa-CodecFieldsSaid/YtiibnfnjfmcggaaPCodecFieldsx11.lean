-- Written by drive.py of this work: the kit's print.py with contracts of this work laid in.
import Derived.Test.YtiibnfnjfmcggaaPCodecFieldsx0
import Derived.Test.YtiibnfnjfmcggaaPCodecFieldsx1
import Derived.Test.YtiibnfnjfmcggaaPCodecFieldsx5
import Derived.Test.YtiibnfnjfmcggaaPCodecFieldsx6
import Derived.Test.YtiibnfnjfmcggaaPCodecFieldsx7
import Derived.Test.YtiibnfnjfmcggaaPCodecFieldsx8
import Derived.Test.YtiibnfnjfmcggaaPCodecFieldsx10
namespace Go.Proofs.Ytiibnfnjfmcggaa.PCodecFields
open Go.RowKit Go.Proofs.YtiibnfnjfmcggaaW.PrintWords Go.Proofs.YtiibnfnjfmcggaaW.PrintLast Go.Proofs.YtiibnfnjfmcggaaW.PrintMore
attribute [local go_sem] max2_int min2_int max_two min_two max_three min_three max_four min_four   -- for this text's walks alone
set_option linter.unusedVariables false
set_option linter.unusedSimpArgs false

/-! ### bastillelaw02_CodecFields: function 6 -/
--ALONE

def kindsB : List S43 → List Int → Bool
  | x :: s, y :: t => (x.f0 == y) && kindsB s t
  | _, _ => true
def wantB (a0 : Int) (l : List S43) (ks : List Int) : Bool := decide (a0 = 3) && decide (l.length = ks.length) && kindsB l ks
def bastillelaw02_CodecFields.f (k : Nat) (a0_0 : Int) (a0_1 : Int) (l0_2 : List Int) (l0_3 : List (S43)) (a1_0 : Int) (a1_1 : Int) (l1_2 : List Int) (l1_3 : List (S43)) (l2 : List Int) : Option Bool :=
  (bastillelaw02_awake.f k).bind fun t => if t = true then (bastillelaw02_Few.f k a0_0 a0_1 l0_2 l0_3).bind fun u => if u = true then (bastillelaw02_Few.f k a1_0 a1_1 l1_2 l1_3).bind fun v => if v = true then
    (if l2.length > 20 then some true else (codec_Fields.f k a0_0 a0_1 l0_2 l0_3 l2).bind fun q => if q.2 = wantB a0_0 l0_3 l2 then
      (if q.2 = true then bastilleref02_Same.f k 3 0 [] q.1 3 0 [] l0_3 else some (decide (q.1.length = 0))).bind fun s => if s = true then
        (bastilleref01_Same.f k l1_2 l1_2).bind fun s1 => if s1 = true then (bastilleref02_Same.f k a0_0 a0_1 l0_2 l0_3 a0_0 a0_1 l0_2 l0_3).bind fun s2 => if s2 = true then (bastilleref02_Same.f k a1_0 a1_1 l1_2 l1_3 a1_0 a1_1 l1_2 l1_3).bind fun s3 => if s3 = true then
          (codec_Same.f k a0_0 a0_1 l0_2 l0_3 a1_0 a1_1 l1_2 l1_3).bind fun e1 => (bastilleref02_Same.f k a0_0 a0_1 l0_2 l0_3 a1_0 a1_1 l1_2 l1_3).bind fun e2 => if e1 = e2 then
            (codec_Same.f k a0_0 a0_1 l0_2 l0_3 a0_0 a0_1 l0_2 l0_3).bind fun e3 => if e3 = true then some true else none
          else none
        else none else none else none
      else none
    else none)
  else some true else some true else none
theorem bastillelaw02_CodecFields.mono : ∀ a0 a1 a2 a3 b0 b1 b2 b3 c k, LeO (bastillelaw02_CodecFields.f k a0 a1 a2 a3 b0 b1 b2 b3 c) (bastillelaw02_CodecFields.f (k + 1) a0 a1 a2 a3 b0 b1 b2 b3 c) := by
  intro a0 a1 a2 a3 b0 b1 b2 b3 c k
  unfold bastillelaw02_CodecFields.f
  exact LeO.bind (bastillelaw02_awake.mono _) fun _ => LeO.ite (LeO.bind (bastillelaw02_Few.mono _ _ _ _ _) fun _ => LeO.ite (LeO.bind (bastillelaw02_Few.mono _ _ _ _ _) fun _ => LeO.ite (LeO.ite (LeO.refl _)
    (LeO.bind (codec_Fields.mono _ _ _ _ _ _) fun _ => LeO.ite (LeO.bind (LeO.ite (bastilleref02_Same.mono _ _ _ _ _ _ _ _ _) (LeO.refl _)) fun _ => LeO.ite (LeO.bind (bastilleref01_Same.mono _ _ _) fun _ => LeO.ite (LeO.bind (bastilleref02_Same.mono _ _ _ _ _ _ _ _ _) fun _ => LeO.ite (LeO.bind (bastilleref02_Same.mono _ _ _ _ _ _ _ _ _) fun _ => LeO.ite
      (LeO.bind (codec_Same.mono _ _ _ _ _ _ _ _ _) fun _ => LeO.bind (bastilleref02_Same.mono _ _ _ _ _ _ _ _ _) fun _ => LeO.ite (LeO.bind (codec_Same.mono _ _ _ _ _ _ _ _ _) fun _ => LeO.refl _) (LeO.refl _)) (LeO.refl _)) (LeO.refl _)) (LeO.refl _)) (LeO.refl _)) (LeO.refl _)))
    (LeO.refl _)) (LeO.refl _)) (LeO.refl _)
def VB (g : Nat) (w : World) (u0 u1 u2 u3 : Value) : Prop := w.heap[g]? = some (.cells #[u0, u1, u2, u3] 43 (0, 0))
theorem vb_cells {g : Nat} {w : World} {u0 u1 u2 u3 : Value} (h : VB g w u0 u1 u2 u3) : w.cell? ⟨g, 0, none⟩ = some u0 ∧ w.cell? ⟨g, 1, none⟩ = some u1 ∧ w.cell? ⟨g, 2, none⟩ = some u2 ∧ w.cell? ⟨g, 3, none⟩ = some u3 :=
  ⟨(blk_cell h 0).trans rfl, (blk_cell h 1).trans rfl, (blk_cell h 2).trans rfl, (blk_cell h 3).trans rfl⟩
theorem vb_below {g : Nat} {w w' : World} {u0 u1 u2 u3 : Value} (h : VB g w u0 u1 u2 u3) (hb : Below w.heap.size w w') : VB g w' u0 u1 u2 u3 := (hb.block _ (blk_lt h)).trans h
theorem fsize (w : World) (o : Obj) : (w.alloc o).heap.size = w.heap.size + 1 := Array.size_push _
theorem of_any (A : Option Addr) (n c : Nat) (w : World) : Calls Try.prog 29 #[.slice A n c] w fun e w' => e = .returned (.agg #[.int .i64 3, .int .i64 0, .slice none 0 0, .slice A n c]) ∧ Below w.heap.size w w' := by
  go_enter Try.func29, Try.ntmps29
  go_wp2
  refine bodyPost_ret (results_cell_row rfl _ _ w.heap.size 43 #[.int .i64 3, .int .i64 0, .slice none 0 0, .slice A n c] (0, 0) _ rfl (Array.getElem?_push_size) Try.underlying43 rfl (by kernel_rfl)) rfl ?_
  exact ⟨rfl, (Below.refl _ w).alloc (Nat.le_refl _) _⟩
theorem num_any (n : Int) (w : World) : Calls Try.prog 30 #[.int .i64 n] w fun e w' => e = .returned (.agg #[.int .i64 1, .int .i64 n, .slice none 0 0, .slice none 0 0]) ∧ Below w.heap.size w w' := by
  go_enter Try.func30, Try.ntmps30
  go_wp2
  refine bodyPost_ret (results_cell_row rfl _ _ w.heap.size 43 #[.int .i64 1, .int .i64 n, .slice none 0 0, .slice none 0 0] (0, 0) _ rfl (Array.getElem?_push_size) Try.underlying43 rfl (by kernel_rfl)) rfl ?_
  exact ⟨rfl, (Below.refl _ w).alloc (Nat.le_refl _) _⟩
theorem raw_any (A : Option Addr) (n c : Nat) (w : World) : Calls Try.prog 31 #[.slice A n c] w fun e w' => e = .returned (.agg #[.int .i64 2, .int .i64 0, .slice A n c, .slice none 0 0]) ∧ Below w.heap.size w w' := by
  go_enter Try.func31, Try.ntmps31
  go_wp2
  refine bodyPost_ret (results_cell_row rfl _ _ w.heap.size 43 #[.int .i64 2, .int .i64 0, .slice A n c, .slice none 0 0] (0, 0) _ rfl (Array.getElem?_push_size) Try.underlying43 rfl (by kernel_rfl)) rfl ?_
  exact ⟨rfl, (Below.refl _ w).alloc (Nat.le_refl _) _⟩

def REST1 (k : Nat) (a0_0 : Int) (a0_1 : Int) (l0_2 : List Int) (l0_3 : List (S43)) (a1_0 : Int) (a1_1 : Int) (l1_2 : List Int) (l1_3 : List (S43)) : Option Bool :=
        (bastilleref01_Same.f k l1_2 l1_2).bind fun s1 => if s1 = true then (bastilleref02_Same.f k a0_0 a0_1 l0_2 l0_3 a0_0 a0_1 l0_2 l0_3).bind fun s2 => if s2 = true then (bastilleref02_Same.f k a1_0 a1_1 l1_2 l1_3 a1_0 a1_1 l1_2 l1_3).bind fun s3 => if s3 = true then
          (codec_Same.f k a0_0 a0_1 l0_2 l0_3 a1_0 a1_1 l1_2 l1_3).bind fun e1 => (bastilleref02_Same.f k a0_0 a0_1 l0_2 l0_3 a1_0 a1_1 l1_2 l1_3).bind fun e2 => if e1 = e2 then
            (codec_Same.f k a0_0 a0_1 l0_2 l0_3 a0_0 a0_1 l0_2 l0_3).bind fun e3 => if e3 = true then some true else none
          else none
        else none else none else none
theorem vb_drewN {g : Nat} {w : World} {u0 u1 u2 u3 : Value} (h : VB g w u0 u1 u2 u3) (n : Nat) : VB g (w.drewN n) u0 u1 u2 u3 := (pw_below_drewN (Below.refl _ _) n).block _ (blk_lt h) |>.trans h
theorem kinds_step (s : List S43) (t : List Int) (i : Nat) (hs : i < s.length) (ht : i < t.length) : kindsB (s.drop i) (t.drop i) = (((rd_T43 s (i : Int)).f0 == rd t (i : Int)) && kindsB (s.drop (i + 1)) (t.drop (i + 1))) := by
  rw [List.drop_eq_getElem_cons hs, List.drop_eq_getElem_cons ht]
  simp only [kindsB, rd_T43, rd, Int.toNat_natCast, List.getD_eq_getElem?_getD, List.getElem?_eq_getElem hs, List.getElem?_eq_getElem ht, Option.getD_some]

structure FS (w : World) (u0 u1 u2 u3 v0 v1 v2 v3 : Value) (ok : Nat → Prop) (vq : Value) (ql : List S43) (W : World) : Prop where
  hb : Below w.heap.size w W
  ka : VB w.heap.size W u0 u1 u2 u3
  kb : VB (w.heap.size + 1) W v0 v1 v2 v3
  q : Kd.V k43 43 W w.heap.size ok vq ql
theorem FS.step {w : World} {u0 u1 u2 u3 v0 v1 v2 v3 : Value} {ok : Nat → Prop} {vq : Value} {ql : List S43} {W W' : World} (h : FS w u0 u1 u2 u3 v0 v1 v2 v3 ok vq ql W) (hb : Below W.heap.size W W') : FS w u0 u1 u2 u3 v0 v1 v2 v3 ok vq ql W' :=
  ⟨h.hb.trans (hb.mono h.hb.size), vb_below h.ka hb, vb_below h.kb hb, Kd.V_below h.q hb⟩
theorem FS.drew {w : World} {u0 u1 u2 u3 v0 v1 v2 v3 : Value} {ok : Nat → Prop} {vq : Value} {ql : List S43} {W : World} (h : FS w u0 u1 u2 u3 v0 v1 v2 v3 ok vq ql W) : FS w u0 u1 u2 u3 v0 v1 v2 v3 ok vq ql W.drew := h.step (below_drew (Below.refl _ _))
theorem FS.cells {w : World} {u0 u1 u2 u3 v0 v1 v2 v3 : Value} {ok : Nat → Prop} {vq : Value} {ql : List S43} {W : World} (h : FS w u0 u1 u2 u3 v0 v1 v2 v3 ok vq ql W) : (W.cell? ⟨w.heap.size, 0, none⟩ = some u0 ∧ W.cell? ⟨w.heap.size, 1, none⟩ = some u1 ∧ W.cell? ⟨w.heap.size, 2, none⟩ = some u2 ∧ W.cell? ⟨w.heap.size, 3, none⟩ = some u3) ∧
    (W.cell? ⟨w.heap.size + 1, 0, none⟩ = some v0 ∧ W.cell? ⟨w.heap.size + 1, 1, none⟩ = some v1 ∧ W.cell? ⟨w.heap.size + 1, 2, none⟩ = some v2 ∧ W.cell? ⟨w.heap.size + 1, 3, none⟩ = some v3) := ⟨vb_cells h.ka, vb_cells h.kb⟩
theorem rsame3 (k : Nat) (A : Option Addr) (c : Nat) (l : List S43) (A' : Option Addr) (c' : Nat) (l' : List S43) (r : Bool) (w : World) (h1 : Kd.C k43 w A l.length l) (g1 : l.length ≤ c) (h2 : Kd.C k43 w A' l'.length l') (g2 : l'.length ≤ c') (h : bastilleref02_Same.f k 3 0 [] l 3 0 [] l' = some r) :
    Calls Try.prog 28 #[.agg #[.int .i64 3, .int .i64 0, .slice none 0 0, .slice A l.length c], .agg #[.int .i64 3, .int .i64 0, .slice none 0 0, .slice A' l'.length c']] w fun e w' => e = .returned (.bool r) ∧ Below w.heap.size w w' :=
  bastilleref02_Same.calls k 3 0 none 0 [] A c l 3 0 none 0 [] A' c' l' r w (Kd.C_nil _ _) (Nat.le_refl _) h1 g1 (Kd.C_nil _ _) (Nat.le_refl _) h2 g2 h
theorem vb_put4 {g : Nat} {w : World} {u0 u1 u2 u3 : Value} (h : VB g w u0 u1 u2 u3) (v0 v1 v2 v3 : Value) : VB g ((((w.setCell ⟨g, 0, none⟩ v0).setCell ⟨g, 1, none⟩ v1).setCell ⟨g, 2, none⟩ v2).setCell ⟨g, 3, none⟩ v3) v0 v1 v2 v3 :=
  blk_set (blk_set (blk_set (blk_set h 0 v0) 1 v1) 2 v2) 3 v3
theorem far_put4 {k g : Nat} {w : World} {o : Obj} (h : w.heap[k]? = some o) (hne : k ≠ g) (v0 v1 v2 v3 : Value) : ((((w.setCell ⟨g, 0, none⟩ v0).setCell ⟨g, 1, none⟩ v1).setCell ⟨g, 2, none⟩ v2).setCell ⟨g, 3, none⟩ v3).heap[k]? = some o :=
  ((Below.heap_setCell _ _ _ k hne).trans ((Below.heap_setCell _ _ _ k hne).trans ((Below.heap_setCell _ _ _ k hne).trans (Below.heap_setCell _ _ _ k hne)))).trans h
theorem FS.put4 {w : World} {u0 u1 u2 u3 v0 v1 v2 v3 : Value} {N : Nat} {vq : Value} {ql : List S43} {W : World} {g : Nat} (h : FS w u0 u1 u2 u3 v0 v1 v2 v3 (fun k_ => k_ < N) vq ql W) (hg : w.heap.size + 2 ≤ g) (hN : N ≤ g) (x0 x1 x2 x3 : Value) :
    FS w u0 u1 u2 u3 v0 v1 v2 v3 (fun k_ => k_ < N) vq ql ((((W.setCell ⟨g, 0, none⟩ x0).setCell ⟨g, 1, none⟩ x1).setCell ⟨g, 2, none⟩ x2).setCell ⟨g, 3, none⟩ x3) := by
  have hq : w.heap.size ≤ g := by omega
  have f : ∀ k, k < N → k ≠ g := fun k hk => by omega
  refine ⟨(((h.hb.setCell hq _).setCell hq _).setCell hq _).setCell hq _, far_put4 h.ka (by omega) _ _ _ _, far_put4 h.kb (by omega) _ _ _ _, ?_⟩
  exact Kd.V_far (Kd.V_far (Kd.V_far (Kd.V_far h.q (p := ⟨g, 0, none⟩) f x0) (p := ⟨g, 1, none⟩) f x1) (p := ⟨g, 2, none⟩) f x2) (p := ⟨g, 3, none⟩) f x3
theorem FS.bound {w : World} {u0 u1 u2 u3 v0 v1 v2 v3 : Value} {ok : Nat → Prop} {vq : Value} {ql : List S43} {W : World} (h : FS w u0 u1 u2 u3 v0 v1 v2 v3 ok vq ql W) : FS w u0 u1 u2 u3 v0 v1 v2 v3 (fun k_ => k_ < W.heap.size) vq ql W := ⟨h.hb, h.ka, h.kb, Kd.V_mono (Kd.V_bound h.q) (fun k hk => hk.2)⟩
theorem k43_heap : Kd.Heap k43 := Kd.heap_fix (fun d hd => Kd.heap_iso _ (Kd.heap_pair (Kd.heap_int _) (Kd.heap_pair (Kd.heap_int _) (Kd.heap_pair (Kd.heap_slice _ (Kd.heap_int _)) (Kd.heap_slice _ hd)))))
theorem F_old2 {α : Type} {d : Kd α} {w w1 : World} {A : Option Addr} {n : Nat} {xs : List α} (h : Kd.F d w (fun k => k < w.heap.size) A n xs) (hb : Below w.heap.size w w1) : Kd.F d w1 (fun k => k < w.heap.size) A n xs :=
  Kd.F_step h (fun k _ hlt => hb.block k hlt)
def bastillelaw02_CodecFields.T11 : Bool × List (List Nat × List Nat) := (true, [([], []), ([], []), ([0, 1], [0, 1]), ([2], [2]), ([3], [3]), ([4, 3, 3], [3, 4]), ([5], [5]), ([6, 5, 5], [5, 6]), ([5], [5]), ([8, 5], [5, 8]), ([9, 7, 5], [5, 9]), ([7, 10, 10, 5], [5, 7, 10]), ([11, 5], [5, 11]), ([5, 12, 3], [3, 5, 12]), ([3, 13], [3, 13]), ([14, 11], [14]), ([15], [15]), ([16, 15], [15, 16]), ([17, 15, 15], [15, 17]), ([18], [18]), ([19, 18], [18, 19]), ([20, 18], [18, 20]), ([18, 21, 15], [15, 18, 21]), ([15, 22], [15, 22])])
def bastillelaw02_CodecFields.B11 : List Nat := [0, 0, 3, 7, 15, 31, 63, 127, 63, 319, 1023, 2047, 4095, 8191, 16383, 32767, 65535, 131071, 262143, 524287, 1048575, 2097151, 4194303, 8388607]
theorem bastillelaw02_CodecFields.tab11 : rtab .any (opsOf Try.f6 11) = bastillelaw02_CodecFields.T11 := by kernel_rfl
theorem bastillelaw02_CodecFields.bits11 : waitsOk bastillelaw02_CodecFields.T11.2 bastillelaw02_CodecFields.B11 = true := by kernel_rfl

structure GS (w : World) (u0 u1 u2 u3 v0 v1 v2 v3 : Value) (g8 g10 g11 g12 : Nat) (n0 n1 n2 n3 r0 r1 r2 r3 o0 o1 o2 o3 : Value) (W : World) : Prop where
  hb : Below w.heap.size w W
  ka : VB w.heap.size W u0 u1 u2 u3
  kb : VB (w.heap.size + 1) W v0 v1 v2 v3
  k8 : W.heap[g8]? = some (.cells #[u0, u1, u2, u3, v0, v1, v2, v3] 43 (0, 0))
  kn : VB g10 W n0 n1 n2 n3
  kr : VB g11 W r0 r1 r2 r3
  ko : VB g12 W o0 o1 o2 o3
theorem GS.step {w : World} {u0 u1 u2 u3 v0 v1 v2 v3 : Value} {g8 g10 g11 g12 : Nat} {n0 n1 n2 n3 r0 r1 r2 r3 o0 o1 o2 o3 : Value} {W W' : World} (h : GS w u0 u1 u2 u3 v0 v1 v2 v3 g8 g10 g11 g12 n0 n1 n2 n3 r0 r1 r2 r3 o0 o1 o2 o3 W) (hb : Below W.heap.size W W') : GS w u0 u1 u2 u3 v0 v1 v2 v3 g8 g10 g11 g12 n0 n1 n2 n3 r0 r1 r2 r3 o0 o1 o2 o3 W' :=
  ⟨h.hb.trans (hb.mono h.hb.size), vb_below h.ka hb, vb_below h.kb hb, (hb.block _ (blk_lt h.k8)).trans h.k8, vb_below h.kn hb, vb_below h.kr hb, vb_below h.ko hb⟩
theorem GS.cells {w : World} {u0 u1 u2 u3 v0 v1 v2 v3 : Value} {g8 g10 g11 g12 : Nat} {n0 n1 n2 n3 r0 r1 r2 r3 o0 o1 o2 o3 : Value} {W : World} (h : GS w u0 u1 u2 u3 v0 v1 v2 v3 g8 g10 g11 g12 n0 n1 n2 n3 r0 r1 r2 r3 o0 o1 o2 o3 W) :
    W.cell? ⟨g10, 0, none⟩ = some n0 ∧ W.cell? ⟨g10, 1, none⟩ = some n1 ∧ W.cell? ⟨g11, 0, none⟩ = some r0 ∧ W.cell? ⟨g11, 2, none⟩ = some r2 ∧ W.cell? ⟨g12, 0, none⟩ = some o0 ∧ W.cell? ⟨g12, 3, none⟩ = some o3 ∧ W.cell? ⟨g8, 0, none⟩ = some u0 ∧ W.cell? ⟨g8, 1, none⟩ = some u1 ∧ W.cell? ⟨g8, 2, none⟩ = some u2 ∧ W.cell? ⟨g8, 3, none⟩ = some u3 ∧ W.cell? ⟨g8, 4, none⟩ = some v0 ∧ W.cell? ⟨g8, 5, none⟩ = some v1 ∧ W.cell? ⟨g8, 6, none⟩ = some v2 ∧ W.cell? ⟨g8, 7, none⟩ = some v3 ∧ W.cell? ⟨w.heap.size, 0, none⟩ = some u0 ∧ W.cell? ⟨w.heap.size, 1, none⟩ = some u1 ∧ W.cell? ⟨w.heap.size, 2, none⟩ = some u2 ∧ W.cell? ⟨w.heap.size, 3, none⟩ = some u3 ∧ W.cell? ⟨w.heap.size + 1, 0, none⟩ = some v0 ∧ W.cell? ⟨w.heap.size + 1, 1, none⟩ = some v1 ∧ W.cell? ⟨w.heap.size + 1, 2, none⟩ = some v2 ∧ W.cell? ⟨w.heap.size + 1, 3, none⟩ = some v3 := ⟨(blk_cell h.kn 0).trans rfl, (blk_cell h.kn 1).trans rfl, (blk_cell h.kr 0).trans rfl, (blk_cell h.kr 2).trans rfl, (blk_cell h.ko 0).trans rfl, (blk_cell h.ko 3).trans rfl, (blk_cell h.k8 0).trans rfl, (blk_cell h.k8 1).trans rfl, (blk_cell h.k8 2).trans rfl, (blk_cell h.k8 3).trans rfl, (blk_cell h.k8 4).trans rfl, (blk_cell h.k8 5).trans rfl, (blk_cell h.k8 6).trans rfl, (blk_cell h.k8 7).trans rfl, (blk_cell h.ka 0).trans rfl, (blk_cell h.ka 1).trans rfl, (blk_cell h.ka 2).trans rfl, (blk_cell h.ka 3).trans rfl, (blk_cell h.kb 0).trans rfl, (blk_cell h.kb 1).trans rfl, (blk_cell h.kb 2).trans rfl, (blk_cell h.kb 3).trans rfl⟩
def bastillelaw02_CodecFields.T13 : Bool × List (List Nat × List Nat) := (true, [([], []), ([0], [0]), ([1], [1]), ([], []), ([3], [3]), ([4, 2], [4]), ([], []), ([], []), ([6, 7], [6, 7]), ([8, 5], [8]), ([], []), ([], []), ([], []), ([10, 2, 9, 0, 1, 2, 10, 11, 12], [2, 10]), ([11, 5, 13, 0, 1, 2, 3, 4, 5, 10, 11, 12, 13], [5, 11]), ([12, 9, 14, 0, 1, 2, 3, 4, 5, 6, 7, 8, 9, 10, 11, 12, 13, 14], [9, 12])])
def bastillelaw02_CodecFields.B13 : List Nat := [0, 1, 3, 0, 8, 31, 0, 0, 192, 511, 0, 0, 0, 8191, 16383, 32767]
theorem bastillelaw02_CodecFields.tab13 : rtab .any (opsOf Try.f6 13) = bastillelaw02_CodecFields.T13 := by kernel_rfl
theorem bastillelaw02_CodecFields.bits13 : waitsOk bastillelaw02_CodecFields.T13.2 bastillelaw02_CodecFields.B13 = true := by kernel_rfl
def bastillelaw02_CodecFields.T14 : Bool × List (List Nat × List Nat) := (true, [([], []), ([0], [0]), ([1], [1]), ([2], [2]), ([3], [3]), ([4, 3], [3, 4]), ([3], [3]), ([6, 3], [3, 6]), ([5, 7, 3], [3, 5, 7]), ([3, 8], [3, 8]), ([9, 3], [9]), ([10], [10]), ([11, 10], [10, 11]), ([12, 10], [10, 12]), ([10, 13], [10, 13]), ([14, 10], [14]), ([15], [15]), ([16, 15], [15, 16]), ([15], [15]), ([18, 15], [15, 18]), ([17, 19, 15, 15], [15, 17, 19]), ([20, 15], [15, 20]), ([15, 21], [15, 21]), ([22, 20], [22]), ([23], [23]), ([24, 23], [23, 24]), ([25, 23], [23, 25]), ([23, 26], [23, 26]), ([27, 23], [27]), ([28], [28]), ([29, 28], [28, 29]), ([30, 28], [28, 30]), ([31, 28], [28, 31]), ([28, 32], [28, 32]), ([33, 28], [33]), ([34], [34]), ([35, 34], [34, 35]), ([36, 34], [34, 36]), ([37, 34], [34, 37]), ([34], [34]), ([38, 39, 34, 34], [34, 38, 39]), ([40, 34], [34, 40]), ([34, 41], [34, 41]), ([42, 40], [42]), ([43], [43]), ([44, 43], [43, 44]), ([45, 43], [43, 45]), ([46, 43], [43, 46]), ([43], [43]), ([47, 48, 43, 43], [43, 47, 48]), ([49, 43], [43, 49]), ([43, 50], [43, 50])])
def bastillelaw02_CodecFields.B14 : List Nat := [0, 1, 3, 7, 15, 31, 15, 79, 255, 511, 1023, 2047, 4095, 8191, 16383, 32767, 65535, 131071, 65535, 327679, 1048575, 2097151, 4194303, 8388607, 16777215, 33554431, 67108863, 134217727, 268435455, 536870911, 1073741823, 2147483647, 4294967295, 8589934591, 17179869183, 34359738367, 68719476735, 137438953471, 274877906943, 34359738367, 1099511627775, 2199023255551, 4398046511103, 8796093022207, 17592186044415, 35184372088831, 70368744177663, 140737488355327, 17592186044415, 562949953421311, 1125899906842623, 2251799813685247]
theorem bastillelaw02_CodecFields.tab14 : rtab .any (opsOf Try.f6 14) = bastillelaw02_CodecFields.T14 := by kernel_rfl
theorem bastillelaw02_CodecFields.bits14 : waitsOk bastillelaw02_CodecFields.T14.2 bastillelaw02_CodecFields.B14 = true := by kernel_rfl
def bastillelaw02_CodecFields.T16 : Bool × List (List Nat × List Nat) := (true, [([], []), ([], []), ([0, 1], [0, 1]), ([], []), ([], []), ([3, 4, 2], [3, 4]), ([2, 5], [2, 5]), ([6, 5], [6]), ([7], [7]), ([7], [7]), ([8, 9, 7, 7], [7, 8, 9]), ([7, 10], [7, 10]), ([11, 10, 0, 1, 2, 3, 4, 5, 6, 7, 8, 9, 10, 11], [11])])
def bastillelaw02_CodecFields.B16 : List Nat := [0, 0, 3, 0, 0, 31, 63, 127, 255, 255, 1023, 2047, 4095]
theorem bastillelaw02_CodecFields.tab16 : rtab .any (opsOf Try.f6 16) = bastillelaw02_CodecFields.T16 := by kernel_rfl
theorem bastillelaw02_CodecFields.bits16 : waitsOk bastillelaw02_CodecFields.T16.2 bastillelaw02_CodecFields.B16 = true := by kernel_rfl

set_option maxHeartbeats 8000000 in
set_option maxRecDepth 100000 in
theorem bastillelaw02_CodecFields.calls (k : Nat) (a0_0 : Int) (a0_1 : Int) (A0_2 : Option Addr) (c0_2 : Nat) (l0_2 : List Int) (A0_3 : Option Addr) (c0_3 : Nat) (l0_3 : List (S43)) (a1_0 : Int) (a1_1 : Int) (A1_2 : Option Addr) (c1_2 : Nat) (l1_2 : List Int) (A1_3 : Option Addr) (c1_3 : Nat) (l1_3 : List (S43)) (A2 : Option Addr) (c2 : Nat) (l2 : List Int) (r : Bool) (w : World) (hr0_2 : Kd.C (Kd.int .u8) w A0_2 l0_2.length l0_2) (hc0_2 : l0_2.length ≤ c0_2) (hr0_3 : Kd.C k43 w A0_3 l0_3.length l0_3) (hc0_3 : l0_3.length ≤ c0_3) (hr1_2 : Kd.C (Kd.int .u8) w A1_2 l1_2.length l1_2) (hc1_2 : l1_2.length ≤ c1_2) (hr1_3 : Kd.C k43 w A1_3 l1_3.length l1_3) (hc1_3 : l1_3.length ≤ c1_3) (hr2 : Kd.C (Kd.int .i64) w A2 l2.length l2) (hc2 : l2.length ≤ c2)
    (h : bastillelaw02_CodecFields.f k a0_0 a0_1 l0_2 l0_3 a1_0 a1_1 l1_2 l1_3 l2 = some r) :
    Calls Try.prog 6 #[.agg #[.int .i64 a0_0, .int .i64 a0_1, .slice A0_2 l0_2.length c0_2, .slice A0_3 l0_3.length c0_3], .agg #[.int .i64 a1_0, .int .i64 a1_1, .slice A1_2 l1_2.length c1_2, .slice A1_3 l1_3.length c1_3], .slice A2 l2.length c2] w fun e w' => e = .returned (.bool r) ∧ Below w.heap.size w w' := by
  have H := Aside0.mk h
  have R02 := Aside0.mk hr0_2
  have R03 := Aside0.mk hr0_3
  have R12 := Aside0.mk hr1_2
  have R13 := Aside0.mk hr1_3
  have R2 := Aside0.mk hr2
  have L02 := Aside0.mk hc0_2
  have L03 := Aside0.mk hc0_3
  have L12 := Aside0.mk hc1_2
  have L13 := Aside0.mk hc1_3
  have L2 := Aside0.mk hc2
  clear h hr0_2 hr0_3 hr1_2 hr1_3 hr2 hc0_2 hc0_3 hc1_2 hc1_3 hc2
  have h1 := H.out
  unfold bastillelaw02_CodecFields.f at h1
  obtain ⟨t, ht, h2⟩ := Option.bind_eq_some_iff.1 h1
  clear H h1
  by_cases c1 : t = true
  · subst c1
    rw [if_pos rfl] at h2
    obtain ⟨u, hu, h3⟩ := Option.bind_eq_some_iff.1 h2
    have HT := Aside0.mk ht
    have HU := Aside0.mk hu
    have H := Aside0.mk h3
    clear ht hu h2 h3
    have HBB := ((Below.refl _ w).alloc (Nat.le_refl _) (.cells #[.int .i64 a0_0, .int .i64 a0_1, .slice A0_2 l0_2.length c0_2, .slice A0_3 l0_3.length c0_3] 43)).alloc (by rw [fsize]; exact Nat.le_succ _) (.cells #[.int .i64 a1_0, .int .i64 a1_1, .slice A1_2 l1_2.length c1_2, .slice A1_3 l1_3.length c1_3] 43)
    have KAA : VB w.heap.size ((w.alloc (.cells #[.int .i64 a0_0, .int .i64 a0_1, .slice A0_2 l0_2.length c0_2, .slice A0_3 l0_3.length c0_3] 43)).alloc (.cells #[.int .i64 a1_0, .int .i64 a1_1, .slice A1_2 l1_2.length c1_2, .slice A1_3 l1_3.length c1_3] 43)) (.int .i64 a0_0) (.int .i64 a0_1) (.slice A0_2 l0_2.length c0_2) (.slice A0_3 l0_3.length c0_3) := blk_alloc (show (w.alloc _).heap[w.heap.size]? = some _ from Array.getElem?_push_size) _
    have KBB : VB (w.heap.size + 1) ((w.alloc (.cells #[.int .i64 a0_0, .int .i64 a0_1, .slice A0_2 l0_2.length c0_2, .slice A0_3 l0_3.length c0_3] 43)).alloc (.cells #[.int .i64 a1_0, .int .i64 a1_1, .slice A1_2 l1_2.length c1_2, .slice A1_3 l1_3.length c1_3] 43)) (.int .i64 a1_0) (.int .i64 a1_1) (.slice A1_2 l1_2.length c1_2) (.slice A1_3 l1_3.length c1_3) := by rw [← fsize w (.cells #[.int .i64 a0_0, .int .i64 a0_1, .slice A0_2 l0_2.length c0_2, .slice A0_3 l0_3.length c0_3] 43)]; exact Array.getElem?_push_size
    go_enter Try.func6, Try.ntmps6
    go_wp2_with fail
    refine (bastillelaw02_awake.calls k true _ HT.out).mono ?_
    rintro e w1 ⟨rfl, hb⟩
    have HB1 := Aside0.mk (HBB.trans (hb.mono HBB.size))
    have KA1 := Aside0.mk (vb_below KAA hb)
    have KB1 := Aside0.mk (vb_below KBB hb)
    clear hb HBB KAA KBB HT
    obtain ⟨x0, x1, x2, x3⟩ := vb_cells KA1.out
    obtain ⟨y0, y1, y2, y3⟩ := vb_cells KB1.out
    go_wp2_with fail
    refine (bastillelaw02_Few.calls k a0_0 a0_1 A0_2 c0_2 l0_2 A0_3 c0_3 l0_3 u w1 (Kd.C_below R02.out HB1.out) L02.out (Kd.C_below R03.out HB1.out) L03.out HU.out).mono ?_
    rintro e w2 ⟨rfl, hb⟩
    have HB2 := Aside0.mk (HB1.out.trans (hb.mono HB1.out.size))
    have KA2 := Aside0.mk (vb_below KA1.out hb)
    have KB2 := Aside0.mk (vb_below KB1.out hb)
    clear hb x0 x1 x2 x3 y0 y1 y2 y3
    obtain ⟨x0, x1, x2, x3⟩ := vb_cells KA2.out
    obtain ⟨y0, y1, y2, y3⟩ := vb_cells KB2.out

    have h1 := H.out
    clear H HU HB1 KA1 KB1
    by_cases c2 : u = true
    · subst c2
      rw [if_pos rfl] at h1
      obtain ⟨v, hv, h2⟩ := Option.bind_eq_some_iff.1 h1
      have HV := Aside0.mk hv
      have H := Aside0.mk h2
      clear hv h1 h2
      go_wp2_with fail
      refine (bastillelaw02_Few.calls k a1_0 a1_1 A1_2 c1_2 l1_2 A1_3 c1_3 l1_3 v w2 (Kd.C_below R12.out HB2.out) L12.out (Kd.C_below R13.out HB2.out) L13.out HV.out).mono ?_
      rintro e w3 ⟨rfl, hb⟩
      have HB3 := Aside0.mk (HB2.out.trans (hb.mono HB2.out.size))
      have KA3 := Aside0.mk (vb_below KA2.out hb)
      have KB3 := Aside0.mk (vb_below KB2.out hb)
      clear hb x0 x1 x2 x3 y0 y1 y2 y3
      obtain ⟨x0, x1, x2, x3⟩ := vb_cells KA3.out
      obtain ⟨y0, y1, y2, y3⟩ := vb_cells KB3.out

      have h1 := H.out
      clear H HV HB2 KA2 KB2
      by_cases c3 : v = true
      · subst c3
        rw [if_pos rfl] at h1
        by_cases c4 : l2.length > 20
        · rw [if_pos c4] at h1
          cases h1
          have p1 : decide ((l2.length : Int) > 20) = true := decide_eq_true (by omega)
          have p2 : decide (20 < l2.length) = true := decide_eq_true c4
          clear c4
          go_wp2
          go_ret
          exact ⟨rfl, HB3.out⟩
        · rw [if_neg c4] at h1
          obtain ⟨⟨ql, qb⟩, hq, h2⟩ := Option.bind_eq_some_iff.1 h1
          have p1 : decide ((l2.length : Int) > 20) = false := decide_eq_false (by omega)
          have p2 : decide (20 < l2.length) = false := decide_eq_false c4
          have p3 : (l2.length : Int) ≤ 20 := by omega
          have HQ := Aside0.mk hq
          have H := Aside0.mk h2
          clear c4 hq h1 h2
          go_wp2_with fail
          refine (codec_Fields.calls k a0_0 a0_1 A0_2 c0_2 l0_2 (fun k_ => k_ < w.heap.size) A0_3 c0_3 l0_3 A2 c2 l2 ql qb w3 (Kd.C_below R02.out HB3.out) L02.out (Kd.V_mk L03.out (F_old2 (Kd.C_F k43_heap R03.out) HB3.out)) (Kd.C_below R2.out HB3.out) L2.out HQ.out).mono ?_
          rintro e w4 ⟨v0, rfl, hV, hb⟩
          obtain ⟨AQ, cQ, rfl⟩ := Kd.V_slice hV
          have VQ := Aside0.mk hV
          clear hV
          have HB4 := Aside0.mk (HB3.out.trans (hb.mono HB3.out.size))
          have KA4 := Aside0.mk (vb_below KA3.out hb)
          have KB4 := Aside0.mk (vb_below KB3.out hb)
          clear hb x0 x1 x2 x3 y0 y1 y2 y3
          obtain ⟨x0, x1, x2, x3⟩ := vb_cells KA4.out
          obtain ⟨y0, y1, y2, y3⟩ := vb_cells KB4.out

          have h1 := H.out
          clear H HQ HB3 KA3 KB3
          go_upto_region 6 with (fail)
          go_cut [9] (fun v9 wc => v9 = .bool (decide (a0_0 = 3) && decide (l0_3.length = l2.length)) ∧ wc = w4)
          case first =>
            by_cases e3 : a0_0 = 3
            · have q1 : (a0_0 == 3) = true := beq_iff_eq.2 e3
              by_cases e4 : l0_3.length = l2.length
              · have q2 : ((l0_3.length : Int) == (l2.length : Int)) = true := beq_iff_eq.2 (by omega)
                have q3 := Aside0.mk (show (decide (a0_0 = 3) && decide (l0_3.length = l2.length)) = true by simp [e3, e4])
                clear e3 e4
                go_wp2
                go_meet
                case rel => exact ⟨by rw [q3.out], rfl⟩
              · have q2 : ((l0_3.length : Int) == (l2.length : Int)) = false := beq_eq_false_iff_ne.2 (by omega)
                have q3 := Aside0.mk (show (decide (a0_0 = 3) && decide (l0_3.length = l2.length)) = false by simp [e3, e4])
                clear e3 e4
                go_wp2
                go_meet
                case rel => exact ⟨by rw [q3.out], rfl⟩
            · have q1 : (a0_0 == 3) = false := beq_eq_false_iff_ne.2 e3
              have q3 := Aside0.mk (show (decide (a0_0 = 3) && decide (l0_3.length = l2.length)) = false by simp [e3])
              clear e3
              go_wp2
              go_meet
              case rel => exact ⟨by rw [q3.out], rfl⟩
          case rest =>
            obtain ⟨rfl, rfl⟩ := hcut
            go_upto_block 0 with (fail)
            go_cut [9] (fun v9 wc => v9 = .bool (wantB a0_0 l0_3 l2) ∧ Aside0 (Below w.heap.size w wc) ∧ Aside0 (VB w.heap.size wc (.int .i64 a0_0) (.int .i64 a0_1) (.slice A0_2 l0_2.length c0_2) (.slice A0_3 l0_3.length c0_3)) ∧ Aside0 (VB (w.heap.size + 1) wc (.int .i64 a1_0) (.int .i64 a1_1) (.slice A1_2 l1_2.length c1_2) (.slice A1_3 l1_3.length c1_3)) ∧ Aside0 (Kd.V k43 43 wc w.heap.size (fun k_ => k_ < w.heap.size ∨ w3.heap.size ≤ k_) (.slice AQ ql.length cQ) ql))
            case first =>
              go_wp2
              go_loopg [9, 10] l2.length (fun g v9 v10 wr => ∃ (i : Nat) (wi : Bool), g + i = l2.length ∧ v9 = .bool wi ∧ v10 = .int .i64 i ∧ Aside0 ((wi && kindsB (l0_3.drop i) (l2.drop i)) = wantB a0_0 l0_3 l2) ∧ Aside0 (wi = true → l0_3.length = l2.length) ∧ Aside0 (Below w.heap.size w wr) ∧ Aside0 (VB w.heap.size wr (.int .i64 a0_0) (.int .i64 a0_1) (.slice A0_2 l0_2.length c0_2) (.slice A0_3 l0_3.length c0_3)) ∧ Aside0 (VB (w.heap.size + 1) wr (.int .i64 a1_0) (.int .i64 a1_1) (.slice A1_2 l1_2.length c1_2) (.slice A1_3 l1_3.length c1_3)) ∧ Aside0 (Kd.V k43 43 wr w.heap.size (fun k_ => k_ < w.heap.size ∨ w3.heap.size ≤ k_) (.slice AQ ql.length cQ) ql))
              case atStart => exact ⟨0, _, by omega, rfl, rfl, ⟨rfl⟩, ⟨fun h => by simp at h; exact h.2⟩, HB4, KA4, KB4, VQ⟩
              case round =>
                obtain ⟨i, wi, hi, rfl, rfl, WANT, LEN, HBr, KAr, KBr, VQr⟩ := hrel
                clear x0 x1 x2 x3 y0 y1 y2 y3
                obtain ⟨x0, x1, x2, x3⟩ := vb_cells KAr.out
                have HI := Aside0.mk hi
                clear hi
                cases wi with
                | false =>
                  go_wp2
                  go_meet
                  case rel => exact ⟨by rw [← WANT.out]; rfl, HBr, KAr, KBr, VQr⟩
                | true =>
                  by_cases hlt : i < l2.length
                  · have l3 := LEN.out rfl
                    have hlt3 : (i : Int) < (l0_3.length : Int) := by omega
                    have hlt2 : (i : Int) < (l2.length : Int) := by omega
                    have h0i : (0 : Int) ≤ (i : Int) := Int.natCast_nonneg i
                    obtain ⟨ad, E2, f2, E3, f3, rfl, hx0, _⟩ := at_T43 (Kd.C_below R03.out HBr.out) (i : Int) h0i (by omega)
                    obtain ⟨ak, rfl, hk0⟩ := Kd.at_int (Kd.C_below R2.out HBr.out) (i : Int) h0i (by omega)
                    rw [Int.toNat_natCast] at hx0 hk0
                    have HLT := Aside0.mk hlt
                    have LL := Aside0.mk l3
                    have WN := Aside0.mk (show (((rd_T43 l0_3 (i : Int)).f0 == rd l2 (i : Int)) && kindsB (l0_3.drop (i + 1)) (l2.drop (i + 1))) = wantB a0_0 l0_3 l2 by rw [← WANT.out, kinds_step l0_3 l2 i (by omega) hlt]; rfl)
                    clear l3 hlt WANT
                    go_upto_region 10 with (fail)
                    go_quiet (fail)
                    go_wp2
                    go_roundg (l2.length - (i + 1))
                    case measure => have := HLT.out; have := HI.out; omega
                    case rel => exact ⟨i + 1, _, by have := HLT.out; omega, rfl, by go_num, WN, ⟨fun _ => LL.out⟩, ⟨pw_below_drewN HBr.out _⟩, ⟨vb_drewN KAr.out _⟩, ⟨vb_drewN KBr.out _⟩, ⟨Kd.V_drewN VQr.out _⟩⟩
                  · have q1 : decide ((i : Int) < (l2.length : Int)) = false := decide_eq_false (by omega)
                    have q2 : decide (i < l2.length) = false := decide_eq_false hlt
                    have hie : i = l2.length := by have := HI.out; omega
                    have WN := Aside0.mk (show true = wantB a0_0 l0_3 l2 by rw [← WANT.out, hie, List.drop_of_length_le (Nat.le_refl _)]; cases l0_3.drop l2.length <;> rfl)
                    clear hie hlt WANT
                    go_wp2
                    go_meet
                    case rel => exact ⟨by rw [← WN.out], HBr, KAr, KBr, VQr⟩
            case rest =>
              obtain ⟨rfl, HB5, KA5, KB5, VQ5⟩ := hcut
              clear x0 x1 x2 x3 y0 y1 y2 y3 HB4 KA4 KB4 VQ
              obtain ⟨x0, x1, x2, x3⟩ := vb_cells KA5.out
              obtain ⟨y0, y1, y2, y3⟩ := vb_cells KB5.out
              have FF := Aside0.mk (show FS w (.int .i64 a0_0) (.int .i64 a0_1) (.slice A0_2 l0_2.length c0_2) (.slice A0_3 l0_3.length c0_3) (.int .i64 a1_0) (.int .i64 a1_1) (.slice A1_2 l1_2.length c1_2) (.slice A1_3 l1_3.length c1_3) (fun k_ => k_ < w.heap.size ∨ w3.heap.size ≤ k_) (.slice AQ ql.length cQ) ql _ from ⟨HB5.out, KA5.out, KB5.out, VQ5.out⟩)
              clear HB5 KA5 KB5 VQ5 x0 x1 x2 x3 y0 y1 y2 y3
              go_upto_region 11 with (fail)
              generalize wantB a0_0 l0_3 l2 = wt at *
              go_cut [89] (fun v89 wc => v89 = .bool false ∧ Aside0 (FS w (.int .i64 a0_0) (.int .i64 a0_1) (.slice A0_2 l0_2.length c0_2) (.slice A0_3 l0_3.length c0_3) (.int .i64 a1_0) (.int .i64 a1_1) (.slice A1_2 l1_2.length c1_2) (.slice A1_3 l1_3.length c1_3) (fun k_ => k_ < w.heap.size ∨ w3.heap.size ≤ k_) (.slice AQ ql.length cQ) ql wc) ∧ Aside0 (REST1 k a0_0 a0_1 l0_2 l0_3 a1_0 a1_1 l1_2 l1_3 = some r))
              case first =>
                by_cases d1 : qb = wt
                · rw [if_pos d1] at h1
                  subst d1
                  obtain ⟨s, hs, h2⟩ := Option.bind_eq_some_iff.1 h1
                  by_cases d2 : s = true
                  · subst d2
                    rw [if_pos rfl] at h2
                    have H2 := Aside0.mk (show REST1 k a0_0 a0_1 l0_2 l0_3 a1_0 a1_1 l1_2 l1_3 = some r from h2)
                    have HS := Aside0.mk hs
                    clear h1 h2 hs
                    cases qb with
                    | true =>
                      have hs := HS.out
                      rw [if_pos rfl] at hs
                      have HS1 := Aside0.mk hs
                      clear hs HS
                      have FN := Aside0.mk FF.out.drew
                      clear FF
                      have FF := FN
                      clear FN
                      refine start_ (n := 24) (S := fun w' => w'.cell? ⟨w.heap.size, 3, none⟩ = some (.slice A0_3 l0_3.length c0_3)) (ds := []) #[false, false, false, false, false, false, false, false, false, false, false, false, false, false, false, false, false, false, false, false, false, false, false, false] (by kernel_rfl) rfl rfl (FF.out.cells.1.2.2.2) (fun hHeld => ?_)
                      refine with_tabW bastillelaw02_CodecFields.tab11 bastillelaw02_CodecFields.bits11 (fun HT_ HW_ => ?_)
                      generalize wc.drew = wd at FF hHeld ⊢
                      refine pure_ (i := 0) (N := some 66) (v := ?_) (a' := ?_) #[true, false, false, false, false, false, false, false, false, false, false, false, false, false, false, false, false, false, false, false, false, false, false, false] rfl rfl (any_of HT_.out (by kernel_rfl)) (fun _ _ _ h => h) (Or.inl ⟨by rfl, ?_⟩) ?_ ?_
                      rotate_left
                      · intro w'
                        go_simp
                        with_reducible rfl
                      rotate_left
                      · simp only [Act.put, List.setIfInBounds_toArray, List.set_cons_zero, List.set_cons_succ, i64_w, i32_w]
                        rfl
                      refine pure_ (i := 1) (N := some 67) (v := ?_) (a' := ?_) #[true, true, false, false, false, false, false, false, false, false, false, false, false, false, false, false, false, false, false, false, false, false, false, false] rfl rfl (any_of HT_.out (by kernel_rfl)) (fun _ _ _ h => h) (Or.inl ⟨by rfl, ?_⟩) ?_ ?_
                      rotate_left
                      · intro w'
                        go_simp
                        with_reducible rfl
                      rotate_left
                      · simp only [Act.put, List.setIfInBounds_toArray, List.set_cons_zero, List.set_cons_succ, i64_w, i32_w]
                        rfl
                      refine pure_ (i := 2) (N := some 68) (v := ?_) (a' := ?_) #[true, true, true, false, false, false, false, false, false, false, false, false, false, false, false, false, false, false, false, false, false, false, false, false] rfl rfl (any_of HT_.out (by kernel_rfl)) (fun _ _ _ h => h) (Or.inl ⟨by rfl, ?_⟩) ?_ ?_
                      rotate_left
                      · intro w'
                        go_simp
                        with_reducible rfl
                      rotate_left
                      · simp only [Act.put, List.setIfInBounds_toArray, List.set_cons_zero, List.set_cons_succ, i64_w, i32_w]
                        rfl
                      refine pure_ (i := 3) (N := some 69) (v := ?_) (a' := ?_) #[true, true, true, true, false, false, false, false, false, false, false, false, false, false, false, false, false, false, false, false, false, false, false, false] rfl rfl (any_of HT_.out (by kernel_rfl)) (fun _ _ _ h => h) (Or.inl ⟨by rfl, ?_⟩) ?_ ?_
                      rotate_left
                      · intro w'
                        go_simp
                        with_reducible rfl
                      rotate_left
                      · simp only [Act.put, List.setIfInBounds_toArray, List.set_cons_zero, List.set_cons_succ, i64_w, i32_w]
                        rfl
                      refine pure_ (i := 4) (N := some 70) (v := ?_) (a' := ?_) #[true, true, true, true, true, false, false, false, false, false, false, false, false, false, false, false, false, false, false, false, false, false, false, false] rfl rfl (any_of HT_.out (by kernel_rfl)) (fun _ _ _ h => h) (Or.inl ⟨by rfl, ?_⟩) ?_ ?_
                      rotate_left
                      · intro w'
                        go_simp
                        with_reducible rfl
                      rotate_left
                      · simp only [Act.put, List.setIfInBounds_toArray, List.set_cons_zero, List.set_cons_succ, i64_w, i32_w]
                        rfl
                      refine pure_ (i := 5) (N := some 71) (v := ?_) (a' := ?_) #[true, true, true, true, true, true, false, false, false, false, false, false, false, false, false, false, false, false, false, false, false, false, false, false] rfl rfl (any_of HT_.out (by kernel_rfl)) (fun _ _ _ h => h) (Or.inl ⟨by rfl, ?_⟩) ?_ ?_
                      rotate_left
                      · intro w'
                        go_simp
                        with_reducible rfl
                      rotate_left
                      · simp only [Act.put, List.setIfInBounds_toArray, List.set_cons_zero, List.set_cons_succ, i64_w, i32_w]
                        rfl
                      refine pure_ (i := 6) (N := some 72) (v := ?_) (a' := ?_) #[true, true, true, true, true, true, true, false, false, false, false, false, false, false, false, false, false, false, false, false, false, false, false, false] rfl rfl (any_of HT_.out (by kernel_rfl)) (fun _ _ _ h => h) (Or.inl ⟨by rfl, ?_⟩) ?_ ?_
                      rotate_left
                      · intro w'
                        go_simp
                        with_reducible rfl
                      rotate_left
                      · simp only [Act.put, List.setIfInBounds_toArray, List.set_cons_zero, List.set_cons_succ, i64_w, i32_w]
                        rfl
                      refine pure_ (i := 8) (N := some 74) (v := ?_) (a' := ?_) #[true, true, true, true, true, true, true, false, true, false, false, false, false, false, false, false, false, false, false, false, false, false, false, false] rfl rfl (any_of HT_.out (by kernel_rfl)) (fun _ _ _ h => h) (Or.inl ⟨by rfl, ?_⟩) ?_ ?_
                      rotate_left
                      · intro w'
                        go_simp
                        with_reducible rfl
                      rotate_left
                      · simp only [Act.put, List.setIfInBounds_toArray, List.set_cons_zero, List.set_cons_succ, i64_w, i32_w]
                        rfl
                      refine take_ (i := 9) (N := some 75) (v := ?_) (a' := ?_) #[true, true, true, true, true, true, true, false, true, true, false, false, false, false, false, false, false, false, false, false, false, false, false, false] rfl rfl (take_ofW HT_.out HW_.out (by kernel_rfl)) (fun _ _ _ h => h) (Or.inl ⟨by rfl, ?_⟩) hHeld ?_ ?_
                      rotate_left
                      · intro w' s0
                        go_simp
                        with_reducible rfl
                      rotate_left
                      · simp only [Act.put, List.setIfInBounds_toArray, List.set_cons_zero, List.set_cons_succ, i64_w, i32_w]
                        rfl
                      refine one_ (i := 7) (N := some 73) #[true, true, true, true, true, true, true, true, true, true, false, false, false, false, false, false, false, false, false, false, false, false, false, false] rfl rfl (one_of HT_.out (by kernel_rfl)) (by decide) (fun K hK => ?_)
                      refine goes_ Try.func29 (by kernel_rfl) rfl #[.slice AQ ql.length cQ] (by rfl) rfl rfl (by simp only [List.map_toArray, List.map_cons, List.map_nil]; rfl) ?_
                      with_reducible refine (of_any _ _ _ _).mono ?_
                      rintro e wn ⟨rfl, hb⟩
                      refine ⟨_, rfl, ?_⟩
                      have FN_ := Aside0.mk (FF.out.step hb)
                      clear FF hb
                      have FF := FN_
                      clear FN_
                      refine hK.out _ _ (FF.out.cells.1.2.2.2) (fun hHeld => ?_)
                      clear hK K
                      refine norm_ (a' := ?_) ?_ ?_
                      rotate_left
                      · show Act.put _ (some 73) _ = _
                        simp only [Act.put, List.setIfInBounds_toArray, List.set_cons_zero, List.set_cons_succ, i64_w, i32_w]
                        rfl
                      refine one_ (i := 10) (N := some 76) #[true, true, true, true, true, true, true, true, true, true, true, false, false, false, false, false, false, false, false, false, false, false, false, false] rfl rfl (one_of HT_.out (by kernel_rfl)) (by decide) (fun K hK => ?_)
                      refine goes_ Try.func29 (by kernel_rfl) rfl #[.slice A0_3 l0_3.length c0_3] (by rfl) rfl rfl (by simp only [List.map_toArray, List.map_cons, List.map_nil]; rfl) ?_
                      with_reducible refine (of_any _ _ _ _).mono ?_
                      rintro e wn ⟨rfl, hb⟩
                      refine ⟨_, rfl, ?_⟩
                      have FN_ := Aside0.mk (FF.out.step hb)
                      clear FF hb
                      have FF := FN_
                      clear FN_
                      refine hK.out _ _ (FF.out.cells.1.2.2.2) (fun hHeld => ?_)
                      clear hK K
                      refine norm_ (a' := ?_) ?_ ?_
                      rotate_left
                      · show Act.put _ (some 76) _ = _
                        simp only [Act.put, List.setIfInBounds_toArray, List.set_cons_zero, List.set_cons_succ, i64_w, i32_w]
                        rfl
                      refine one_ (i := 11) (N := some 77) #[true, true, true, true, true, true, true, true, true, true, true, true, false, false, false, false, false, false, false, false, false, false, false, false] rfl rfl (one_of HT_.out (by kernel_rfl)) (by decide) (fun K hK => ?_)
                      refine goes_ Try.func28 (by kernel_rfl) rfl #[.agg #[.int .i64 3, .int .i64 0, .slice none 0 0, .slice AQ ql.length cQ], .agg #[.int .i64 3, .int .i64 0, .slice none 0 0, .slice A0_3 l0_3.length c0_3]] (by rfl) rfl rfl (by simp only [List.map_toArray, List.map_cons, List.map_nil]; rfl) ?_
                      with_reducible refine (rsame3 k AQ cQ ql A0_3 c0_3 l0_3 true _ (Kd.V_reads' FF.out.q).2.2 (Kd.V_reads' FF.out.q).2.1 (Kd.C_below R03.out FF.out.hb) L03.out HS1.out).mono ?_
                      rintro e wn ⟨rfl, hb⟩
                      refine ⟨_, rfl, ?_⟩
                      have FN_ := Aside0.mk (FF.out.step hb)
                      clear FF hb
                      have FF := FN_
                      clear FN_
                      refine hK.out _ _ (FF.out.cells.1.2.2.2) (fun hHeld => ?_)
                      clear hK K
                      refine norm_ (a' := ?_) ?_ ?_
                      rotate_left
                      · show Act.put _ (some 77) _ = _
                        simp only [Act.put, List.setIfInBounds_toArray, List.set_cons_zero, List.set_cons_succ, i64_w, i32_w]
                        rfl
                      refine pure_ (i := 12) (N := some 78) (v := ?_) (a' := ?_) #[true, true, true, true, true, true, true, true, true, true, true, true, true, false, false, false, false, false, false, false, false, false, false, false] rfl rfl (any_of HT_.out (by kernel_rfl)) (fun _ _ _ h => h) (Or.inl ⟨by rfl, ?_⟩) ?_ ?_
                      rotate_left
                      · intro w'
                        go_simp
                        with_reducible rfl
                      rotate_left
                      · simp only [Act.put, List.setIfInBounds_toArray, List.set_cons_zero, List.set_cons_succ, i64_w, i32_w]
                        rfl
                      refine pure_ (i := 13) (N := some 79) (v := ?_) (a' := ?_) #[true, true, true, true, true, true, true, true, true, true, true, true, true, true, false, false, false, false, false, false, false, false, false, false] rfl rfl (any_of HT_.out (by kernel_rfl)) (fun _ _ _ h => h) (Or.inl ⟨by rfl, ?_⟩) ?_ ?_
                      rotate_left
                      · intro w'
                        go_simp
                        with_reducible rfl
                      rotate_left
                      · simp only [Act.put, List.setIfInBounds_toArray, List.set_cons_zero, List.set_cons_succ, i64_w, i32_w]
                        rfl
                      refine pure_ (i := 14) (N := some 80) (v := ?_) (a' := ?_) #[true, true, true, true, true, true, true, true, true, true, true, true, true, true, true, false, false, false, false, false, false, false, false, false] rfl rfl (any_of HT_.out (by kernel_rfl)) (fun _ _ _ h => h) (Or.inl ⟨by rfl, ?_⟩) ?_ ?_
                      rotate_left
                      · intro w'
                        go_simp
                        with_reducible rfl
                      rotate_left
                      · simp only [Act.put, List.setIfInBounds_toArray, List.set_cons_zero, List.set_cons_succ, i64_w, i32_w]
                        rfl
                      refine pure_ (i := 15) (N := some 81) (v := ?_) (a' := ?_) #[true, true, true, true, true, true, true, true, true, true, true, true, true, true, true, true, false, false, false, false, false, false, false, false] rfl rfl (any_of HT_.out (by kernel_rfl)) (fun _ _ _ h => h) (Or.inl ⟨by rfl, ?_⟩) ?_ ?_
                      rotate_left
                      · intro w'
                        go_simp
                        with_reducible rfl
                      rotate_left
                      · simp only [Act.put, List.setIfInBounds_toArray, List.set_cons_zero, List.set_cons_succ, i64_w, i32_w]
                        rfl
                      refine pure_ (i := 16) (N := some 82) (v := ?_) (a' := ?_) #[true, true, true, true, true, true, true, true, true, true, true, true, true, true, true, true, true, false, false, false, false, false, false, false] rfl rfl (any_of HT_.out (by kernel_rfl)) (fun _ _ _ h => h) (Or.inl ⟨by rfl, ?_⟩) ?_ ?_
                      rotate_left
                      · intro w'
                        go_simp
                        with_reducible rfl
                      rotate_left
                      · simp only [Act.put, List.setIfInBounds_toArray, List.set_cons_zero, List.set_cons_succ, i64_w, i32_w]
                        rfl
                      refine pure_ (i := 17) (N := some 83) (v := ?_) (a' := ?_) #[true, true, true, true, true, true, true, true, true, true, true, true, true, true, true, true, true, true, false, false, false, false, false, false] rfl rfl (any_of HT_.out (by kernel_rfl)) (fun _ _ _ h => h) (Or.inl ⟨by rfl, ?_⟩) ?_ ?_
                      rotate_left
                      · intro w'
                        go_simp
                        with_reducible rfl
                      rotate_left
                      · simp only [Act.put, List.setIfInBounds_toArray, List.set_cons_zero, List.set_cons_succ, i64_w, i32_w]
                        rfl
                      refine pure_ (i := 18) (N := some 84) (v := ?_) (a' := ?_) #[true, true, true, true, true, true, true, true, true, true, true, true, true, true, true, true, true, true, true, false, false, false, false, false] rfl rfl (any_of HT_.out (by kernel_rfl)) (fun _ _ _ h => h) (Or.inl ⟨by rfl, ?_⟩) ?_ ?_
                      rotate_left
                      · intro w'
                        go_simp
                        with_reducible rfl
                      rotate_left
                      · simp only [Act.put, List.setIfInBounds_toArray, List.set_cons_zero, List.set_cons_succ, i64_w, i32_w]
                        rfl
                      refine pure_ (i := 19) (N := some 85) (v := undef) (a' := ?_) #[true, true, true, true, true, true, true, true, true, true, true, true, true, true, true, true, true, true, true, true, false, false, false, false] rfl rfl (any_of HT_.out (by kernel_rfl)) (fun _ _ _ h => h) (Or.inr ⟨by rfl, rfl⟩) ?_ ?_
                      rotate_left
                      · simp only [Act.put, List.setIfInBounds_toArray, List.set_cons_zero, List.set_cons_succ, i64_w, i32_w]
                        rfl
                      refine pure_ (i := 20) (N := some 86) (v := undef) (a' := ?_) #[true, true, true, true, true, true, true, true, true, true, true, true, true, true, true, true, true, true, true, true, true, false, false, false] rfl rfl (any_of HT_.out (by kernel_rfl)) (fun _ _ _ h => h) (Or.inr ⟨by rfl, rfl⟩) ?_ ?_
                      rotate_left
                      · simp only [Act.put, List.setIfInBounds_toArray, List.set_cons_zero, List.set_cons_succ, i64_w, i32_w]
                        rfl
                      refine pure_ (i := 21) (N := some 87) (v := undef) (a' := ?_) #[true, true, true, true, true, true, true, true, true, true, true, true, true, true, true, true, true, true, true, true, true, true, false, false] rfl rfl (any_of HT_.out (by kernel_rfl)) (fun _ _ _ h => h) (Or.inr ⟨by rfl, rfl⟩) ?_ ?_
                      rotate_left
                      · simp only [Act.put, List.setIfInBounds_toArray, List.set_cons_zero, List.set_cons_succ, i64_w, i32_w]
                        rfl
                      refine pure_ (i := 22) (N := some 88) (v := ?_) (a' := ?_) #[true, true, true, true, true, true, true, true, true, true, true, true, true, true, true, true, true, true, true, true, true, true, true, false] rfl rfl (any_of HT_.out (by kernel_rfl)) (fun _ _ _ h => h) (Or.inl ⟨by rfl, ?_⟩) ?_ ?_
                      rotate_left
                      · intro w'
                        go_simp
                        with_reducible rfl
                      rotate_left
                      · simp only [Act.put, List.setIfInBounds_toArray, List.set_cons_zero, List.set_cons_succ, i64_w, i32_w]
                        rfl
                      refine pure_ (i := 23) (N := some 89) (v := ?_) (a' := ?_) #[true, true, true, true, true, true, true, true, true, true, true, true, true, true, true, true, true, true, true, true, true, true, true, true] rfl rfl (any_of HT_.out (by kernel_rfl)) (fun _ _ _ h => h) (Or.inl ⟨by rfl, ?_⟩) ?_ ?_
                      rotate_left
                      · intro w'
                        go_simp
                        with_reducible rfl
                      rotate_left
                      · simp only [Act.put, List.setIfInBounds_toArray, List.set_cons_zero, List.set_cons_succ, i64_w, i32_w]
                        rfl
                      refine done_ (done_of HT_.out (by kernel_rfl)) ?_
                      go_wp2
                      go_meet
                      case rel => exact ⟨rfl, FF, H2⟩
                    | false =>
                      have hs := HS.out
                      rw [if_neg (by decide)] at hs
                      have q1 : ql.length = 0 := by simpa using hs
                      have q2 : decide ((ql.length : Int) > 0) = false := decide_eq_false (by omega)
                      have q3 : decide (0 < ql.length) = false := decide_eq_false (by omega)
                      clear hs HS q1
                      go_quiet (fail)
                      go_wp2
                      go_meet
                      case rel => exact ⟨rfl, ⟨FF.out.step (pw_below_drewN (Below.refl _ _) _)⟩, H2⟩
                  · rw [if_neg d2] at h2
                    cases h2
                · rw [if_neg d1] at h1
                  cases h1
              case rest =>
                obtain ⟨rfl, FF, H6⟩ := hcut
                have FN := Aside0.mk FF.out.drew
                clear FF
                have FF := FN
                clear FN
                go_upto_region 13 with (fail)
                refine start_ (n := 16) (S := fun w' => True) (ds := []) #[false, false, false, false, false, false, false, false, false, false, false, false, false, false, false, false] (by kernel_rfl) rfl rfl trivial (fun hHeld => ?_)
                refine with_tabW bastillelaw02_CodecFields.tab13 bastillelaw02_CodecFields.bits13 (fun HT_ HW_ => ?_)
                generalize wc.drew = wd at FF ⊢
                have HZ1 := Aside0.mk (show w.heap.size + 2 ≤ wd.heap.size from by have := blk_lt FF.out.kb; omega)
                have FB_ := Aside0.mk FF.out.bound
                have HZ := Aside0.mk (Nat.le_refl wd.heap.size)
                have LT8 := Aside0.mk (show 0 < wd.heap.size by have := blk_lt FF.out.ka; omega)
                have LT10 := LT8
                have LT11 := LT8
                have LT12 := LT8
                clear FF
                obtain ⟨hz, hzz⟩ : ∃ q, q = wd.heap.size := ⟨_, rfl⟩
                have FF : Aside0 (FS w (.int .i64 a0_0) (.int .i64 a0_1) (.slice A0_2 l0_2.length c0_2) (.slice A0_3 l0_3.length c0_3) (.int .i64 a1_0) (.int .i64 a1_1) (.slice A1_2 l1_2.length c1_2) (.slice A1_3 l1_3.length c1_3) (fun k_ => k_ < hz) (.slice AQ ql.length cQ) ql wd) := by rw [hzz]; exact FB_
                rw [← hzz] at HZ1
                have HZ2 : Aside0 (hz ≤ wd.heap.size) := by rw [hzz]; exact HZ
                clear HZ hzz FB_
                have HZ := HZ2
                clear HZ2
                refine pure_ (i := 0) (N := some 90) (v := ?_) (a' := ?_) #[true, false, false, false, false, false, false, false, false, false, false, false, false, false, false, false] rfl rfl (any_of HT_.out (by kernel_rfl)) (fun _ _ _ h => h) (Or.inl ⟨by rfl, ?_⟩) ?_ ?_
                rotate_left
                · intro w'
                  go_simp
                  with_reducible rfl
                rotate_left
                · simp only [Act.put, List.setIfInBounds_toArray, List.set_cons_zero, List.set_cons_succ, i64_w, i32_w]
                  rfl
                refine pure_ (i := 3) (N := some 93) (v := ?_) (a' := ?_) #[true, false, false, true, false, false, false, false, false, false, false, false, false, false, false, false] rfl rfl (any_of HT_.out (by kernel_rfl)) (fun _ _ _ h => h) (Or.inl ⟨by rfl, ?_⟩) ?_ ?_
                rotate_left
                · intro w'
                  go_simp
                  with_reducible rfl
                rotate_left
                · simp only [Act.put, List.setIfInBounds_toArray, List.set_cons_zero, List.set_cons_succ, i64_w, i32_w]
                  rfl
                refine inv_at [1, 2, 4, 5, 6, 7, 8, 9, 10, 11, 12, 13, 14, 15] (fun a0_ b a w' => ∃ (g8_ : Nat) (g10_ : Nat) (g11_ : Nat) (g12_ : Nat) (m8_ : Value) (m9_ : Value) (m10_ : Value) (m11_ : Value) (m12_ : Value), a = putSel a0_ b [(1, 91, .int .i64 a1_1), (2, 92, .agg #[.int .i64 1, .int .i64 a1_1, .slice none 0 0, .slice none 0 0]), (4, 94, .slice A1_2 l1_2.length c1_2), (5, 95, .agg #[.int .i64 2, .int .i64 0, .slice A1_2 l1_2.length c1_2, .slice none 0 0]), (6, 96, .agg #[.int .i64 a0_0, .int .i64 a0_1, .slice A0_2 l0_2.length c0_2, .slice A0_3 l0_3.length c0_3]), (7, 97, .agg #[.int .i64 a1_0, .int .i64 a1_1, .slice A1_2 l1_2.length c1_2, .slice A1_3 l1_3.length c1_3]), (8, 98, m8_), (9, 99, m9_), (10, 11, m10_), (11, 12, m11_), (12, 13, m12_)] ∧ (FS w (.int .i64 a0_0) (.int .i64 a0_1) (.slice A0_2 l0_2.length c0_2) (.slice A0_3 l0_3.length c0_3) (.int .i64 a1_0) (.int .i64 a1_1) (.slice A1_2 l1_2.length c1_2) (.slice A1_3 l1_3.length c1_3) (fun k_ => k_ < hz) (.slice AQ ql.length cQ) ql w') ∧ (hz ≤ w'.heap.size) ∧ (g8_ < w'.heap.size) ∧ (g10_ < w'.heap.size) ∧ (g11_ < w'.heap.size) ∧ (g12_ < w'.heap.size) ∧ (b 8 = true → w'.heap[g8_]? = some (.cells #[.int .i64 a0_0, .int .i64 a0_1, .slice A0_2 l0_2.length c0_2, .slice A0_3 l0_3.length c0_3, .int .i64 a1_0, .int .i64 a1_1, .slice A1_2 l1_2.length c1_2, .slice A1_3 l1_3.length c1_3] 43 (0, 0)) ∧ hz ≤ g8_) ∧ (b 10 = true → hz ≤ g10_) ∧ (b 10 = true → b 13 = false → VB g10_ w' (.int .i64 0) (.int .i64 0) (.slice none 0 0) (.slice none 0 0)) ∧ (b 13 = true → VB g10_ w' (.int .i64 1) (.int .i64 a1_1) (.slice none 0 0) (.slice none 0 0)) ∧ (b 11 = true → hz ≤ g11_) ∧ (b 11 = true → b 14 = false → VB g11_ w' (.int .i64 0) (.int .i64 0) (.slice none 0 0) (.slice none 0 0)) ∧ (b 14 = true → VB g11_ w' (.int .i64 2) (.int .i64 0) (.slice A1_2 l1_2.length c1_2) (.slice none 0 0)) ∧ (b 12 = true → hz ≤ g12_) ∧ (b 12 = true → b 15 = false → VB g12_ w' (.int .i64 0) (.int .i64 0) (.slice none 0 0) (.slice none 0 0)) ∧ (b 15 = true → VB g12_ w' (.int .i64 3) (.int .i64 0) (.slice none 0 0) (.slice (some ⟨g8_, 0, none⟩) 2 2)) ∧ (b 8 = true → b 10 = true → g8_ ≠ g10_) ∧ (b 8 = true → b 11 = true → g8_ ≠ g11_) ∧ (b 8 = true → b 12 = true → g8_ ≠ g12_) ∧ (b 10 = true → b 11 = true → g10_ ≠ g11_) ∧ (b 10 = true → b 12 = true → g10_ ≠ g12_) ∧ (b 11 = true → b 12 = true → g11_ ≠ g12_) ∧ (b 8 = true → (m8_ : Value) = .slice (some ⟨g8_, 0, none⟩) 2 2) ∧ (b 9 = true → (m9_ : Value) = .agg #[.int .i64 3, .int .i64 0, .slice none 0 0, .slice (some ⟨g8_, 0, none⟩) 2 2]) ∧ (b 10 = true → (m10_ : Value) = .pointer (some ⟨g10_, 0, none⟩)) ∧ (b 11 = true → (m11_ : Value) = .pointer (some ⟨g11_, 0, none⟩)) ∧ (b 12 = true → (m12_ : Value) = .pointer (some ⟨g12_, 0, none⟩))) HT_.out HW_.out (by kernel_rfl) (by kernel_rfl) ?_ ?_ ?_
                · exact ⟨0, 0, 0, 0, .bool false, .bool false, .bool false, .bool false, .bool false, by simp only [putSel, Bool.false_eq_true, if_false], FF.out, HZ.out, LT8.out, LT10.out, LT11.out, LT12.out, fun h_ => absurd h_ (by decide), fun h_ => absurd h_ (by decide), fun h_ => absurd h_ (by decide), fun h_ => absurd h_ (by decide), fun h_ => absurd h_ (by decide), fun h_ => absurd h_ (by decide), fun h_ => absurd h_ (by decide), fun h_ => absurd h_ (by decide), fun h_ => absurd h_ (by decide), fun h_ => absurd h_ (by decide), fun h_ => absurd h_ (by decide), fun h_ => absurd h_ (by decide), fun h_ => absurd h_ (by decide), fun h_ => absurd h_ (by decide), fun h_ => absurd h_ (by decide), fun h_ => absurd h_ (by decide), fun h_ => absurd h_ (by decide), fun h_ => absurd h_ (by decide), fun h_ => absurd h_ (by decide), fun h_ => absurd h_ (by decide), fun h_ => absurd h_ (by decide)⟩
                · skip
                  clear FF HZ LT10 LT11 LT12 LT8
                  refine steps_cons ?_ ?_
                  · rintro b a w' ⟨g8_, g10_, g11_, g12_, m8_, m9_, m10_, m11_, m12_, ha, Q_FF, Q_HZ, Q_LT8, Q_LT10, Q_LT11, Q_LT12, Q_K8, Q_B10, Q_Z10, Q_V10, Q_B11, Q_Z11, Q_V11, Q_B12, Q_Z12, Q_V12, Q_N8_10, Q_N8_11, Q_N8_12, Q_N10_11, Q_N10_12, Q_N11_12, Q_X8_, Q_X9_, Q_X10_, Q_X11_, Q_X12_⟩ hb_ hon hoff
                    refine ⟨_, rfl, fun K hK => ?_⟩
                    have e90 : a.tmps[90]? = some (.pointer (some ⟨w.heap.size + 1, 1, none⟩)) := by rw [ha]; exact (putSel_off rfl).trans rfl
                    replace ha := Aside0.mk ha
                    have FF := Aside0.mk Q_FF
                    have HZ := Aside0.mk Q_HZ
                    have LT8 := Aside0.mk Q_LT8
                    have LT10 := Aside0.mk Q_LT10
                    have LT11 := Aside0.mk Q_LT11
                    have LT12 := Aside0.mk Q_LT12
                    have y1 := FF.out.cells.2.2.1
                    refine value_ (w1 := w') (v := .int .i64 a1_1) (by rfl) rfl ?_ ?_
                    · go_simp
                      (try simp only [i64_w])
                      try rfl
                    refine hK.out _ _ ⟨g8_, g10_, g11_, g12_, m8_, m9_, m10_, m11_, m12_, (by rw [ha.out]; exact putSel_upk 0 hb_ rfl rfl rfl), Q_FF, Q_HZ, Q_LT8, Q_LT10, Q_LT11, Q_LT12, Q_K8, Q_B10, Q_Z10, fun h0_ => absurd ((hoff 13 (by kernel_rfl)).symm.trans h0_) (by decide), Q_B11, Q_Z11, fun h0_ => absurd ((hoff 14 (by kernel_rfl)).symm.trans h0_) (by decide), Q_B12, Q_Z12, fun h0_ => absurd ((hoff 15 (by kernel_rfl)).symm.trans h0_) (by decide), Q_N8_10, Q_N8_11, Q_N8_12, Q_N10_11, Q_N10_12, Q_N11_12, Q_X8_, fun h0_ => absurd ((hoff 9 (by kernel_rfl)).symm.trans h0_) (by decide), Q_X10_, Q_X11_, Q_X12_⟩
                  refine steps_cons ?_ ?_
                  · rintro b a w' ⟨g8_, g10_, g11_, g12_, m8_, m9_, m10_, m11_, m12_, ha, Q_FF, Q_HZ, Q_LT8, Q_LT10, Q_LT11, Q_LT12, Q_K8, Q_B10, Q_Z10, Q_V10, Q_B11, Q_Z11, Q_V11, Q_B12, Q_Z12, Q_V12, Q_N8_10, Q_N8_11, Q_N8_12, Q_N10_11, Q_N10_12, Q_N11_12, Q_X8_, Q_X9_, Q_X10_, Q_X11_, Q_X12_⟩ hb_ hon hoff
                    refine ⟨_, rfl, fun K hK => ?_⟩
                    have e91 : a.tmps[91]? = some (.int .i64 a1_1) := by rw [ha]; exact putSel_on (e := (1, 91, .int .i64 a1_1)) 0 rfl rfl (hon 1 (by kernel_rfl)) rfl
                    replace ha := Aside0.mk ha
                    have FF := Aside0.mk Q_FF
                    have HZ := Aside0.mk Q_HZ
                    have LT8 := Aside0.mk Q_LT8
                    have LT10 := Aside0.mk Q_LT10
                    have LT11 := Aside0.mk Q_LT11
                    have LT12 := Aside0.mk Q_LT12
                    refine goes_ Try.func30 (by kernel_rfl) rfl #[.int .i64 a1_1] (by rfl) rfl rfl (by first | (simp only [List.map_toArray, List.map_cons, List.map_nil, Act.eval, Array.getD_eq_getD_getElem?, Option.getD_some, e91]; done) | (simp only [List.map_toArray, List.map_cons, List.map_nil, Act.eval, Array.getD_eq_getD_getElem?, Option.getD_some, e91]; rfl)) ?_
                    with_reducible refine (num_any _ _).mono ?_
                    rintro e w1_ ⟨rfl, hb⟩
                    refine ⟨_, rfl, ?_⟩
                    refine hK.out _ _ ⟨g8_, g10_, g11_, g12_, m8_, m9_, m10_, m11_, m12_, (by rw [ha.out]; exact putSel_upk 1 hb_ rfl rfl rfl), FF.out.step hb, Nat.le_trans HZ.out hb.size, Nat.lt_of_lt_of_le LT8.out hb.size, Nat.lt_of_lt_of_le LT10.out hb.size, Nat.lt_of_lt_of_le LT11.out hb.size, Nat.lt_of_lt_of_le LT12.out hb.size, fun h0_ => ⟨(hb.block _ (blk_lt (Q_K8 h0_).1)).trans (Q_K8 h0_).1, (Q_K8 h0_).2⟩, Q_B10, fun h0_ h1_ => vb_below (Q_Z10 h0_ h1_) hb, fun h0_ => absurd ((hoff 13 (by kernel_rfl)).symm.trans h0_) (by decide), Q_B11, fun h0_ h1_ => vb_below (Q_Z11 h0_ h1_) hb, fun h0_ => absurd ((hoff 14 (by kernel_rfl)).symm.trans h0_) (by decide), Q_B12, fun h0_ h1_ => vb_below (Q_Z12 h0_ h1_) hb, fun h0_ => absurd ((hoff 15 (by kernel_rfl)).symm.trans h0_) (by decide), Q_N8_10, Q_N8_11, Q_N8_12, Q_N10_11, Q_N10_12, Q_N11_12, Q_X8_, fun h0_ => absurd ((hoff 9 (by kernel_rfl)).symm.trans h0_) (by decide), Q_X10_, Q_X11_, Q_X12_⟩
                  refine steps_cons ?_ ?_
                  · rintro b a w' ⟨g8_, g10_, g11_, g12_, m8_, m9_, m10_, m11_, m12_, ha, Q_FF, Q_HZ, Q_LT8, Q_LT10, Q_LT11, Q_LT12, Q_K8, Q_B10, Q_Z10, Q_V10, Q_B11, Q_Z11, Q_V11, Q_B12, Q_Z12, Q_V12, Q_N8_10, Q_N8_11, Q_N8_12, Q_N10_11, Q_N10_12, Q_N11_12, Q_X8_, Q_X9_, Q_X10_, Q_X11_, Q_X12_⟩ hb_ hon hoff
                    refine ⟨_, rfl, fun K hK => ?_⟩
                    have e93 : a.tmps[93]? = some (.pointer (some ⟨w.heap.size + 1, 2, none⟩)) := by rw [ha]; exact (putSel_off rfl).trans rfl
                    replace ha := Aside0.mk ha
                    have FF := Aside0.mk Q_FF
                    have HZ := Aside0.mk Q_HZ
                    have LT8 := Aside0.mk Q_LT8
                    have LT10 := Aside0.mk Q_LT10
                    have LT11 := Aside0.mk Q_LT11
                    have LT12 := Aside0.mk Q_LT12
                    have y2 := FF.out.cells.2.2.2.1
                    refine value_ (w1 := w') (v := .slice A1_2 l1_2.length c1_2) (by rfl) rfl ?_ ?_
                    · go_simp
                      (try simp only [i64_w])
                      try rfl
                    refine hK.out _ _ ⟨g8_, g10_, g11_, g12_, m8_, m9_, m10_, m11_, m12_, (by rw [ha.out]; exact putSel_upk 2 hb_ rfl rfl rfl), Q_FF, Q_HZ, Q_LT8, Q_LT10, Q_LT11, Q_LT12, Q_K8, Q_B10, Q_Z10, fun h0_ => absurd ((hoff 13 (by kernel_rfl)).symm.trans h0_) (by decide), Q_B11, Q_Z11, fun h0_ => absurd ((hoff 14 (by kernel_rfl)).symm.trans h0_) (by decide), Q_B12, Q_Z12, fun h0_ => absurd ((hoff 15 (by kernel_rfl)).symm.trans h0_) (by decide), Q_N8_10, Q_N8_11, Q_N8_12, Q_N10_11, Q_N10_12, Q_N11_12, Q_X8_, fun h0_ => absurd ((hoff 9 (by kernel_rfl)).symm.trans h0_) (by decide), Q_X10_, Q_X11_, Q_X12_⟩
                  refine steps_cons ?_ ?_
                  · rintro b a w' ⟨g8_, g10_, g11_, g12_, m8_, m9_, m10_, m11_, m12_, ha, Q_FF, Q_HZ, Q_LT8, Q_LT10, Q_LT11, Q_LT12, Q_K8, Q_B10, Q_Z10, Q_V10, Q_B11, Q_Z11, Q_V11, Q_B12, Q_Z12, Q_V12, Q_N8_10, Q_N8_11, Q_N8_12, Q_N10_11, Q_N10_12, Q_N11_12, Q_X8_, Q_X9_, Q_X10_, Q_X11_, Q_X12_⟩ hb_ hon hoff
                    refine ⟨_, rfl, fun K hK => ?_⟩
                    have e94 : a.tmps[94]? = some (.slice A1_2 l1_2.length c1_2) := by rw [ha]; exact putSel_on (e := (4, 94, .slice A1_2 l1_2.length c1_2)) 2 rfl rfl (hon 4 (by kernel_rfl)) rfl
                    replace ha := Aside0.mk ha
                    have FF := Aside0.mk Q_FF
                    have HZ := Aside0.mk Q_HZ
                    have LT8 := Aside0.mk Q_LT8
                    have LT10 := Aside0.mk Q_LT10
                    have LT11 := Aside0.mk Q_LT11
                    have LT12 := Aside0.mk Q_LT12
                    refine goes_ Try.func31 (by kernel_rfl) rfl #[.slice A1_2 l1_2.length c1_2] (by rfl) rfl rfl (by first | (simp only [List.map_toArray, List.map_cons, List.map_nil, Act.eval, Array.getD_eq_getD_getElem?, Option.getD_some, e94]; done) | (simp only [List.map_toArray, List.map_cons, List.map_nil, Act.eval, Array.getD_eq_getD_getElem?, Option.getD_some, e94]; rfl)) ?_
                    with_reducible refine (raw_any _ _ _ _).mono ?_
                    rintro e w1_ ⟨rfl, hb⟩
                    refine ⟨_, rfl, ?_⟩
                    refine hK.out _ _ ⟨g8_, g10_, g11_, g12_, m8_, m9_, m10_, m11_, m12_, (by rw [ha.out]; exact putSel_upk 3 hb_ rfl rfl rfl), FF.out.step hb, Nat.le_trans HZ.out hb.size, Nat.lt_of_lt_of_le LT8.out hb.size, Nat.lt_of_lt_of_le LT10.out hb.size, Nat.lt_of_lt_of_le LT11.out hb.size, Nat.lt_of_lt_of_le LT12.out hb.size, fun h0_ => ⟨(hb.block _ (blk_lt (Q_K8 h0_).1)).trans (Q_K8 h0_).1, (Q_K8 h0_).2⟩, Q_B10, fun h0_ h1_ => vb_below (Q_Z10 h0_ h1_) hb, fun h0_ => absurd ((hoff 13 (by kernel_rfl)).symm.trans h0_) (by decide), Q_B11, fun h0_ h1_ => vb_below (Q_Z11 h0_ h1_) hb, fun h0_ => absurd ((hoff 14 (by kernel_rfl)).symm.trans h0_) (by decide), Q_B12, fun h0_ h1_ => vb_below (Q_Z12 h0_ h1_) hb, fun h0_ => absurd ((hoff 15 (by kernel_rfl)).symm.trans h0_) (by decide), Q_N8_10, Q_N8_11, Q_N8_12, Q_N10_11, Q_N10_12, Q_N11_12, Q_X8_, fun h0_ => absurd ((hoff 9 (by kernel_rfl)).symm.trans h0_) (by decide), Q_X10_, Q_X11_, Q_X12_⟩
                  refine steps_cons ?_ ?_
                  · rintro b a w' ⟨g8_, g10_, g11_, g12_, m8_, m9_, m10_, m11_, m12_, ha, Q_FF, Q_HZ, Q_LT8, Q_LT10, Q_LT11, Q_LT12, Q_K8, Q_B10, Q_Z10, Q_V10, Q_B11, Q_Z11, Q_V11, Q_B12, Q_Z12, Q_V12, Q_N8_10, Q_N8_11, Q_N8_12, Q_N10_11, Q_N10_12, Q_N11_12, Q_X8_, Q_X9_, Q_X10_, Q_X11_, Q_X12_⟩ hb_ hon hoff
                    refine ⟨_, rfl, fun K hK => ?_⟩
                    have e3 : a.tmps[3]? = some (.pointer (some ⟨w.heap.size, 0, none⟩)) := by rw [ha]; exact (putSel_off rfl).trans rfl
                    replace ha := Aside0.mk ha
                    have FF := Aside0.mk Q_FF
                    have HZ := Aside0.mk Q_HZ
                    have LT8 := Aside0.mk Q_LT8
                    have LT10 := Aside0.mk Q_LT10
                    have LT11 := Aside0.mk Q_LT11
                    have LT12 := Aside0.mk Q_LT12
                    obtain ⟨x0, x1, x2, x3⟩ := FF.out.cells.1
                    refine value_ (w1 := w') (v := .agg #[.int .i64 a0_0, .int .i64 a0_1, .slice A0_2 l0_2.length c0_2, .slice A0_3 l0_3.length c0_3]) (by rfl) rfl ?_ ?_
                    · go_simp
                      (try simp only [i64_w])
                      try rfl
                    refine hK.out _ _ ⟨g8_, g10_, g11_, g12_, m8_, m9_, m10_, m11_, m12_, (by rw [ha.out]; exact putSel_upk 4 hb_ rfl rfl rfl), Q_FF, Q_HZ, Q_LT8, Q_LT10, Q_LT11, Q_LT12, fun h0_ => absurd ((hoff 8 (by kernel_rfl)).symm.trans h0_) (by decide), Q_B10, Q_Z10, fun h0_ => absurd ((hoff 13 (by kernel_rfl)).symm.trans h0_) (by decide), Q_B11, Q_Z11, fun h0_ => absurd ((hoff 14 (by kernel_rfl)).symm.trans h0_) (by decide), Q_B12, Q_Z12, fun h0_ => absurd ((hoff 15 (by kernel_rfl)).symm.trans h0_) (by decide), fun h0_ _ => absurd ((hoff 8 (by kernel_rfl)).symm.trans h0_) (by decide), fun h0_ _ => absurd ((hoff 8 (by kernel_rfl)).symm.trans h0_) (by decide), fun h0_ _ => absurd ((hoff 8 (by kernel_rfl)).symm.trans h0_) (by decide), Q_N10_11, Q_N10_12, Q_N11_12, fun h0_ => absurd ((hoff 8 (by kernel_rfl)).symm.trans h0_) (by decide), fun h0_ => absurd ((hoff 9 (by kernel_rfl)).symm.trans h0_) (by decide), Q_X10_, Q_X11_, Q_X12_⟩
                  refine steps_cons ?_ ?_
                  · rintro b a w' ⟨g8_, g10_, g11_, g12_, m8_, m9_, m10_, m11_, m12_, ha, Q_FF, Q_HZ, Q_LT8, Q_LT10, Q_LT11, Q_LT12, Q_K8, Q_B10, Q_Z10, Q_V10, Q_B11, Q_Z11, Q_V11, Q_B12, Q_Z12, Q_V12, Q_N8_10, Q_N8_11, Q_N8_12, Q_N10_11, Q_N10_12, Q_N11_12, Q_X8_, Q_X9_, Q_X10_, Q_X11_, Q_X12_⟩ hb_ hon hoff
                    refine ⟨_, rfl, fun K hK => ?_⟩
                    have e4 : a.tmps[4]? = some (.pointer (some ⟨w.heap.size + 1, 0, none⟩)) := by rw [ha]; exact (putSel_off rfl).trans rfl
                    replace ha := Aside0.mk ha
                    have FF := Aside0.mk Q_FF
                    have HZ := Aside0.mk Q_HZ
                    have LT8 := Aside0.mk Q_LT8
                    have LT10 := Aside0.mk Q_LT10
                    have LT11 := Aside0.mk Q_LT11
                    have LT12 := Aside0.mk Q_LT12
                    obtain ⟨y0, y1, y2, y3⟩ := FF.out.cells.2
                    refine value_ (w1 := w') (v := .agg #[.int .i64 a1_0, .int .i64 a1_1, .slice A1_2 l1_2.length c1_2, .slice A1_3 l1_3.length c1_3]) (by rfl) rfl ?_ ?_
                    · go_simp
                      (try simp only [i64_w])
                      try rfl
                    refine hK.out _ _ ⟨g8_, g10_, g11_, g12_, m8_, m9_, m10_, m11_, m12_, (by rw [ha.out]; exact putSel_upk 5 hb_ rfl rfl rfl), Q_FF, Q_HZ, Q_LT8, Q_LT10, Q_LT11, Q_LT12, fun h0_ => absurd ((hoff 8 (by kernel_rfl)).symm.trans h0_) (by decide), Q_B10, Q_Z10, fun h0_ => absurd ((hoff 13 (by kernel_rfl)).symm.trans h0_) (by decide), Q_B11, Q_Z11, fun h0_ => absurd ((hoff 14 (by kernel_rfl)).symm.trans h0_) (by decide), Q_B12, Q_Z12, fun h0_ => absurd ((hoff 15 (by kernel_rfl)).symm.trans h0_) (by decide), fun h0_ _ => absurd ((hoff 8 (by kernel_rfl)).symm.trans h0_) (by decide), fun h0_ _ => absurd ((hoff 8 (by kernel_rfl)).symm.trans h0_) (by decide), fun h0_ _ => absurd ((hoff 8 (by kernel_rfl)).symm.trans h0_) (by decide), Q_N10_11, Q_N10_12, Q_N11_12, fun h0_ => absurd ((hoff 8 (by kernel_rfl)).symm.trans h0_) (by decide), fun h0_ => absurd ((hoff 9 (by kernel_rfl)).symm.trans h0_) (by decide), Q_X10_, Q_X11_, Q_X12_⟩
                  refine steps_cons ?_ ?_
                  · rintro b a w' ⟨g8_, g10_, g11_, g12_, m8_, m9_, m10_, m11_, m12_, ha, Q_FF, Q_HZ, Q_LT8, Q_LT10, Q_LT11, Q_LT12, Q_K8, Q_B10, Q_Z10, Q_V10, Q_B11, Q_Z11, Q_V11, Q_B12, Q_Z12, Q_V12, Q_N8_10, Q_N8_11, Q_N8_12, Q_N10_11, Q_N10_12, Q_N11_12, Q_X8_, Q_X9_, Q_X10_, Q_X11_, Q_X12_⟩ hb_ hon hoff
                    refine ⟨_, rfl, fun K hK => ?_⟩
                    have e96 : a.tmps[96]? = some (.agg #[.int .i64 a0_0, .int .i64 a0_1, .slice A0_2 l0_2.length c0_2, .slice A0_3 l0_3.length c0_3]) := by rw [ha]; exact putSel_on (e := (6, 96, .agg #[.int .i64 a0_0, .int .i64 a0_1, .slice A0_2 l0_2.length c0_2, .slice A0_3 l0_3.length c0_3])) 4 rfl rfl (hon 6 (by kernel_rfl)) rfl
                    have e97 : a.tmps[97]? = some (.agg #[.int .i64 a1_0, .int .i64 a1_1, .slice A1_2 l1_2.length c1_2, .slice A1_3 l1_3.length c1_3]) := by rw [ha]; exact putSel_on (e := (7, 97, .agg #[.int .i64 a1_0, .int .i64 a1_1, .slice A1_2 l1_2.length c1_2, .slice A1_3 l1_3.length c1_3])) 5 rfl rfl (hon 7 (by kernel_rfl)) rfl
                    replace ha := Aside0.mk ha
                    have FF := Aside0.mk Q_FF
                    have HZ := Aside0.mk Q_HZ
                    have LT8 := Aside0.mk Q_LT8
                    have LT10 := Aside0.mk Q_LT10
                    have LT11 := Aside0.mk Q_LT11
                    have LT12 := Aside0.mk Q_LT12
                    refine event_step (w1 := w'.alloc (.cells #[.int .i64 a0_0, .int .i64 a0_1, .slice A0_2 l0_2.length c0_2, .slice A0_3 l0_3.length c0_3, .int .i64 a1_0, .int .i64 a1_1, .slice A1_2 l1_2.length c1_2, .slice A1_3 l1_3.length c1_3] 43)) (v := .slice (some ⟨w'.heap.size, 0, none⟩) 2 2) (by rfl) ?_ ?_
                    · first | (go_simp; done) | (go_simp; rfl)
                    have hb := below_alloc (Below.refl w'.heap.size w') (.cells #[.int .i64 a0_0, .int .i64 a0_1, .slice A0_2 l0_2.length c0_2, .slice A0_3 l0_3.length c0_3, .int .i64 a1_0, .int .i64 a1_1, .slice A1_2 l1_2.length c1_2, .slice A1_3 l1_3.length c1_3] 43)
                    refine hK.out _ _ ⟨w'.heap.size, g10_, g11_, g12_, (.slice (some ⟨w'.heap.size, 0, none⟩) 2 2), m9_, m10_, m11_, m12_, (by rw [ha.out]; exact putSel_upk 6 hb_ rfl rfl rfl), FF.out.step hb, Nat.le_trans HZ.out hb.size, (by rw [fsize]; exact Nat.lt_succ_self _), Nat.lt_of_lt_of_le LT10.out hb.size, Nat.lt_of_lt_of_le LT11.out hb.size, Nat.lt_of_lt_of_le LT12.out hb.size, fun _ => ⟨blk_new w' _, HZ.out⟩, Q_B10, fun h0_ h1_ => vb_below (Q_Z10 h0_ h1_) hb, fun h0_ => absurd ((hoff 13 (by kernel_rfl)).symm.trans h0_) (by decide), Q_B11, fun h0_ h1_ => vb_below (Q_Z11 h0_ h1_) hb, fun h0_ => absurd ((hoff 14 (by kernel_rfl)).symm.trans h0_) (by decide), Q_B12, fun h0_ h1_ => vb_below (Q_Z12 h0_ h1_) hb, fun h0_ => absurd ((hoff 15 (by kernel_rfl)).symm.trans h0_) (by decide), fun _ _ => (Nat.ne_of_gt LT10.out), fun _ _ => (Nat.ne_of_gt LT11.out), fun _ _ => (Nat.ne_of_gt LT12.out), Q_N10_11, Q_N10_12, Q_N11_12, fun _ => rfl, fun h0_ => absurd ((hoff 9 (by kernel_rfl)).symm.trans h0_) (by decide), Q_X10_, Q_X11_, Q_X12_⟩
                  refine steps_cons ?_ ?_
                  · rintro b a w' ⟨g8_, g10_, g11_, g12_, m8_, m9_, m10_, m11_, m12_, ha, Q_FF, Q_HZ, Q_LT8, Q_LT10, Q_LT11, Q_LT12, Q_K8, Q_B10, Q_Z10, Q_V10, Q_B11, Q_Z11, Q_V11, Q_B12, Q_Z12, Q_V12, Q_N8_10, Q_N8_11, Q_N8_12, Q_N10_11, Q_N10_12, Q_N11_12, Q_X8_, Q_X9_, Q_X10_, Q_X11_, Q_X12_⟩ hb_ hon hoff
                    refine ⟨_, rfl, fun K hK => ?_⟩
                    have e98 : a.tmps[98]? = some (m8_) := by rw [ha]; exact putSel_on (e := (8, 98, m8_)) 6 rfl rfl (hon 8 (by kernel_rfl)) rfl
                    rw [Q_X8_ (hon 8 (by kernel_rfl))] at e98
                    replace ha := Aside0.mk ha
                    have FF := Aside0.mk Q_FF
                    have HZ := Aside0.mk Q_HZ
                    have LT8 := Aside0.mk Q_LT8
                    have LT10 := Aside0.mk Q_LT10
                    have LT11 := Aside0.mk Q_LT11
                    have LT12 := Aside0.mk Q_LT12
                    have K8 := Aside0.mk (Q_K8 (hon 8 (by kernel_rfl)))
                    refine goes_ Try.func29 (by kernel_rfl) rfl #[.slice (some ⟨g8_, 0, none⟩) 2 2] (by rfl) rfl rfl (by first | (simp only [List.map_toArray, List.map_cons, List.map_nil, Act.eval, Array.getD_eq_getD_getElem?, Option.getD_some, e98]; done) | (simp only [List.map_toArray, List.map_cons, List.map_nil, Act.eval, Array.getD_eq_getD_getElem?, Option.getD_some, e98]; rfl)) ?_
                    with_reducible refine (of_any _ _ _ _).mono ?_
                    rintro e w1_ ⟨rfl, hb⟩
                    refine ⟨_, rfl, ?_⟩
                    refine hK.out _ _ ⟨g8_, g10_, g11_, g12_, m8_, (.agg #[.int .i64 3, .int .i64 0, .slice none 0 0, .slice (some ⟨g8_, 0, none⟩) 2 2]), m10_, m11_, m12_, (by rw [ha.out]; exact putSel_upk 7 hb_ rfl rfl rfl), FF.out.step hb, Nat.le_trans HZ.out hb.size, Nat.lt_of_lt_of_le LT8.out hb.size, Nat.lt_of_lt_of_le LT10.out hb.size, Nat.lt_of_lt_of_le LT11.out hb.size, Nat.lt_of_lt_of_le LT12.out hb.size, fun _ => ⟨(hb.block _ (blk_lt K8.out.1)).trans K8.out.1, K8.out.2⟩, Q_B10, fun h0_ h1_ => vb_below (Q_Z10 h0_ h1_) hb, fun h0_ => absurd ((hoff 13 (by kernel_rfl)).symm.trans h0_) (by decide), Q_B11, fun h0_ h1_ => vb_below (Q_Z11 h0_ h1_) hb, fun h0_ => absurd ((hoff 14 (by kernel_rfl)).symm.trans h0_) (by decide), Q_B12, fun h0_ h1_ => vb_below (Q_Z12 h0_ h1_) hb, fun h0_ => absurd ((hoff 15 (by kernel_rfl)).symm.trans h0_) (by decide), Q_N8_10, Q_N8_11, Q_N8_12, Q_N10_11, Q_N10_12, Q_N11_12, Q_X8_, fun _ => rfl, Q_X10_, Q_X11_, Q_X12_⟩
                  refine steps_cons ?_ ?_
                  · rintro b a w' ⟨g8_, g10_, g11_, g12_, m8_, m9_, m10_, m11_, m12_, ha, Q_FF, Q_HZ, Q_LT8, Q_LT10, Q_LT11, Q_LT12, Q_K8, Q_B10, Q_Z10, Q_V10, Q_B11, Q_Z11, Q_V11, Q_B12, Q_Z12, Q_V12, Q_N8_10, Q_N8_11, Q_N8_12, Q_N10_11, Q_N10_12, Q_N11_12, Q_X8_, Q_X9_, Q_X10_, Q_X11_, Q_X12_⟩ hb_ hon hoff
                    refine ⟨_, rfl, fun K hK => ?_⟩
                    replace ha := Aside0.mk ha
                    have FF := Aside0.mk Q_FF
                    have HZ := Aside0.mk Q_HZ
                    have LT8 := Aside0.mk Q_LT8
                    have LT10 := Aside0.mk Q_LT10
                    have LT11 := Aside0.mk Q_LT11
                    have LT12 := Aside0.mk Q_LT12
                    refine box_step ?hg (N := 11) ?hd (cs := #[.int .i64 0, .int .i64 0, .slice none 0 0, .slice none 0 0]) (t := 43) ?hr ?_; (case hd => rfl); (case hg => rfl); (case hr => first | (go_simp; done) | (go_simp; rfl))
                    intro g_ hg w1_ hbox hb
                    refine hK.out _ _ ⟨g8_, g_, g11_, g12_, m8_, m9_, (.pointer (some ⟨g_, 0, none⟩)), m11_, m12_, (by rw [ha.out]; exact putSel_upk 8 hb_ rfl rfl rfl), FF.out.step hb, Nat.le_trans HZ.out hb.size, Nat.lt_of_lt_of_le LT8.out hb.size, blk_lt hbox, Nat.lt_of_lt_of_le LT11.out hb.size, Nat.lt_of_lt_of_le LT12.out hb.size, fun h0_ => ⟨(hb.block _ (blk_lt (Q_K8 h0_).1)).trans (Q_K8 h0_).1, (Q_K8 h0_).2⟩, fun _ => (by rw [hg]; exact HZ.out), fun _ _ => hbox, fun h0_ => absurd ((hoff 13 (by kernel_rfl)).symm.trans h0_) (by decide), Q_B11, fun h0_ h1_ => vb_below (Q_Z11 h0_ h1_) hb, fun h0_ => absurd ((hoff 14 (by kernel_rfl)).symm.trans h0_) (by decide), Q_B12, fun h0_ h1_ => vb_below (Q_Z12 h0_ h1_) hb, fun h0_ => absurd ((hoff 15 (by kernel_rfl)).symm.trans h0_) (by decide), fun _ _ => (by rw [hg]; exact Nat.ne_of_lt LT8.out), Q_N8_11, Q_N8_12, fun _ _ => (by rw [hg]; exact Nat.ne_of_gt LT11.out), fun _ _ => (by rw [hg]; exact Nat.ne_of_gt LT12.out), Q_N11_12, Q_X8_, Q_X9_, fun _ => rfl, Q_X11_, Q_X12_⟩
                  refine steps_cons ?_ ?_
                  · rintro b a w' ⟨g8_, g10_, g11_, g12_, m8_, m9_, m10_, m11_, m12_, ha, Q_FF, Q_HZ, Q_LT8, Q_LT10, Q_LT11, Q_LT12, Q_K8, Q_B10, Q_Z10, Q_V10, Q_B11, Q_Z11, Q_V11, Q_B12, Q_Z12, Q_V12, Q_N8_10, Q_N8_11, Q_N8_12, Q_N10_11, Q_N10_12, Q_N11_12, Q_X8_, Q_X9_, Q_X10_, Q_X11_, Q_X12_⟩ hb_ hon hoff
                    refine ⟨_, rfl, fun K hK => ?_⟩
                    replace ha := Aside0.mk ha
                    have FF := Aside0.mk Q_FF
                    have HZ := Aside0.mk Q_HZ
                    have LT8 := Aside0.mk Q_LT8
                    have LT10 := Aside0.mk Q_LT10
                    have LT11 := Aside0.mk Q_LT11
                    have LT12 := Aside0.mk Q_LT12
                    refine box_step ?hg (N := 12) ?hd (cs := #[.int .i64 0, .int .i64 0, .slice none 0 0, .slice none 0 0]) (t := 43) ?hr ?_; (case hd => rfl); (case hg => rfl); (case hr => first | (go_simp; done) | (go_simp; rfl))
                    intro g_ hg w1_ hbox hb
                    refine hK.out _ _ ⟨g8_, g10_, g_, g12_, m8_, m9_, m10_, (.pointer (some ⟨g_, 0, none⟩)), m12_, (by rw [ha.out]; exact putSel_upk 9 hb_ rfl rfl rfl), FF.out.step hb, Nat.le_trans HZ.out hb.size, Nat.lt_of_lt_of_le LT8.out hb.size, Nat.lt_of_lt_of_le LT10.out hb.size, blk_lt hbox, Nat.lt_of_lt_of_le LT12.out hb.size, fun h0_ => ⟨(hb.block _ (blk_lt (Q_K8 h0_).1)).trans (Q_K8 h0_).1, (Q_K8 h0_).2⟩, Q_B10, fun h0_ h1_ => vb_below (Q_Z10 h0_ h1_) hb, fun h0_ => absurd ((hoff 13 (by kernel_rfl)).symm.trans h0_) (by decide), fun _ => (by rw [hg]; exact HZ.out), fun _ _ => hbox, fun h0_ => absurd ((hoff 14 (by kernel_rfl)).symm.trans h0_) (by decide), Q_B12, fun h0_ h1_ => vb_below (Q_Z12 h0_ h1_) hb, fun h0_ => absurd ((hoff 15 (by kernel_rfl)).symm.trans h0_) (by decide), Q_N8_10, fun _ _ => (by rw [hg]; exact Nat.ne_of_lt LT8.out), Q_N8_12, fun _ _ => (by rw [hg]; exact Nat.ne_of_lt LT10.out), Q_N10_12, fun _ _ => (by rw [hg]; exact Nat.ne_of_gt LT12.out), Q_X8_, Q_X9_, Q_X10_, fun _ => rfl, Q_X12_⟩
                  refine steps_cons ?_ ?_
                  · rintro b a w' ⟨g8_, g10_, g11_, g12_, m8_, m9_, m10_, m11_, m12_, ha, Q_FF, Q_HZ, Q_LT8, Q_LT10, Q_LT11, Q_LT12, Q_K8, Q_B10, Q_Z10, Q_V10, Q_B11, Q_Z11, Q_V11, Q_B12, Q_Z12, Q_V12, Q_N8_10, Q_N8_11, Q_N8_12, Q_N10_11, Q_N10_12, Q_N11_12, Q_X8_, Q_X9_, Q_X10_, Q_X11_, Q_X12_⟩ hb_ hon hoff
                    refine ⟨_, rfl, fun K hK => ?_⟩
                    replace ha := Aside0.mk ha
                    have FF := Aside0.mk Q_FF
                    have HZ := Aside0.mk Q_HZ
                    have LT8 := Aside0.mk Q_LT8
                    have LT10 := Aside0.mk Q_LT10
                    have LT11 := Aside0.mk Q_LT11
                    have LT12 := Aside0.mk Q_LT12
                    refine box_step ?hg (N := 13) ?hd (cs := #[.int .i64 0, .int .i64 0, .slice none 0 0, .slice none 0 0]) (t := 43) ?hr ?_; (case hd => rfl); (case hg => rfl); (case hr => first | (go_simp; done) | (go_simp; rfl))
                    intro g_ hg w1_ hbox hb
                    refine hK.out _ _ ⟨g8_, g10_, g11_, g_, m8_, m9_, m10_, m11_, (.pointer (some ⟨g_, 0, none⟩)), (by rw [ha.out]; exact putSel_upk 10 hb_ rfl rfl rfl), FF.out.step hb, Nat.le_trans HZ.out hb.size, Nat.lt_of_lt_of_le LT8.out hb.size, Nat.lt_of_lt_of_le LT10.out hb.size, Nat.lt_of_lt_of_le LT11.out hb.size, blk_lt hbox, fun h0_ => ⟨(hb.block _ (blk_lt (Q_K8 h0_).1)).trans (Q_K8 h0_).1, (Q_K8 h0_).2⟩, Q_B10, fun h0_ h1_ => vb_below (Q_Z10 h0_ h1_) hb, fun h0_ => absurd ((hoff 13 (by kernel_rfl)).symm.trans h0_) (by decide), Q_B11, fun h0_ h1_ => vb_below (Q_Z11 h0_ h1_) hb, fun h0_ => absurd ((hoff 14 (by kernel_rfl)).symm.trans h0_) (by decide), fun _ => (by rw [hg]; exact HZ.out), fun _ _ => hbox, fun h0_ => absurd ((hoff 15 (by kernel_rfl)).symm.trans h0_) (by decide), Q_N8_10, Q_N8_11, fun _ _ => (by rw [hg]; exact Nat.ne_of_lt LT8.out), Q_N10_11, fun _ _ => (by rw [hg]; exact Nat.ne_of_lt LT10.out), fun _ _ => (by rw [hg]; exact Nat.ne_of_lt LT11.out), Q_X8_, Q_X9_, Q_X10_, Q_X11_, fun _ => rfl⟩
                  refine steps_cons ?_ ?_
                  · rintro b a w' ⟨g8_, g10_, g11_, g12_, m8_, m9_, m10_, m11_, m12_, ha, Q_FF, Q_HZ, Q_LT8, Q_LT10, Q_LT11, Q_LT12, Q_K8, Q_B10, Q_Z10, Q_V10, Q_B11, Q_Z11, Q_V11, Q_B12, Q_Z12, Q_V12, Q_N8_10, Q_N8_11, Q_N8_12, Q_N10_11, Q_N10_12, Q_N11_12, Q_X8_, Q_X9_, Q_X10_, Q_X11_, Q_X12_⟩ hb_ hon hoff
                    refine ⟨_, rfl, fun K hK => ?_⟩
                    have e11 : a.tmps[11]? = some (m10_) := by rw [ha]; exact putSel_on (e := (10, 11, m10_)) 8 rfl rfl (hon 10 (by kernel_rfl)) rfl
                    rw [Q_X10_ (hon 10 (by kernel_rfl))] at e11
                    have e92 : a.tmps[92]? = some (.agg #[.int .i64 1, .int .i64 a1_1, .slice none 0 0, .slice none 0 0]) := by rw [ha]; exact putSel_on (e := (2, 92, .agg #[.int .i64 1, .int .i64 a1_1, .slice none 0 0, .slice none 0 0])) 1 rfl rfl (hon 2 (by kernel_rfl)) rfl
                    replace ha := Aside0.mk ha
                    have FF := Aside0.mk Q_FF
                    have HZ := Aside0.mk Q_HZ
                    have LT8 := Aside0.mk Q_LT8
                    have LT10 := Aside0.mk Q_LT10
                    have LT11 := Aside0.mk Q_LT11
                    have LT12 := Aside0.mk Q_LT12
                    have K8 := Aside0.mk (Q_K8 (hon 8 (by kernel_rfl)))
                    have B10 := Aside0.mk (Q_B10 (hon 10 (by kernel_rfl)))
                    have Z10 := Aside0.mk (Q_Z10 (hon 10 (by kernel_rfl)) hb_)
                    have B11 := Aside0.mk (Q_B11 (hon 11 (by kernel_rfl)))
                    have Z11 := Aside0.mk (Q_Z11 (hon 11 (by kernel_rfl)) (hoff 14 (by kernel_rfl)))
                    have B12 := Aside0.mk (Q_B12 (hon 12 (by kernel_rfl)))
                    have Z12 := Aside0.mk (Q_Z12 (hon 12 (by kernel_rfl)) (hoff 15 (by kernel_rfl)))
                    have N8_10 := Aside0.mk (Q_N8_10 (hon 8 (by kernel_rfl)) (hon 10 (by kernel_rfl)))
                    have N8_11 := Aside0.mk (Q_N8_11 (hon 8 (by kernel_rfl)) (hon 11 (by kernel_rfl)))
                    have N8_12 := Aside0.mk (Q_N8_12 (hon 8 (by kernel_rfl)) (hon 12 (by kernel_rfl)))
                    have N10_11 := Aside0.mk (Q_N10_11 (hon 10 (by kernel_rfl)) (hon 11 (by kernel_rfl)))
                    have N10_12 := Aside0.mk (Q_N10_12 (hon 10 (by kernel_rfl)) (hon 12 (by kernel_rfl)))
                    have N11_12 := Aside0.mk (Q_N11_12 (hon 11 (by kernel_rfl)) (hon 12 (by kernel_rfl)))
                    have z0 := (blk_cell Z10.out 0).trans rfl
                    have z1 := (blk_cell Z10.out 1).trans rfl
                    have z2 := (blk_cell Z10.out 2).trans rfl
                    have z3 := (blk_cell Z10.out 3).trans rfl
                    have f0 := blk_frozen Z10.out 0
                    have f1 := blk_frozen Z10.out 1
                    have f2 := blk_frozen Z10.out 2
                    have f3 := blk_frozen Z10.out 3
                    refine skip_ (w1 := ((((w'.setCell ⟨g10_, 0, none⟩ (.int .i64 1)).setCell ⟨g10_, 1, none⟩ (.int .i64 a1_1)).setCell ⟨g10_, 2, none⟩ (.slice none 0 0)).setCell ⟨g10_, 3, none⟩ (.slice none 0 0))) (by rfl) rfl ?_ ?_
                    · first | (go_simp; done) | (go_simp; rfl)
                    refine hK.out _ _ ⟨g8_, g10_, g11_, g12_, m8_, m9_, m10_, m11_, m12_, (by rw [ha.out]; exact putSel_none (v := undef) rfl), FF.out.put4 (Nat.le_trans HZ1.out B10.out) B10.out _ _ _ _, (by simpa using HZ.out), (by simpa using LT8.out), (by simpa using LT10.out), (by simpa using LT11.out), (by simpa using LT12.out), fun _ => ⟨far_put4 K8.out.1 N8_10.out _ _ _ _, K8.out.2⟩, Q_B10, fun _ h1_ => absurd ((up_self b 13).symm.trans h1_) (by decide), fun _ => vb_put4 Z10.out _ _ _ _, Q_B11, fun _ _ => far_put4 Z11.out (Ne.symm N10_11.out) _ _ _ _, fun h0_ => absurd ((hoff 14 (by kernel_rfl)).symm.trans h0_) (by decide), Q_B12, fun _ _ => far_put4 Z12.out (Ne.symm N10_12.out) _ _ _ _, fun h0_ => absurd ((hoff 15 (by kernel_rfl)).symm.trans h0_) (by decide), Q_N8_10, Q_N8_11, Q_N8_12, Q_N10_11, Q_N10_12, Q_N11_12, Q_X8_, Q_X9_, Q_X10_, Q_X11_, Q_X12_⟩
                  refine steps_cons ?_ ?_
                  · rintro b a w' ⟨g8_, g10_, g11_, g12_, m8_, m9_, m10_, m11_, m12_, ha, Q_FF, Q_HZ, Q_LT8, Q_LT10, Q_LT11, Q_LT12, Q_K8, Q_B10, Q_Z10, Q_V10, Q_B11, Q_Z11, Q_V11, Q_B12, Q_Z12, Q_V12, Q_N8_10, Q_N8_11, Q_N8_12, Q_N10_11, Q_N10_12, Q_N11_12, Q_X8_, Q_X9_, Q_X10_, Q_X11_, Q_X12_⟩ hb_ hon hoff
                    refine ⟨_, rfl, fun K hK => ?_⟩
                    have e12 : a.tmps[12]? = some (m11_) := by rw [ha]; exact putSel_on (e := (11, 12, m11_)) 9 rfl rfl (hon 11 (by kernel_rfl)) rfl
                    rw [Q_X11_ (hon 11 (by kernel_rfl))] at e12
                    have e95 : a.tmps[95]? = some (.agg #[.int .i64 2, .int .i64 0, .slice A1_2 l1_2.length c1_2, .slice none 0 0]) := by rw [ha]; exact putSel_on (e := (5, 95, .agg #[.int .i64 2, .int .i64 0, .slice A1_2 l1_2.length c1_2, .slice none 0 0])) 3 rfl rfl (hon 5 (by kernel_rfl)) rfl
                    replace ha := Aside0.mk ha
                    have FF := Aside0.mk Q_FF
                    have HZ := Aside0.mk Q_HZ
                    have LT8 := Aside0.mk Q_LT8
                    have LT10 := Aside0.mk Q_LT10
                    have LT11 := Aside0.mk Q_LT11
                    have LT12 := Aside0.mk Q_LT12
                    have K8 := Aside0.mk (Q_K8 (hon 8 (by kernel_rfl)))
                    have B10 := Aside0.mk (Q_B10 (hon 10 (by kernel_rfl)))
                    have V10 := Aside0.mk (Q_V10 (hon 13 (by kernel_rfl)))
                    have B11 := Aside0.mk (Q_B11 (hon 11 (by kernel_rfl)))
                    have Z11 := Aside0.mk (Q_Z11 (hon 11 (by kernel_rfl)) hb_)
                    have B12 := Aside0.mk (Q_B12 (hon 12 (by kernel_rfl)))
                    have Z12 := Aside0.mk (Q_Z12 (hon 12 (by kernel_rfl)) (hoff 15 (by kernel_rfl)))
                    have N8_10 := Aside0.mk (Q_N8_10 (hon 8 (by kernel_rfl)) (hon 10 (by kernel_rfl)))
                    have N8_11 := Aside0.mk (Q_N8_11 (hon 8 (by kernel_rfl)) (hon 11 (by kernel_rfl)))
                    have N8_12 := Aside0.mk (Q_N8_12 (hon 8 (by kernel_rfl)) (hon 12 (by kernel_rfl)))
                    have N10_11 := Aside0.mk (Q_N10_11 (hon 10 (by kernel_rfl)) (hon 11 (by kernel_rfl)))
                    have N10_12 := Aside0.mk (Q_N10_12 (hon 10 (by kernel_rfl)) (hon 12 (by kernel_rfl)))
                    have N11_12 := Aside0.mk (Q_N11_12 (hon 11 (by kernel_rfl)) (hon 12 (by kernel_rfl)))
                    have z0 := (blk_cell Z11.out 0).trans rfl
                    have z1 := (blk_cell Z11.out 1).trans rfl
                    have z2 := (blk_cell Z11.out 2).trans rfl
                    have z3 := (blk_cell Z11.out 3).trans rfl
                    have f0 := blk_frozen Z11.out 0
                    have f1 := blk_frozen Z11.out 1
                    have f2 := blk_frozen Z11.out 2
                    have f3 := blk_frozen Z11.out 3
                    refine skip_ (w1 := ((((w'.setCell ⟨g11_, 0, none⟩ (.int .i64 2)).setCell ⟨g11_, 1, none⟩ (.int .i64 0)).setCell ⟨g11_, 2, none⟩ (.slice A1_2 l1_2.length c1_2)).setCell ⟨g11_, 3, none⟩ (.slice none 0 0))) (by rfl) rfl ?_ ?_
                    · first | (go_simp; done) | (go_simp; rfl)
                    refine hK.out _ _ ⟨g8_, g10_, g11_, g12_, m8_, m9_, m10_, m11_, m12_, (by rw [ha.out]; exact putSel_none (v := undef) rfl), FF.out.put4 (Nat.le_trans HZ1.out B11.out) B11.out _ _ _ _, (by simpa using HZ.out), (by simpa using LT8.out), (by simpa using LT10.out), (by simpa using LT11.out), (by simpa using LT12.out), fun _ => ⟨far_put4 K8.out.1 N8_11.out _ _ _ _, K8.out.2⟩, Q_B10, fun _ h1_ => absurd ((hon 13 (by kernel_rfl)).symm.trans h1_) (by decide), fun _ => far_put4 V10.out N10_11.out _ _ _ _, Q_B11, fun _ h1_ => absurd ((up_self b 14).symm.trans h1_) (by decide), fun _ => vb_put4 Z11.out _ _ _ _, Q_B12, fun _ _ => far_put4 Z12.out (Ne.symm N11_12.out) _ _ _ _, fun h0_ => absurd ((hoff 15 (by kernel_rfl)).symm.trans h0_) (by decide), Q_N8_10, Q_N8_11, Q_N8_12, Q_N10_11, Q_N10_12, Q_N11_12, Q_X8_, Q_X9_, Q_X10_, Q_X11_, Q_X12_⟩
                  refine steps_cons ?_ ?_
                  · rintro b a w' ⟨g8_, g10_, g11_, g12_, m8_, m9_, m10_, m11_, m12_, ha, Q_FF, Q_HZ, Q_LT8, Q_LT10, Q_LT11, Q_LT12, Q_K8, Q_B10, Q_Z10, Q_V10, Q_B11, Q_Z11, Q_V11, Q_B12, Q_Z12, Q_V12, Q_N8_10, Q_N8_11, Q_N8_12, Q_N10_11, Q_N10_12, Q_N11_12, Q_X8_, Q_X9_, Q_X10_, Q_X11_, Q_X12_⟩ hb_ hon hoff
                    refine ⟨_, rfl, fun K hK => ?_⟩
                    have e13 : a.tmps[13]? = some (m12_) := by rw [ha]; exact putSel_on (e := (12, 13, m12_)) 10 rfl rfl (hon 12 (by kernel_rfl)) rfl
                    rw [Q_X12_ (hon 12 (by kernel_rfl))] at e13
                    have e99 : a.tmps[99]? = some (m9_) := by rw [ha]; exact putSel_on (e := (9, 99, m9_)) 7 rfl rfl (hon 9 (by kernel_rfl)) rfl
                    rw [Q_X9_ (hon 9 (by kernel_rfl))] at e99
                    replace ha := Aside0.mk ha
                    have FF := Aside0.mk Q_FF
                    have HZ := Aside0.mk Q_HZ
                    have LT8 := Aside0.mk Q_LT8
                    have LT10 := Aside0.mk Q_LT10
                    have LT11 := Aside0.mk Q_LT11
                    have LT12 := Aside0.mk Q_LT12
                    have K8 := Aside0.mk (Q_K8 (hon 8 (by kernel_rfl)))
                    have B10 := Aside0.mk (Q_B10 (hon 10 (by kernel_rfl)))
                    have V10 := Aside0.mk (Q_V10 (hon 13 (by kernel_rfl)))
                    have B11 := Aside0.mk (Q_B11 (hon 11 (by kernel_rfl)))
                    have V11 := Aside0.mk (Q_V11 (hon 14 (by kernel_rfl)))
                    have B12 := Aside0.mk (Q_B12 (hon 12 (by kernel_rfl)))
                    have Z12 := Aside0.mk (Q_Z12 (hon 12 (by kernel_rfl)) hb_)
                    have N8_10 := Aside0.mk (Q_N8_10 (hon 8 (by kernel_rfl)) (hon 10 (by kernel_rfl)))
                    have N8_11 := Aside0.mk (Q_N8_11 (hon 8 (by kernel_rfl)) (hon 11 (by kernel_rfl)))
                    have N8_12 := Aside0.mk (Q_N8_12 (hon 8 (by kernel_rfl)) (hon 12 (by kernel_rfl)))
                    have N10_11 := Aside0.mk (Q_N10_11 (hon 10 (by kernel_rfl)) (hon 11 (by kernel_rfl)))
                    have N10_12 := Aside0.mk (Q_N10_12 (hon 10 (by kernel_rfl)) (hon 12 (by kernel_rfl)))
                    have N11_12 := Aside0.mk (Q_N11_12 (hon 11 (by kernel_rfl)) (hon 12 (by kernel_rfl)))
                    have z0 := (blk_cell Z12.out 0).trans rfl
                    have z1 := (blk_cell Z12.out 1).trans rfl
                    have z2 := (blk_cell Z12.out 2).trans rfl
                    have z3 := (blk_cell Z12.out 3).trans rfl
                    have f0 := blk_frozen Z12.out 0
                    have f1 := blk_frozen Z12.out 1
                    have f2 := blk_frozen Z12.out 2
                    have f3 := blk_frozen Z12.out 3
                    refine skip_ (w1 := ((((w'.setCell ⟨g12_, 0, none⟩ (.int .i64 3)).setCell ⟨g12_, 1, none⟩ (.int .i64 0)).setCell ⟨g12_, 2, none⟩ (.slice none 0 0)).setCell ⟨g12_, 3, none⟩ (.slice (some ⟨g8_, 0, none⟩) 2 2))) (by rfl) rfl ?_ ?_
                    · first | (go_simp; done) | (go_simp; rfl)
                    refine hK.out _ _ ⟨g8_, g10_, g11_, g12_, m8_, m9_, m10_, m11_, m12_, (by rw [ha.out]; exact putSel_none (v := undef) rfl), FF.out.put4 (Nat.le_trans HZ1.out B12.out) B12.out _ _ _ _, (by simpa using HZ.out), (by simpa using LT8.out), (by simpa using LT10.out), (by simpa using LT11.out), (by simpa using LT12.out), fun _ => ⟨far_put4 K8.out.1 N8_12.out _ _ _ _, K8.out.2⟩, Q_B10, fun _ h1_ => absurd ((hon 13 (by kernel_rfl)).symm.trans h1_) (by decide), fun _ => far_put4 V10.out N10_12.out _ _ _ _, Q_B11, fun _ h1_ => absurd ((hon 14 (by kernel_rfl)).symm.trans h1_) (by decide), fun _ => far_put4 V11.out N11_12.out _ _ _ _, Q_B12, fun _ h1_ => absurd ((up_self b 15).symm.trans h1_) (by decide), fun _ => vb_put4 Z12.out _ _ _ _, Q_N8_10, Q_N8_11, Q_N8_12, Q_N10_11, Q_N10_12, Q_N11_12, Q_X8_, Q_X9_, Q_X10_, Q_X11_, Q_X12_⟩
                  exact steps_nil
                · rintro b a w' hall ⟨g8_, g10_, g11_, g12_, m8_, m9_, m10_, m11_, m12_, ha, Q_FF, Q_HZ, Q_LT8, Q_LT10, Q_LT11, Q_LT12, Q_K8, Q_B10, Q_Z10, Q_V10, Q_B11, Q_Z11, Q_V11, Q_B12, Q_Z12, Q_V12, Q_N8_10, Q_N8_11, Q_N8_12, Q_N10_11, Q_N10_12, Q_N11_12, Q_X8_, Q_X9_, Q_X10_, Q_X11_, Q_X12_⟩
                  clear FF HZ LT10 LT11 LT12 LT8
                  have hb1_ := hall 1 (by kernel_rfl)
                  have hb2_ := hall 2 (by kernel_rfl)
                  have hb4_ := hall 4 (by kernel_rfl)
                  have hb5_ := hall 5 (by kernel_rfl)
                  have hb6_ := hall 6 (by kernel_rfl)
                  have hb7_ := hall 7 (by kernel_rfl)
                  have hb8_ := hall 8 (by kernel_rfl)
                  have hb9_ := hall 9 (by kernel_rfl)
                  have hb10_ := hall 10 (by kernel_rfl)
                  have hb11_ := hall 11 (by kernel_rfl)
                  have hb12_ := hall 12 (by kernel_rfl)
                  have hb13_ := hall 13 (by kernel_rfl)
                  have hb14_ := hall 14 (by kernel_rfl)
                  have hb15_ := hall 15 (by kernel_rfl)
                  subst ha
                  obtain rfl := Q_X8_ hb8_
                  obtain rfl := Q_X9_ hb9_
                  obtain rfl := Q_X10_ hb10_
                  obtain rfl := Q_X11_ hb11_
                  obtain rfl := Q_X12_ hb12_
                  simp only [putSel, hb1_, hb2_, hb4_, hb5_, hb6_, hb7_, hb8_, hb9_, hb10_, hb11_, hb12_, hb13_, hb14_, hb15_, if_true, Act.put, List.setIfInBounds_toArray, List.set_cons_zero, List.set_cons_succ]
                  have FF := Aside0.mk Q_FF
                  clear Q_FF
                  have HZ := Aside0.mk Q_HZ
                  clear Q_HZ
                  have LT8 := Aside0.mk Q_LT8
                  clear Q_LT8
                  have LT10 := Aside0.mk Q_LT10
                  clear Q_LT10
                  have LT11 := Aside0.mk Q_LT11
                  clear Q_LT11
                  have LT12 := Aside0.mk Q_LT12
                  clear Q_LT12
                  have K8 := Aside0.mk (Q_K8 hb8_)
                  clear Q_K8
                  have B10 := Aside0.mk (Q_B10 hb10_)
                  clear Q_B10
                  clear Q_Z10
                  have V10 := Aside0.mk (Q_V10 hb13_)
                  clear Q_V10
                  have B11 := Aside0.mk (Q_B11 hb11_)
                  clear Q_B11
                  clear Q_Z11
                  have V11 := Aside0.mk (Q_V11 hb14_)
                  clear Q_V11
                  have B12 := Aside0.mk (Q_B12 hb12_)
                  clear Q_B12
                  clear Q_Z12
                  have V12 := Aside0.mk (Q_V12 hb15_)
                  clear Q_V12
                  have N8_10 := Aside0.mk (Q_N8_10 hb8_ hb10_)
                  clear Q_N8_10
                  have N8_11 := Aside0.mk (Q_N8_11 hb8_ hb11_)
                  clear Q_N8_11
                  have N8_12 := Aside0.mk (Q_N8_12 hb8_ hb12_)
                  clear Q_N8_12
                  have N10_11 := Aside0.mk (Q_N10_11 hb10_ hb11_)
                  clear Q_N10_11
                  have N10_12 := Aside0.mk (Q_N10_12 hb10_ hb12_)
                  clear Q_N10_12
                  have N11_12 := Aside0.mk (Q_N11_12 hb11_ hb12_)
                  clear Q_N11_12
                  clear hall hb1_ hb2_ hb4_ hb5_ hb6_ hb7_ hb8_ hb9_ hb10_ hb11_ hb12_ hb13_ hb14_ hb15_
                  have GG := Aside0.mk (show GS w (.int .i64 a0_0) (.int .i64 a0_1) (.slice A0_2 l0_2.length c0_2) (.slice A0_3 l0_3.length c0_3) (.int .i64 a1_0) (.int .i64 a1_1) (.slice A1_2 l1_2.length c1_2) (.slice A1_3 l1_3.length c1_3) g8_ g10_ g11_ g12_ (.int .i64 1) (.int .i64 a1_1) (.slice none 0 0) (.slice none 0 0) (.int .i64 2) (.int .i64 0) (.slice A1_2 l1_2.length c1_2) (.slice none 0 0) (.int .i64 3) (.int .i64 0) (.slice none 0 0) (.slice (some ⟨g8_, 0, none⟩) 2 2) w' from ⟨FF.out.hb, FF.out.ka, FF.out.kb, K8.out.1, V10.out, V11.out, V12.out⟩)
                  clear FF HZ HZ1 LT8 LT10 LT11 LT12 K8 B10 B11 B12 V10 V11 V12 N8_10 N8_11 N8_12 N10_11 N10_12 N11_12
                  have h5 := H6.out
                  clear H6 h1
                  unfold REST1 at h5
                  obtain ⟨s1, hs1, h6⟩ := Option.bind_eq_some_iff.1 h5
                  by_cases d1 : s1 = true
                  rotate_left
                  · rw [if_neg d1] at h6
                    cases h6
                  rw [if_pos d1] at h6
                  subst d1
                  obtain ⟨s2, hs2, h7⟩ := Option.bind_eq_some_iff.1 h6
                  by_cases d2 : s2 = true
                  rotate_left
                  · rw [if_neg d2] at h7
                    cases h7
                  rw [if_pos d2] at h7
                  subst d2
                  obtain ⟨s3, hs3, h8⟩ := Option.bind_eq_some_iff.1 h7
                  by_cases d3 : s3 = true
                  rotate_left
                  · rw [if_neg d3] at h8
                    cases h8
                  rw [if_pos d3] at h8
                  subst d3
                  obtain ⟨e1, he1, h9⟩ := Option.bind_eq_some_iff.1 h8
                  obtain ⟨e2, he2, h10⟩ := Option.bind_eq_some_iff.1 h9
                  by_cases d4 : e1 = e2
                  rotate_left
                  · rw [if_neg d4] at h10
                    cases h10
                  rw [if_pos d4] at h10
                  subst d4
                  obtain ⟨e3, he3, h11⟩ := Option.bind_eq_some_iff.1 h10
                  by_cases d5 : e3 = true
                  rotate_left
                  · rw [if_neg d5] at h11
                    cases h11
                  rw [if_pos d5] at h11
                  subst d5
                  cases h11
                  have HS1 := Aside0.mk hs1
                  have HS2 := Aside0.mk hs2
                  have HS3 := Aside0.mk hs3
                  have HE1 := Aside0.mk he1
                  have HE2 := Aside0.mk he2
                  have HE3 := Aside0.mk he3
                  clear hs1 hs2 hs3 he1 he2 he3 h5 h6 h7 h8 h9 h10
                  have GN_ := Aside0.mk (GG.out.step (below_drew (Below.refl _ _)))
                  clear GG
                  have GG := GN_
                  clear GN_
                  have hc := Aside0.mk GG.out.cells
                  go_upto_region 14 with (fail)
                  refine start_ (n := 52) (S := fun w' => w'.cell? ⟨g10_, 0, none⟩ = some (.int .i64 1) ∧ w'.cell? ⟨g10_, 1, none⟩ = some (.int .i64 a1_1) ∧ w'.cell? ⟨g11_, 0, none⟩ = some (.int .i64 2) ∧ w'.cell? ⟨g11_, 2, none⟩ = some (.slice A1_2 l1_2.length c1_2) ∧ w'.cell? ⟨g12_, 0, none⟩ = some (.int .i64 3) ∧ w'.cell? ⟨g12_, 3, none⟩ = some (.slice (some ⟨g8_, 0, none⟩) 2 2) ∧ w'.cell? ⟨g8_, 0, none⟩ = some (.int .i64 a0_0) ∧ w'.cell? ⟨g8_, 1, none⟩ = some (.int .i64 a0_1) ∧ w'.cell? ⟨g8_, 2, none⟩ = some (.slice A0_2 l0_2.length c0_2) ∧ w'.cell? ⟨g8_, 3, none⟩ = some (.slice A0_3 l0_3.length c0_3) ∧ w'.cell? ⟨g8_, 4, none⟩ = some (.int .i64 a1_0) ∧ w'.cell? ⟨g8_, 5, none⟩ = some (.int .i64 a1_1) ∧ w'.cell? ⟨g8_, 6, none⟩ = some (.slice A1_2 l1_2.length c1_2) ∧ w'.cell? ⟨g8_, 7, none⟩ = some (.slice A1_3 l1_3.length c1_3) ∧ w'.cell? ⟨w.heap.size, 0, none⟩ = some (.int .i64 a0_0) ∧ w'.cell? ⟨w.heap.size, 1, none⟩ = some (.int .i64 a0_1) ∧ w'.cell? ⟨w.heap.size, 2, none⟩ = some (.slice A0_2 l0_2.length c0_2) ∧ w'.cell? ⟨w.heap.size, 3, none⟩ = some (.slice A0_3 l0_3.length c0_3) ∧ w'.cell? ⟨w.heap.size + 1, 0, none⟩ = some (.int .i64 a1_0) ∧ w'.cell? ⟨w.heap.size + 1, 1, none⟩ = some (.int .i64 a1_1) ∧ w'.cell? ⟨w.heap.size + 1, 2, none⟩ = some (.slice A1_2 l1_2.length c1_2) ∧ w'.cell? ⟨w.heap.size + 1, 3, none⟩ = some (.slice A1_3 l1_3.length c1_3)) (ds := []) #[false, false, false, false, false, false, false, false, false, false, false, false, false, false, false, false, false, false, false, false, false, false, false, false, false, false, false, false, false, false, false, false, false, false, false, false, false, false, false, false, false, false, false, false, false, false, false, false, false, false, false, false] (by kernel_rfl) rfl rfl ⟨hc.out.1, hc.out.2.1, hc.out.2.2.1, hc.out.2.2.2.1, hc.out.2.2.2.2.1, hc.out.2.2.2.2.2.1, hc.out.2.2.2.2.2.2.1, hc.out.2.2.2.2.2.2.2.1, hc.out.2.2.2.2.2.2.2.2.1, hc.out.2.2.2.2.2.2.2.2.2.1, hc.out.2.2.2.2.2.2.2.2.2.2.1, hc.out.2.2.2.2.2.2.2.2.2.2.2.1, hc.out.2.2.2.2.2.2.2.2.2.2.2.2.1, hc.out.2.2.2.2.2.2.2.2.2.2.2.2.2.1, hc.out.2.2.2.2.2.2.2.2.2.2.2.2.2.2.1, hc.out.2.2.2.2.2.2.2.2.2.2.2.2.2.2.2.1, hc.out.2.2.2.2.2.2.2.2.2.2.2.2.2.2.2.2.1, hc.out.2.2.2.2.2.2.2.2.2.2.2.2.2.2.2.2.2.1, hc.out.2.2.2.2.2.2.2.2.2.2.2.2.2.2.2.2.2.2.1, hc.out.2.2.2.2.2.2.2.2.2.2.2.2.2.2.2.2.2.2.2.1, hc.out.2.2.2.2.2.2.2.2.2.2.2.2.2.2.2.2.2.2.2.2.1, hc.out.2.2.2.2.2.2.2.2.2.2.2.2.2.2.2.2.2.2.2.2.2⟩ (fun hHeld => ?_)
                  refine with_tabW bastillelaw02_CodecFields.tab14 bastillelaw02_CodecFields.bits14 (fun HT_ HW_ => ?_)
                  generalize World.drew _ = wd at GG hc hHeld ⊢
                  refine pure_ (i := 0) (N := some 100) (v := ?_) (a' := ?_) #[true, false, false, false, false, false, false, false, false, false, false, false, false, false, false, false, false, false, false, false, false, false, false, false, false, false, false, false, false, false, false, false, false, false, false, false, false, false, false, false, false, false, false, false, false, false, false, false, false, false, false, false] rfl rfl (any_of HT_.out (by kernel_rfl)) (fun _ _ _ h => h) (Or.inl ⟨by rfl, ?_⟩) ?_ ?_
                  rotate_left
                  · intro w'
                    go_simp
                    with_reducible rfl
                  rotate_left
                  · simp only [Act.put, List.setIfInBounds_toArray, List.set_cons_zero, List.set_cons_succ, i64_w, i32_w]
                    rfl
                  refine take_ (i := 1) (N := some 101) (v := ?_) (a' := ?_) #[true, true, false, false, false, false, false, false, false, false, false, false, false, false, false, false, false, false, false, false, false, false, false, false, false, false, false, false, false, false, false, false, false, false, false, false, false, false, false, false, false, false, false, false, false, false, false, false, false, false, false, false] rfl rfl (take_ofW HT_.out HW_.out (by kernel_rfl)) (fun _ _ _ h => h) (Or.inl ⟨by rfl, ?_⟩) hHeld ?_ ?_
                  rotate_left
                  · rintro w' ⟨s0, s1, s2, s3, s4, s5, s6, s7, s8, s9, s10, s11, s12, s13, s14, s15, s16, s17, s18, s19, s20, s21⟩
                    go_simp
                    with_reducible rfl
                  rotate_left
                  · simp only [Act.put, List.setIfInBounds_toArray, List.set_cons_zero, List.set_cons_succ, i64_w, i32_w]
                    rfl
                  refine pure_ (i := 2) (N := some 102) (v := ?_) (a' := ?_) #[true, true, true, false, false, false, false, false, false, false, false, false, false, false, false, false, false, false, false, false, false, false, false, false, false, false, false, false, false, false, false, false, false, false, false, false, false, false, false, false, false, false, false, false, false, false, false, false, false, false, false, false] rfl rfl (any_of HT_.out (by kernel_rfl)) (fun _ _ _ h => h) (Or.inl ⟨by rfl, ?_⟩) ?_ ?_
                  rotate_left
                  · intro w'
                    go_simp
                    with_reducible rfl
                  rotate_left
                  · simp only [Act.put, List.setIfInBounds_toArray, List.set_cons_zero, List.set_cons_succ, i64_w, i32_w]
                    rfl
                  refine pure_ (i := 3) (N := some 103) (v := ?_) (a' := ?_) #[true, true, true, true, false, false, false, false, false, false, false, false, false, false, false, false, false, false, false, false, false, false, false, false, false, false, false, false, false, false, false, false, false, false, false, false, false, false, false, false, false, false, false, false, false, false, false, false, false, false, false, false] rfl rfl (any_of HT_.out (by kernel_rfl)) (fun _ _ _ h => h) (Or.inl ⟨by rfl, ?_⟩) ?_ ?_
                  rotate_left
                  · intro w'
                    go_simp
                    with_reducible rfl
                  rotate_left
                  · simp only [Act.put, List.setIfInBounds_toArray, List.set_cons_zero, List.set_cons_succ, i64_w, i32_w]
                    rfl
                  refine pure_ (i := 4) (N := some 104) (v := ?_) (a' := ?_) #[true, true, true, true, true, false, false, false, false, false, false, false, false, false, false, false, false, false, false, false, false, false, false, false, false, false, false, false, false, false, false, false, false, false, false, false, false, false, false, false, false, false, false, false, false, false, false, false, false, false, false, false] rfl rfl (any_of HT_.out (by kernel_rfl)) (fun _ _ _ h => h) (Or.inl ⟨by rfl, ?_⟩) ?_ ?_
                  rotate_left
                  · intro w'
                    go_simp
                    with_reducible rfl
                  rotate_left
                  · simp only [Act.put, List.setIfInBounds_toArray, List.set_cons_zero, List.set_cons_succ, i64_w, i32_w]
                    rfl
                  refine pure_ (i := 6) (N := some 106) (v := ?_) (a' := ?_) #[true, true, true, true, true, false, true, false, false, false, false, false, false, false, false, false, false, false, false, false, false, false, false, false, false, false, false, false, false, false, false, false, false, false, false, false, false, false, false, false, false, false, false, false, false, false, false, false, false, false, false, false] rfl rfl (any_of HT_.out (by kernel_rfl)) (fun _ _ _ h => h) (Or.inl ⟨by rfl, ?_⟩) ?_ ?_
                  rotate_left
                  · intro w'
                    go_simp
                    with_reducible rfl
                  rotate_left
                  · simp only [Act.put, List.setIfInBounds_toArray, List.set_cons_zero, List.set_cons_succ, i64_w, i32_w]
                    rfl
                  refine take_ (i := 5) (N := some 105) (v := ?_) (a' := ?_) #[true, true, true, true, true, true, true, false, false, false, false, false, false, false, false, false, false, false, false, false, false, false, false, false, false, false, false, false, false, false, false, false, false, false, false, false, false, false, false, false, false, false, false, false, false, false, false, false, false, false, false, false] rfl rfl (take_ofW HT_.out HW_.out (by kernel_rfl)) (fun _ _ _ h => h) (Or.inl ⟨by rfl, ?_⟩) hHeld ?_ ?_
                  rotate_left
                  · rintro w' ⟨s0, s1, s2, s3, s4, s5, s6, s7, s8, s9, s10, s11, s12, s13, s14, s15, s16, s17, s18, s19, s20, s21⟩
                    go_simp
                    with_reducible rfl
                  rotate_left
                  · simp only [Act.put, List.setIfInBounds_toArray, List.set_cons_zero, List.set_cons_succ, i64_w, i32_w]
                    rfl
                  refine take_ (i := 7) (N := some 107) (v := ?_) (a' := ?_) #[true, true, true, true, true, true, true, true, false, false, false, false, false, false, false, false, false, false, false, false, false, false, false, false, false, false, false, false, false, false, false, false, false, false, false, false, false, false, false, false, false, false, false, false, false, false, false, false, false, false, false, false] rfl rfl (take_ofW HT_.out HW_.out (by kernel_rfl)) (fun _ _ _ h => h) (Or.inl ⟨by rfl, ?_⟩) hHeld ?_ ?_
                  rotate_left
                  · rintro w' ⟨s0, s1, s2, s3, s4, s5, s6, s7, s8, s9, s10, s11, s12, s13, s14, s15, s16, s17, s18, s19, s20, s21⟩
                    go_simp
                    with_reducible rfl
                  rotate_left
                  · simp only [Act.put, List.setIfInBounds_toArray, List.set_cons_zero, List.set_cons_succ, i64_w, i32_w]
                    rfl
                  refine pure_ (i := 8) (N := some 108) (v := ?_) (a' := ?_) #[true, true, true, true, true, true, true, true, true, false, false, false, false, false, false, false, false, false, false, false, false, false, false, false, false, false, false, false, false, false, false, false, false, false, false, false, false, false, false, false, false, false, false, false, false, false, false, false, false, false, false, false] rfl rfl (any_of HT_.out (by kernel_rfl)) (fun _ _ _ h => h) (Or.inl ⟨by rfl, ?_⟩) ?_ ?_
                  rotate_left
                  · intro w'
                    go_simp
                    with_reducible rfl
                  rotate_left
                  · simp only [Act.put, List.setIfInBounds_toArray, List.set_cons_zero, List.set_cons_succ, i64_w, i32_w]
                    rfl
                  refine pure_ (i := 9) (N := some 109) (v := ?_) (a' := ?_) #[true, true, true, true, true, true, true, true, true, true, false, false, false, false, false, false, false, false, false, false, false, false, false, false, false, false, false, false, false, false, false, false, false, false, false, false, false, false, false, false, false, false, false, false, false, false, false, false, false, false, false, false] rfl rfl (any_of HT_.out (by kernel_rfl)) (fun _ _ _ h => h) (Or.inl ⟨by rfl, ?_⟩) ?_ ?_
                  rotate_left
                  · intro w'
                    go_simp
                    with_reducible rfl
                  rotate_left
                  · simp only [Act.put, List.setIfInBounds_toArray, List.set_cons_zero, List.set_cons_succ, i64_w, i32_w]
                    rfl
                  refine pure_ (i := 10) (N := some 110) (v := ?_) (a' := ?_) #[true, true, true, true, true, true, true, true, true, true, true, false, false, false, false, false, false, false, false, false, false, false, false, false, false, false, false, false, false, false, false, false, false, false, false, false, false, false, false, false, false, false, false, false, false, false, false, false, false, false, false, false] rfl rfl (any_of HT_.out (by kernel_rfl)) (fun _ _ _ h => h) (Or.inl ⟨by rfl, ?_⟩) ?_ ?_
                  rotate_left
                  · intro w'
                    go_simp
                    with_reducible rfl
                  rotate_left
                  · simp only [Act.put, List.setIfInBounds_toArray, List.set_cons_zero, List.set_cons_succ, i64_w, i32_w]
                    rfl
                  refine pure_ (i := 11) (N := some 111) (v := ?_) (a' := ?_) #[true, true, true, true, true, true, true, true, true, true, true, true, false, false, false, false, false, false, false, false, false, false, false, false, false, false, false, false, false, false, false, false, false, false, false, false, false, false, false, false, false, false, false, false, false, false, false, false, false, false, false, false] rfl rfl (any_of HT_.out (by kernel_rfl)) (fun _ _ _ h => h) (Or.inl ⟨by rfl, ?_⟩) ?_ ?_
                  rotate_left
                  · intro w'
                    go_simp
                    with_reducible rfl
                  rotate_left
                  · simp only [Act.put, List.setIfInBounds_toArray, List.set_cons_zero, List.set_cons_succ, i64_w, i32_w]
                    rfl
                  refine take_ (i := 12) (N := some 112) (v := ?_) (a' := ?_) #[true, true, true, true, true, true, true, true, true, true, true, true, true, false, false, false, false, false, false, false, false, false, false, false, false, false, false, false, false, false, false, false, false, false, false, false, false, false, false, false, false, false, false, false, false, false, false, false, false, false, false, false] rfl rfl (take_ofW HT_.out HW_.out (by kernel_rfl)) (fun _ _ _ h => h) (Or.inl ⟨by rfl, ?_⟩) hHeld ?_ ?_
                  rotate_left
                  · rintro w' ⟨s0, s1, s2, s3, s4, s5, s6, s7, s8, s9, s10, s11, s12, s13, s14, s15, s16, s17, s18, s19, s20, s21⟩
                    go_simp
                    with_reducible rfl
                  rotate_left
                  · simp only [Act.put, List.setIfInBounds_toArray, List.set_cons_zero, List.set_cons_succ, i64_w, i32_w]
                    rfl
                  refine pure_ (i := 13) (N := some 113) (v := ?_) (a' := ?_) #[true, true, true, true, true, true, true, true, true, true, true, true, true, true, false, false, false, false, false, false, false, false, false, false, false, false, false, false, false, false, false, false, false, false, false, false, false, false, false, false, false, false, false, false, false, false, false, false, false, false, false, false] rfl rfl (any_of HT_.out (by kernel_rfl)) (fun _ _ _ h => h) (Or.inl ⟨by rfl, ?_⟩) ?_ ?_
                  rotate_left
                  · intro w'
                    go_simp
                    with_reducible rfl
                  rotate_left
                  · simp only [Act.put, List.setIfInBounds_toArray, List.set_cons_zero, List.set_cons_succ, i64_w, i32_w]
                    rfl
                  refine pure_ (i := 14) (N := some 114) (v := ?_) (a' := ?_) #[true, true, true, true, true, true, true, true, true, true, true, true, true, true, true, false, false, false, false, false, false, false, false, false, false, false, false, false, false, false, false, false, false, false, false, false, false, false, false, false, false, false, false, false, false, false, false, false, false, false, false, false] rfl rfl (any_of HT_.out (by kernel_rfl)) (fun _ _ _ h => h) (Or.inl ⟨by rfl, ?_⟩) ?_ ?_
                  rotate_left
                  · intro w'
                    go_simp
                    with_reducible rfl
                  rotate_left
                  · simp only [Act.put, List.setIfInBounds_toArray, List.set_cons_zero, List.set_cons_succ, i64_w, i32_w]
                    rfl
                  refine pure_ (i := 15) (N := some 115) (v := ?_) (a' := ?_) #[true, true, true, true, true, true, true, true, true, true, true, true, true, true, true, true, false, false, false, false, false, false, false, false, false, false, false, false, false, false, false, false, false, false, false, false, false, false, false, false, false, false, false, false, false, false, false, false, false, false, false, false] rfl rfl (any_of HT_.out (by kernel_rfl)) (fun _ _ _ h => h) (Or.inl ⟨by rfl, ?_⟩) ?_ ?_
                  rotate_left
                  · intro w'
                    go_simp
                    with_reducible rfl
                  rotate_left
                  · simp only [Act.put, List.setIfInBounds_toArray, List.set_cons_zero, List.set_cons_succ, i64_w, i32_w]
                    rfl
                  refine pure_ (i := 16) (N := some 116) (v := ?_) (a' := ?_) #[true, true, true, true, true, true, true, true, true, true, true, true, true, true, true, true, true, false, false, false, false, false, false, false, false, false, false, false, false, false, false, false, false, false, false, false, false, false, false, false, false, false, false, false, false, false, false, false, false, false, false, false] rfl rfl (any_of HT_.out (by kernel_rfl)) (fun _ _ _ h => h) (Or.inl ⟨by rfl, ?_⟩) ?_ ?_
                  rotate_left
                  · intro w'
                    go_simp
                    with_reducible rfl
                  rotate_left
                  · simp only [Act.put, List.setIfInBounds_toArray, List.set_cons_zero, List.set_cons_succ, i64_w, i32_w]
                    rfl
                  refine pure_ (i := 18) (N := some 118) (v := ?_) (a' := ?_) #[true, true, true, true, true, true, true, true, true, true, true, true, true, true, true, true, true, false, true, false, false, false, false, false, false, false, false, false, false, false, false, false, false, false, false, false, false, false, false, false, false, false, false, false, false, false, false, false, false, false, false, false] rfl rfl (any_of HT_.out (by kernel_rfl)) (fun _ _ _ h => h) (Or.inl ⟨by rfl, ?_⟩) ?_ ?_
                  rotate_left
                  · intro w'
                    go_simp
                    with_reducible rfl
                  rotate_left
                  · simp only [Act.put, List.setIfInBounds_toArray, List.set_cons_zero, List.set_cons_succ, i64_w, i32_w]
                    rfl
                  refine take_ (i := 17) (N := some 117) (v := ?_) (a' := ?_) #[true, true, true, true, true, true, true, true, true, true, true, true, true, true, true, true, true, true, true, false, false, false, false, false, false, false, false, false, false, false, false, false, false, false, false, false, false, false, false, false, false, false, false, false, false, false, false, false, false, false, false, false] rfl rfl (take_ofW HT_.out HW_.out (by kernel_rfl)) (fun _ _ _ h => h) (Or.inl ⟨by rfl, ?_⟩) hHeld ?_ ?_
                  rotate_left
                  · rintro w' ⟨s0, s1, s2, s3, s4, s5, s6, s7, s8, s9, s10, s11, s12, s13, s14, s15, s16, s17, s18, s19, s20, s21⟩
                    go_simp
                    with_reducible rfl
                  rotate_left
                  · simp only [Act.put, List.setIfInBounds_toArray, List.set_cons_zero, List.set_cons_succ, i64_w, i32_w]
                    rfl
                  refine take_ (i := 19) (N := some 119) (v := ?_) (a' := ?_) #[true, true, true, true, true, true, true, true, true, true, true, true, true, true, true, true, true, true, true, true, false, false, false, false, false, false, false, false, false, false, false, false, false, false, false, false, false, false, false, false, false, false, false, false, false, false, false, false, false, false, false, false] rfl rfl (take_ofW HT_.out HW_.out (by kernel_rfl)) (fun _ _ _ h => h) (Or.inl ⟨by rfl, ?_⟩) hHeld ?_ ?_
                  rotate_left
                  · rintro w' ⟨s0, s1, s2, s3, s4, s5, s6, s7, s8, s9, s10, s11, s12, s13, s14, s15, s16, s17, s18, s19, s20, s21⟩
                    go_simp
                    with_reducible rfl
                  rotate_left
                  · simp only [Act.put, List.setIfInBounds_toArray, List.set_cons_zero, List.set_cons_succ, i64_w, i32_w]
                    rfl
                  refine one_ (i := 20) (N := some 120) #[true, true, true, true, true, true, true, true, true, true, true, true, true, true, true, true, true, true, true, true, true, false, false, false, false, false, false, false, false, false, false, false, false, false, false, false, false, false, false, false, false, false, false, false, false, false, false, false, false, false, false, false] rfl rfl (one_of HT_.out (by kernel_rfl)) (by decide) (fun K hK => ?_)
                  refine goes_ Try.func15 (by kernel_rfl) rfl #[.slice A1_2 l1_2.length c1_2, .slice A1_2 l1_2.length c1_2] (by rfl) rfl rfl (by simp only [List.map_toArray, List.map_cons, List.map_nil]; rfl) ?_
                  with_reducible refine (bastilleref01_Same.calls k A1_2 c1_2 l1_2 A1_2 c1_2 l1_2 true _ (Kd.C_below R12.out GG.out.hb) L12.out (Kd.C_below R12.out GG.out.hb) L12.out HS1.out).mono ?_
                  rintro e wn ⟨rfl, hd⟩
                  refine ⟨_, rfl, ?_⟩
                  have hb := hd.below
                  clear hd
                  have GN_ := Aside0.mk (GG.out.step hb)
                  clear GG hb hc
                  have GG := GN_
                  clear GN_
                  have hc := Aside0.mk GG.out.cells
                  refine hK.out _ _ ⟨hc.out.1, hc.out.2.1, hc.out.2.2.1, hc.out.2.2.2.1, hc.out.2.2.2.2.1, hc.out.2.2.2.2.2.1, hc.out.2.2.2.2.2.2.1, hc.out.2.2.2.2.2.2.2.1, hc.out.2.2.2.2.2.2.2.2.1, hc.out.2.2.2.2.2.2.2.2.2.1, hc.out.2.2.2.2.2.2.2.2.2.2.1, hc.out.2.2.2.2.2.2.2.2.2.2.2.1, hc.out.2.2.2.2.2.2.2.2.2.2.2.2.1, hc.out.2.2.2.2.2.2.2.2.2.2.2.2.2.1, hc.out.2.2.2.2.2.2.2.2.2.2.2.2.2.2.1, hc.out.2.2.2.2.2.2.2.2.2.2.2.2.2.2.2.1, hc.out.2.2.2.2.2.2.2.2.2.2.2.2.2.2.2.2.1, hc.out.2.2.2.2.2.2.2.2.2.2.2.2.2.2.2.2.2.1, hc.out.2.2.2.2.2.2.2.2.2.2.2.2.2.2.2.2.2.2.1, hc.out.2.2.2.2.2.2.2.2.2.2.2.2.2.2.2.2.2.2.2.1, hc.out.2.2.2.2.2.2.2.2.2.2.2.2.2.2.2.2.2.2.2.2.1, hc.out.2.2.2.2.2.2.2.2.2.2.2.2.2.2.2.2.2.2.2.2.2⟩ (fun hHeld => ?_)
                  clear hK K
                  refine norm_ (a' := ?_) ?_ ?_
                  rotate_left
                  · show Act.put _ (some 120) _ = _
                    simp only [Act.put, List.setIfInBounds_toArray, List.set_cons_zero, List.set_cons_succ, i64_w, i32_w]
                    rfl
                  refine pure_ (i := 21) (N := some 121) (v := ?_) (a' := ?_) #[true, true, true, true, true, true, true, true, true, true, true, true, true, true, true, true, true, true, true, true, true, true, false, false, false, false, false, false, false, false, false, false, false, false, false, false, false, false, false, false, false, false, false, false, false, false, false, false, false, false, false, false] rfl rfl (any_of HT_.out (by kernel_rfl)) (fun _ _ _ h => h) (Or.inl ⟨by rfl, ?_⟩) ?_ ?_
                  rotate_left
                  · intro w'
                    go_simp
                    with_reducible rfl
                  rotate_left
                  · simp only [Act.put, List.setIfInBounds_toArray, List.set_cons_zero, List.set_cons_succ, i64_w, i32_w]
                    rfl
                  refine pure_ (i := 22) (N := some 122) (v := ?_) (a' := ?_) #[true, true, true, true, true, true, true, true, true, true, true, true, true, true, true, true, true, true, true, true, true, true, true, false, false, false, false, false, false, false, false, false, false, false, false, false, false, false, false, false, false, false, false, false, false, false, false, false, false, false, false, false] rfl rfl (any_of HT_.out (by kernel_rfl)) (fun _ _ _ h => h) (Or.inl ⟨by rfl, ?_⟩) ?_ ?_
                  rotate_left
                  · intro w'
                    go_simp
                    with_reducible rfl
                  rotate_left
                  · simp only [Act.put, List.setIfInBounds_toArray, List.set_cons_zero, List.set_cons_succ, i64_w, i32_w]
                    rfl
                  refine pure_ (i := 23) (N := some 123) (v := ?_) (a' := ?_) #[true, true, true, true, true, true, true, true, true, true, true, true, true, true, true, true, true, true, true, true, true, true, true, true, false, false, false, false, false, false, false, false, false, false, false, false, false, false, false, false, false, false, false, false, false, false, false, false, false, false, false, false] rfl rfl (any_of HT_.out (by kernel_rfl)) (fun _ _ _ h => h) (Or.inl ⟨by rfl, ?_⟩) ?_ ?_
                  rotate_left
                  · intro w'
                    go_simp
                    with_reducible rfl
                  rotate_left
                  · simp only [Act.put, List.setIfInBounds_toArray, List.set_cons_zero, List.set_cons_succ, i64_w, i32_w]
                    rfl
                  refine pure_ (i := 24) (N := some 124) (v := ?_) (a' := ?_) #[true, true, true, true, true, true, true, true, true, true, true, true, true, true, true, true, true, true, true, true, true, true, true, true, true, false, false, false, false, false, false, false, false, false, false, false, false, false, false, false, false, false, false, false, false, false, false, false, false, false, false, false] rfl rfl (any_of HT_.out (by kernel_rfl)) (fun _ _ _ h => h) (Or.inl ⟨by rfl, ?_⟩) ?_ ?_
                  rotate_left
                  · intro w'
                    go_simp
                    with_reducible rfl
                  rotate_left
                  · simp only [Act.put, List.setIfInBounds_toArray, List.set_cons_zero, List.set_cons_succ, i64_w, i32_w]
                    rfl
                  refine take_ (i := 25) (N := some 125) (v := ?_) (a' := ?_) #[true, true, true, true, true, true, true, true, true, true, true, true, true, true, true, true, true, true, true, true, true, true, true, true, true, true, false, false, false, false, false, false, false, false, false, false, false, false, false, false, false, false, false, false, false, false, false, false, false, false, false, false] rfl rfl (take_ofW HT_.out HW_.out (by kernel_rfl)) (fun _ _ _ h => h) (Or.inl ⟨by rfl, ?_⟩) hHeld ?_ ?_
                  rotate_left
                  · rintro w' ⟨s0, s1, s2, s3, s4, s5, s6, s7, s8, s9, s10, s11, s12, s13, s14, s15, s16, s17, s18, s19, s20, s21⟩
                    go_simp
                    with_reducible rfl
                  rotate_left
                  · simp only [Act.put, List.setIfInBounds_toArray, List.set_cons_zero, List.set_cons_succ, i64_w, i32_w]
                    rfl
                  refine pure_ (i := 26) (N := some 126) (v := ?_) (a' := ?_) #[true, true, true, true, true, true, true, true, true, true, true, true, true, true, true, true, true, true, true, true, true, true, true, true, true, true, true, false, false, false, false, false, false, false, false, false, false, false, false, false, false, false, false, false, false, false, false, false, false, false, false, false] rfl rfl (any_of HT_.out (by kernel_rfl)) (fun _ _ _ h => h) (Or.inl ⟨by rfl, ?_⟩) ?_ ?_
                  rotate_left
                  · intro w'
                    go_simp
                    with_reducible rfl
                  rotate_left
                  · simp only [Act.put, List.setIfInBounds_toArray, List.set_cons_zero, List.set_cons_succ, i64_w, i32_w]
                    rfl
                  refine pure_ (i := 27) (N := some 127) (v := ?_) (a' := ?_) #[true, true, true, true, true, true, true, true, true, true, true, true, true, true, true, true, true, true, true, true, true, true, true, true, true, true, true, true, false, false, false, false, false, false, false, false, false, false, false, false, false, false, false, false, false, false, false, false, false, false, false, false] rfl rfl (any_of HT_.out (by kernel_rfl)) (fun _ _ _ h => h) (Or.inl ⟨by rfl, ?_⟩) ?_ ?_
                  rotate_left
                  · intro w'
                    go_simp
                    with_reducible rfl
                  rotate_left
                  · simp only [Act.put, List.setIfInBounds_toArray, List.set_cons_zero, List.set_cons_succ, i64_w, i32_w]
                    rfl
                  refine pure_ (i := 28) (N := some 128) (v := ?_) (a' := ?_) #[true, true, true, true, true, true, true, true, true, true, true, true, true, true, true, true, true, true, true, true, true, true, true, true, true, true, true, true, true, false, false, false, false, false, false, false, false, false, false, false, false, false, false, false, false, false, false, false, false, false, false, false] rfl rfl (any_of HT_.out (by kernel_rfl)) (fun _ _ _ h => h) (Or.inl ⟨by rfl, ?_⟩) ?_ ?_
                  rotate_left
                  · intro w'
                    go_simp
                    with_reducible rfl
                  rotate_left
                  · simp only [Act.put, List.setIfInBounds_toArray, List.set_cons_zero, List.set_cons_succ, i64_w, i32_w]
                    rfl
                  refine pure_ (i := 29) (N := some 129) (v := ?_) (a' := ?_) #[true, true, true, true, true, true, true, true, true, true, true, true, true, true, true, true, true, true, true, true, true, true, true, true, true, true, true, true, true, true, false, false, false, false, false, false, false, false, false, false, false, false, false, false, false, false, false, false, false, false, false, false] rfl rfl (any_of HT_.out (by kernel_rfl)) (fun _ _ _ h => h) (Or.inl ⟨by rfl, ?_⟩) ?_ ?_
                  rotate_left
                  · intro w'
                    go_simp
                    with_reducible rfl
                  rotate_left
                  · simp only [Act.put, List.setIfInBounds_toArray, List.set_cons_zero, List.set_cons_succ, i64_w, i32_w]
                    rfl
                  refine take_ (i := 30) (N := some 130) (v := ?_) (a' := ?_) #[true, true, true, true, true, true, true, true, true, true, true, true, true, true, true, true, true, true, true, true, true, true, true, true, true, true, true, true, true, true, true, false, false, false, false, false, false, false, false, false, false, false, false, false, false, false, false, false, false, false, false, false] rfl rfl (take_ofW HT_.out HW_.out (by kernel_rfl)) (fun _ _ _ h => h) (Or.inl ⟨by rfl, ?_⟩) hHeld ?_ ?_
                  rotate_left
                  · rintro w' ⟨s0, s1, s2, s3, s4, s5, s6, s7, s8, s9, s10, s11, s12, s13, s14, s15, s16, s17, s18, s19, s20, s21⟩
                    go_simp
                    with_reducible rfl
                  rotate_left
                  · simp only [Act.put, List.setIfInBounds_toArray, List.set_cons_zero, List.set_cons_succ, i64_w, i32_w]
                    rfl
                  refine pure_ (i := 31) (N := some 131) (v := ?_) (a' := ?_) #[true, true, true, true, true, true, true, true, true, true, true, true, true, true, true, true, true, true, true, true, true, true, true, true, true, true, true, true, true, true, true, true, false, false, false, false, false, false, false, false, false, false, false, false, false, false, false, false, false, false, false, false] rfl rfl (any_of HT_.out (by kernel_rfl)) (fun _ _ _ h => h) (Or.inl ⟨by rfl, ?_⟩) ?_ ?_
                  rotate_left
                  · intro w'
                    go_simp
                    with_reducible rfl
                  rotate_left
                  · simp only [Act.put, List.setIfInBounds_toArray, List.set_cons_zero, List.set_cons_succ, i64_w, i32_w]
                    rfl
                  refine pure_ (i := 32) (N := some 132) (v := ?_) (a' := ?_) #[true, true, true, true, true, true, true, true, true, true, true, true, true, true, true, true, true, true, true, true, true, true, true, true, true, true, true, true, true, true, true, true, true, false, false, false, false, false, false, false, false, false, false, false, false, false, false, false, false, false, false, false] rfl rfl (any_of HT_.out (by kernel_rfl)) (fun _ _ _ h => h) (Or.inl ⟨by rfl, ?_⟩) ?_ ?_
                  rotate_left
                  · intro w'
                    go_simp
                    with_reducible rfl
                  rotate_left
                  · simp only [Act.put, List.setIfInBounds_toArray, List.set_cons_zero, List.set_cons_succ, i64_w, i32_w]
                    rfl
                  refine pure_ (i := 33) (N := some 133) (v := ?_) (a' := ?_) #[true, true, true, true, true, true, true, true, true, true, true, true, true, true, true, true, true, true, true, true, true, true, true, true, true, true, true, true, true, true, true, true, true, true, false, false, false, false, false, false, false, false, false, false, false, false, false, false, false, false, false, false] rfl rfl (any_of HT_.out (by kernel_rfl)) (fun _ _ _ h => h) (Or.inl ⟨by rfl, ?_⟩) ?_ ?_
                  rotate_left
                  · intro w'
                    go_simp
                    with_reducible rfl
                  rotate_left
                  · simp only [Act.put, List.setIfInBounds_toArray, List.set_cons_zero, List.set_cons_succ, i64_w, i32_w]
                    rfl
                  refine pure_ (i := 34) (N := some 134) (v := ?_) (a' := ?_) #[true, true, true, true, true, true, true, true, true, true, true, true, true, true, true, true, true, true, true, true, true, true, true, true, true, true, true, true, true, true, true, true, true, true, true, false, false, false, false, false, false, false, false, false, false, false, false, false, false, false, false, false] rfl rfl (any_of HT_.out (by kernel_rfl)) (fun _ _ _ h => h) (Or.inl ⟨by rfl, ?_⟩) ?_ ?_
                  rotate_left
                  · intro w'
                    go_simp
                    with_reducible rfl
                  rotate_left
                  · simp only [Act.put, List.setIfInBounds_toArray, List.set_cons_zero, List.set_cons_succ, i64_w, i32_w]
                    rfl
                  refine pure_ (i := 35) (N := some 135) (v := ?_) (a' := ?_) #[true, true, true, true, true, true, true, true, true, true, true, true, true, true, true, true, true, true, true, true, true, true, true, true, true, true, true, true, true, true, true, true, true, true, true, true, false, false, false, false, false, false, false, false, false, false, false, false, false, false, false, false] rfl rfl (any_of HT_.out (by kernel_rfl)) (fun _ _ _ h => h) (Or.inl ⟨by rfl, ?_⟩) ?_ ?_
                  rotate_left
                  · intro w'
                    go_simp
                    with_reducible rfl
                  rotate_left
                  · simp only [Act.put, List.setIfInBounds_toArray, List.set_cons_zero, List.set_cons_succ, i64_w, i32_w]
                    rfl
                  refine take_ (i := 36) (N := some 136) (v := ?_) (a' := ?_) #[true, true, true, true, true, true, true, true, true, true, true, true, true, true, true, true, true, true, true, true, true, true, true, true, true, true, true, true, true, true, true, true, true, true, true, true, true, false, false, false, false, false, false, false, false, false, false, false, false, false, false, false] rfl rfl (take_ofW HT_.out HW_.out (by kernel_rfl)) (fun _ _ _ h => h) (Or.inl ⟨by rfl, ?_⟩) hHeld ?_ ?_
                  rotate_left
                  · rintro w' ⟨s0, s1, s2, s3, s4, s5, s6, s7, s8, s9, s10, s11, s12, s13, s14, s15, s16, s17, s18, s19, s20, s21⟩
                    go_simp
                    with_reducible rfl
                  rotate_left
                  · simp only [Act.put, List.setIfInBounds_toArray, List.set_cons_zero, List.set_cons_succ, i64_w, i32_w]
                    rfl
                  refine pure_ (i := 37) (N := some 137) (v := ?_) (a' := ?_) #[true, true, true, true, true, true, true, true, true, true, true, true, true, true, true, true, true, true, true, true, true, true, true, true, true, true, true, true, true, true, true, true, true, true, true, true, true, true, false, false, false, false, false, false, false, false, false, false, false, false, false, false] rfl rfl (any_of HT_.out (by kernel_rfl)) (fun _ _ _ h => h) (Or.inl ⟨by rfl, ?_⟩) ?_ ?_
                  rotate_left
                  · intro w'
                    go_simp
                    with_reducible rfl
                  rotate_left
                  · simp only [Act.put, List.setIfInBounds_toArray, List.set_cons_zero, List.set_cons_succ, i64_w, i32_w]
                    rfl
                  refine take_ (i := 38) (N := some 138) (v := ?_) (a' := ?_) #[true, true, true, true, true, true, true, true, true, true, true, true, true, true, true, true, true, true, true, true, true, true, true, true, true, true, true, true, true, true, true, true, true, true, true, true, true, true, true, false, false, false, false, false, false, false, false, false, false, false, false, false] rfl rfl (take_ofW HT_.out HW_.out (by kernel_rfl)) (fun _ _ _ h => h) (Or.inl ⟨by rfl, ?_⟩) hHeld ?_ ?_
                  rotate_left
                  · rintro w' ⟨s0, s1, s2, s3, s4, s5, s6, s7, s8, s9, s10, s11, s12, s13, s14, s15, s16, s17, s18, s19, s20, s21⟩
                    go_simp
                    with_reducible rfl
                  rotate_left
                  · simp only [Act.put, List.setIfInBounds_toArray, List.set_cons_zero, List.set_cons_succ, i64_w, i32_w]
                    rfl
                  refine take_ (i := 39) (N := some 139) (v := ?_) (a' := ?_) #[true, true, true, true, true, true, true, true, true, true, true, true, true, true, true, true, true, true, true, true, true, true, true, true, true, true, true, true, true, true, true, true, true, true, true, true, true, true, true, true, false, false, false, false, false, false, false, false, false, false, false, false] rfl rfl (take_ofW HT_.out HW_.out (by kernel_rfl)) (fun _ _ _ h => h) (Or.inl ⟨by rfl, ?_⟩) hHeld ?_ ?_
                  rotate_left
                  · rintro w' ⟨s0, s1, s2, s3, s4, s5, s6, s7, s8, s9, s10, s11, s12, s13, s14, s15, s16, s17, s18, s19, s20, s21⟩
                    go_simp
                    with_reducible rfl
                  rotate_left
                  · simp only [Act.put, List.setIfInBounds_toArray, List.set_cons_zero, List.set_cons_succ, i64_w, i32_w]
                    rfl
                  refine one_ (i := 40) (N := some 140) #[true, true, true, true, true, true, true, true, true, true, true, true, true, true, true, true, true, true, true, true, true, true, true, true, true, true, true, true, true, true, true, true, true, true, true, true, true, true, true, true, true, false, false, false, false, false, false, false, false, false, false, false] rfl rfl (one_of HT_.out (by kernel_rfl)) (by decide) (fun K hK => ?_)
                  refine goes_ Try.func28 (by kernel_rfl) rfl #[.agg #[.int .i64 a0_0, .int .i64 a0_1, .slice A0_2 l0_2.length c0_2, .slice A0_3 l0_3.length c0_3], .agg #[.int .i64 a0_0, .int .i64 a0_1, .slice A0_2 l0_2.length c0_2, .slice A0_3 l0_3.length c0_3]] (by rfl) rfl rfl (by simp only [List.map_toArray, List.map_cons, List.map_nil]; rfl) ?_
                  with_reducible refine (bastilleref02_Same.calls k a0_0 a0_1 A0_2 c0_2 l0_2 A0_3 c0_3 l0_3 a0_0 a0_1 A0_2 c0_2 l0_2 A0_3 c0_3 l0_3 true _ (Kd.C_below R02.out GG.out.hb) L02.out (Kd.C_below R03.out GG.out.hb) L03.out (Kd.C_below R02.out GG.out.hb) L02.out (Kd.C_below R03.out GG.out.hb) L03.out HS2.out).mono ?_
                  rintro e wn ⟨rfl, hb⟩
                  refine ⟨_, rfl, ?_⟩
                  have GN_ := Aside0.mk (GG.out.step hb)
                  clear GG hb hc
                  have GG := GN_
                  clear GN_
                  have hc := Aside0.mk GG.out.cells
                  refine hK.out _ _ ⟨hc.out.1, hc.out.2.1, hc.out.2.2.1, hc.out.2.2.2.1, hc.out.2.2.2.2.1, hc.out.2.2.2.2.2.1, hc.out.2.2.2.2.2.2.1, hc.out.2.2.2.2.2.2.2.1, hc.out.2.2.2.2.2.2.2.2.1, hc.out.2.2.2.2.2.2.2.2.2.1, hc.out.2.2.2.2.2.2.2.2.2.2.1, hc.out.2.2.2.2.2.2.2.2.2.2.2.1, hc.out.2.2.2.2.2.2.2.2.2.2.2.2.1, hc.out.2.2.2.2.2.2.2.2.2.2.2.2.2.1, hc.out.2.2.2.2.2.2.2.2.2.2.2.2.2.2.1, hc.out.2.2.2.2.2.2.2.2.2.2.2.2.2.2.2.1, hc.out.2.2.2.2.2.2.2.2.2.2.2.2.2.2.2.2.1, hc.out.2.2.2.2.2.2.2.2.2.2.2.2.2.2.2.2.2.1, hc.out.2.2.2.2.2.2.2.2.2.2.2.2.2.2.2.2.2.2.1, hc.out.2.2.2.2.2.2.2.2.2.2.2.2.2.2.2.2.2.2.2.1, hc.out.2.2.2.2.2.2.2.2.2.2.2.2.2.2.2.2.2.2.2.2.1, hc.out.2.2.2.2.2.2.2.2.2.2.2.2.2.2.2.2.2.2.2.2.2⟩ (fun hHeld => ?_)
                  clear hK K
                  refine norm_ (a' := ?_) ?_ ?_
                  rotate_left
                  · show Act.put _ (some 140) _ = _
                    simp only [Act.put, List.setIfInBounds_toArray, List.set_cons_zero, List.set_cons_succ, i64_w, i32_w]
                    rfl
                  refine pure_ (i := 41) (N := some 141) (v := ?_) (a' := ?_) #[true, true, true, true, true, true, true, true, true, true, true, true, true, true, true, true, true, true, true, true, true, true, true, true, true, true, true, true, true, true, true, true, true, true, true, true, true, true, true, true, true, true, false, false, false, false, false, false, false, false, false, false] rfl rfl (any_of HT_.out (by kernel_rfl)) (fun _ _ _ h => h) (Or.inl ⟨by rfl, ?_⟩) ?_ ?_
                  rotate_left
                  · intro w'
                    go_simp
                    with_reducible rfl
                  rotate_left
                  · simp only [Act.put, List.setIfInBounds_toArray, List.set_cons_zero, List.set_cons_succ, i64_w, i32_w]
                    rfl
                  refine pure_ (i := 42) (N := some 142) (v := ?_) (a' := ?_) #[true, true, true, true, true, true, true, true, true, true, true, true, true, true, true, true, true, true, true, true, true, true, true, true, true, true, true, true, true, true, true, true, true, true, true, true, true, true, true, true, true, true, true, false, false, false, false, false, false, false, false, false] rfl rfl (any_of HT_.out (by kernel_rfl)) (fun _ _ _ h => h) (Or.inl ⟨by rfl, ?_⟩) ?_ ?_
                  rotate_left
                  · intro w'
                    go_simp
                    with_reducible rfl
                  rotate_left
                  · simp only [Act.put, List.setIfInBounds_toArray, List.set_cons_zero, List.set_cons_succ, i64_w, i32_w]
                    rfl
                  refine pure_ (i := 43) (N := some 143) (v := ?_) (a' := ?_) #[true, true, true, true, true, true, true, true, true, true, true, true, true, true, true, true, true, true, true, true, true, true, true, true, true, true, true, true, true, true, true, true, true, true, true, true, true, true, true, true, true, true, true, true, false, false, false, false, false, false, false, false] rfl rfl (any_of HT_.out (by kernel_rfl)) (fun _ _ _ h => h) (Or.inl ⟨by rfl, ?_⟩) ?_ ?_
                  rotate_left
                  · intro w'
                    go_simp
                    with_reducible rfl
                  rotate_left
                  · simp only [Act.put, List.setIfInBounds_toArray, List.set_cons_zero, List.set_cons_succ, i64_w, i32_w]
                    rfl
                  refine pure_ (i := 44) (N := some 144) (v := ?_) (a' := ?_) #[true, true, true, true, true, true, true, true, true, true, true, true, true, true, true, true, true, true, true, true, true, true, true, true, true, true, true, true, true, true, true, true, true, true, true, true, true, true, true, true, true, true, true, true, true, false, false, false, false, false, false, false] rfl rfl (any_of HT_.out (by kernel_rfl)) (fun _ _ _ h => h) (Or.inl ⟨by rfl, ?_⟩) ?_ ?_
                  rotate_left
                  · intro w'
                    go_simp
                    with_reducible rfl
                  rotate_left
                  · simp only [Act.put, List.setIfInBounds_toArray, List.set_cons_zero, List.set_cons_succ, i64_w, i32_w]
                    rfl
                  refine take_ (i := 45) (N := some 145) (v := ?_) (a' := ?_) #[true, true, true, true, true, true, true, true, true, true, true, true, true, true, true, true, true, true, true, true, true, true, true, true, true, true, true, true, true, true, true, true, true, true, true, true, true, true, true, true, true, true, true, true, true, true, false, false, false, false, false, false] rfl rfl (take_ofW HT_.out HW_.out (by kernel_rfl)) (fun _ _ _ h => h) (Or.inl ⟨by rfl, ?_⟩) hHeld ?_ ?_
                  rotate_left
                  · rintro w' ⟨s0, s1, s2, s3, s4, s5, s6, s7, s8, s9, s10, s11, s12, s13, s14, s15, s16, s17, s18, s19, s20, s21⟩
                    go_simp
                    with_reducible rfl
                  rotate_left
                  · simp only [Act.put, List.setIfInBounds_toArray, List.set_cons_zero, List.set_cons_succ, i64_w, i32_w]
                    rfl
                  refine pure_ (i := 46) (N := some 146) (v := ?_) (a' := ?_) #[true, true, true, true, true, true, true, true, true, true, true, true, true, true, true, true, true, true, true, true, true, true, true, true, true, true, true, true, true, true, true, true, true, true, true, true, true, true, true, true, true, true, true, true, true, true, true, false, false, false, false, false] rfl rfl (any_of HT_.out (by kernel_rfl)) (fun _ _ _ h => h) (Or.inl ⟨by rfl, ?_⟩) ?_ ?_
                  rotate_left
                  · intro w'
                    go_simp
                    with_reducible rfl
                  rotate_left
                  · simp only [Act.put, List.setIfInBounds_toArray, List.set_cons_zero, List.set_cons_succ, i64_w, i32_w]
                    rfl
                  refine take_ (i := 47) (N := some 147) (v := ?_) (a' := ?_) #[true, true, true, true, true, true, true, true, true, true, true, true, true, true, true, true, true, true, true, true, true, true, true, true, true, true, true, true, true, true, true, true, true, true, true, true, true, true, true, true, true, true, true, true, true, true, true, true, false, false, false, false] rfl rfl (take_ofW HT_.out HW_.out (by kernel_rfl)) (fun _ _ _ h => h) (Or.inl ⟨by rfl, ?_⟩) hHeld ?_ ?_
                  rotate_left
                  · rintro w' ⟨s0, s1, s2, s3, s4, s5, s6, s7, s8, s9, s10, s11, s12, s13, s14, s15, s16, s17, s18, s19, s20, s21⟩
                    go_simp
                    with_reducible rfl
                  rotate_left
                  · simp only [Act.put, List.setIfInBounds_toArray, List.set_cons_zero, List.set_cons_succ, i64_w, i32_w]
                    rfl
                  refine take_ (i := 48) (N := some 148) (v := ?_) (a' := ?_) #[true, true, true, true, true, true, true, true, true, true, true, true, true, true, true, true, true, true, true, true, true, true, true, true, true, true, true, true, true, true, true, true, true, true, true, true, true, true, true, true, true, true, true, true, true, true, true, true, true, false, false, false] rfl rfl (take_ofW HT_.out HW_.out (by kernel_rfl)) (fun _ _ _ h => h) (Or.inl ⟨by rfl, ?_⟩) hHeld ?_ ?_
                  rotate_left
                  · rintro w' ⟨s0, s1, s2, s3, s4, s5, s6, s7, s8, s9, s10, s11, s12, s13, s14, s15, s16, s17, s18, s19, s20, s21⟩
                    go_simp
                    with_reducible rfl
                  rotate_left
                  · simp only [Act.put, List.setIfInBounds_toArray, List.set_cons_zero, List.set_cons_succ, i64_w, i32_w]
                    rfl
                  refine one_ (i := 49) (N := some 149) #[true, true, true, true, true, true, true, true, true, true, true, true, true, true, true, true, true, true, true, true, true, true, true, true, true, true, true, true, true, true, true, true, true, true, true, true, true, true, true, true, true, true, true, true, true, true, true, true, true, true, false, false] rfl rfl (one_of HT_.out (by kernel_rfl)) (by decide) (fun K hK => ?_)
                  refine goes_ Try.func28 (by kernel_rfl) rfl #[.agg #[.int .i64 a1_0, .int .i64 a1_1, .slice A1_2 l1_2.length c1_2, .slice A1_3 l1_3.length c1_3], .agg #[.int .i64 a1_0, .int .i64 a1_1, .slice A1_2 l1_2.length c1_2, .slice A1_3 l1_3.length c1_3]] (by rfl) rfl rfl (by simp only [List.map_toArray, List.map_cons, List.map_nil]; rfl) ?_
                  with_reducible refine (bastilleref02_Same.calls k a1_0 a1_1 A1_2 c1_2 l1_2 A1_3 c1_3 l1_3 a1_0 a1_1 A1_2 c1_2 l1_2 A1_3 c1_3 l1_3 true _ (Kd.C_below R12.out GG.out.hb) L12.out (Kd.C_below R13.out GG.out.hb) L13.out (Kd.C_below R12.out GG.out.hb) L12.out (Kd.C_below R13.out GG.out.hb) L13.out HS3.out).mono ?_
                  rintro e wn ⟨rfl, hb⟩
                  refine ⟨_, rfl, ?_⟩
                  have GN_ := Aside0.mk (GG.out.step hb)
                  clear GG hb hc
                  have GG := GN_
                  clear GN_
                  have hc := Aside0.mk GG.out.cells
                  refine hK.out _ _ ⟨hc.out.1, hc.out.2.1, hc.out.2.2.1, hc.out.2.2.2.1, hc.out.2.2.2.2.1, hc.out.2.2.2.2.2.1, hc.out.2.2.2.2.2.2.1, hc.out.2.2.2.2.2.2.2.1, hc.out.2.2.2.2.2.2.2.2.1, hc.out.2.2.2.2.2.2.2.2.2.1, hc.out.2.2.2.2.2.2.2.2.2.2.1, hc.out.2.2.2.2.2.2.2.2.2.2.2.1, hc.out.2.2.2.2.2.2.2.2.2.2.2.2.1, hc.out.2.2.2.2.2.2.2.2.2.2.2.2.2.1, hc.out.2.2.2.2.2.2.2.2.2.2.2.2.2.2.1, hc.out.2.2.2.2.2.2.2.2.2.2.2.2.2.2.2.1, hc.out.2.2.2.2.2.2.2.2.2.2.2.2.2.2.2.2.1, hc.out.2.2.2.2.2.2.2.2.2.2.2.2.2.2.2.2.2.1, hc.out.2.2.2.2.2.2.2.2.2.2.2.2.2.2.2.2.2.2.1, hc.out.2.2.2.2.2.2.2.2.2.2.2.2.2.2.2.2.2.2.2.1, hc.out.2.2.2.2.2.2.2.2.2.2.2.2.2.2.2.2.2.2.2.2.1, hc.out.2.2.2.2.2.2.2.2.2.2.2.2.2.2.2.2.2.2.2.2.2⟩ (fun hHeld => ?_)
                  clear hK K
                  refine norm_ (a' := ?_) ?_ ?_
                  rotate_left
                  · show Act.put _ (some 149) _ = _
                    simp only [Act.put, List.setIfInBounds_toArray, List.set_cons_zero, List.set_cons_succ, i64_w, i32_w]
                    rfl
                  refine pure_ (i := 50) (N := some 150) (v := ?_) (a' := ?_) #[true, true, true, true, true, true, true, true, true, true, true, true, true, true, true, true, true, true, true, true, true, true, true, true, true, true, true, true, true, true, true, true, true, true, true, true, true, true, true, true, true, true, true, true, true, true, true, true, true, true, true, false] rfl rfl (any_of HT_.out (by kernel_rfl)) (fun _ _ _ h => h) (Or.inl ⟨by rfl, ?_⟩) ?_ ?_
                  rotate_left
                  · intro w'
                    go_simp
                    with_reducible rfl
                  rotate_left
                  · simp only [Act.put, List.setIfInBounds_toArray, List.set_cons_zero, List.set_cons_succ, i64_w, i32_w]
                    rfl
                  refine pure_ (i := 51) (N := some 151) (v := ?_) (a' := ?_) #[true, true, true, true, true, true, true, true, true, true, true, true, true, true, true, true, true, true, true, true, true, true, true, true, true, true, true, true, true, true, true, true, true, true, true, true, true, true, true, true, true, true, true, true, true, true, true, true, true, true, true, true] rfl rfl (any_of HT_.out (by kernel_rfl)) (fun _ _ _ h => h) (Or.inl ⟨by rfl, ?_⟩) ?_ ?_
                  rotate_left
                  · intro w'
                    go_simp
                    with_reducible rfl
                  rotate_left
                  · simp only [Act.put, List.setIfInBounds_toArray, List.set_cons_zero, List.set_cons_succ, i64_w, i32_w]
                    rfl
                  refine done_ (done_of HT_.out (by kernel_rfl)) ?_
                  have GN_ := Aside0.mk (GG.out.step (below_drew (Below.refl _ _)))
                  clear GG hc
                  have GG := GN_
                  clear GN_
                  have hc := Aside0.mk GG.out.cells
                  go_upto_region 16 with (fail)
                  refine start_ (n := 13) (S := fun w' => w'.cell? ⟨w.heap.size, 0, none⟩ = some (.int .i64 a0_0) ∧ w'.cell? ⟨w.heap.size, 1, none⟩ = some (.int .i64 a0_1) ∧ w'.cell? ⟨w.heap.size, 2, none⟩ = some (.slice A0_2 l0_2.length c0_2) ∧ w'.cell? ⟨w.heap.size, 3, none⟩ = some (.slice A0_3 l0_3.length c0_3) ∧ w'.cell? ⟨w.heap.size + 1, 0, none⟩ = some (.int .i64 a1_0) ∧ w'.cell? ⟨w.heap.size + 1, 1, none⟩ = some (.int .i64 a1_1) ∧ w'.cell? ⟨w.heap.size + 1, 2, none⟩ = some (.slice A1_2 l1_2.length c1_2) ∧ w'.cell? ⟨w.heap.size + 1, 3, none⟩ = some (.slice A1_3 l1_3.length c1_3)) (ds := []) #[false, false, false, false, false, false, false, false, false, false, false, false, false] (by kernel_rfl) rfl rfl ⟨hc.out.2.2.2.2.2.2.2.2.2.2.2.2.2.2.1, hc.out.2.2.2.2.2.2.2.2.2.2.2.2.2.2.2.1, hc.out.2.2.2.2.2.2.2.2.2.2.2.2.2.2.2.2.1, hc.out.2.2.2.2.2.2.2.2.2.2.2.2.2.2.2.2.2.1, hc.out.2.2.2.2.2.2.2.2.2.2.2.2.2.2.2.2.2.2.1, hc.out.2.2.2.2.2.2.2.2.2.2.2.2.2.2.2.2.2.2.2.1, hc.out.2.2.2.2.2.2.2.2.2.2.2.2.2.2.2.2.2.2.2.2.1, hc.out.2.2.2.2.2.2.2.2.2.2.2.2.2.2.2.2.2.2.2.2.2⟩ (fun hHeld => ?_)
                  refine with_tabW bastillelaw02_CodecFields.tab16 bastillelaw02_CodecFields.bits16 (fun HT_ HW_ => ?_)
                  generalize World.drew _ = wd at GG hc hHeld ⊢
                  refine take_ (i := 0) (N := some 152) (v := ?_) (a' := ?_) #[true, false, false, false, false, false, false, false, false, false, false, false, false] rfl rfl (take_ofW HT_.out HW_.out (by kernel_rfl)) (fun _ _ _ h => h) (Or.inl ⟨by rfl, ?_⟩) hHeld ?_ ?_
                  rotate_left
                  · rintro w' ⟨s0, s1, s2, s3, s4, s5, s6, s7⟩
                    go_simp
                    with_reducible rfl
                  rotate_left
                  · simp only [Act.put, List.setIfInBounds_toArray, List.set_cons_zero, List.set_cons_succ, i64_w, i32_w]
                    rfl
                  refine take_ (i := 1) (N := some 153) (v := ?_) (a' := ?_) #[true, true, false, false, false, false, false, false, false, false, false, false, false] rfl rfl (take_ofW HT_.out HW_.out (by kernel_rfl)) (fun _ _ _ h => h) (Or.inl ⟨by rfl, ?_⟩) hHeld ?_ ?_
                  rotate_left
                  · rintro w' ⟨s0, s1, s2, s3, s4, s5, s6, s7⟩
                    go_simp
                    with_reducible rfl
                  rotate_left
                  · simp only [Act.put, List.setIfInBounds_toArray, List.set_cons_zero, List.set_cons_succ, i64_w, i32_w]
                    rfl
                  refine take_ (i := 3) (N := some 155) (v := ?_) (a' := ?_) #[true, true, false, true, false, false, false, false, false, false, false, false, false] rfl rfl (take_ofW HT_.out HW_.out (by kernel_rfl)) (fun _ _ _ h => h) (Or.inl ⟨by rfl, ?_⟩) hHeld ?_ ?_
                  rotate_left
                  · rintro w' ⟨s0, s1, s2, s3, s4, s5, s6, s7⟩
                    go_simp
                    with_reducible rfl
                  rotate_left
                  · simp only [Act.put, List.setIfInBounds_toArray, List.set_cons_zero, List.set_cons_succ, i64_w, i32_w]
                    rfl
                  refine take_ (i := 4) (N := some 156) (v := ?_) (a' := ?_) #[true, true, false, true, true, false, false, false, false, false, false, false, false] rfl rfl (take_ofW HT_.out HW_.out (by kernel_rfl)) (fun _ _ _ h => h) (Or.inl ⟨by rfl, ?_⟩) hHeld ?_ ?_
                  rotate_left
                  · rintro w' ⟨s0, s1, s2, s3, s4, s5, s6, s7⟩
                    go_simp
                    with_reducible rfl
                  rotate_left
                  · simp only [Act.put, List.setIfInBounds_toArray, List.set_cons_zero, List.set_cons_succ, i64_w, i32_w]
                    rfl
                  refine one_ (i := 2) (N := some 154) #[true, true, true, true, true, false, false, false, false, false, false, false, false] rfl rfl (one_of HT_.out (by kernel_rfl)) (by decide) (fun K hK => ?_)
                  refine goes_ Try.func32 (by kernel_rfl) rfl #[.agg #[.int .i64 a0_0, .int .i64 a0_1, .slice A0_2 l0_2.length c0_2, .slice A0_3 l0_3.length c0_3], .agg #[.int .i64 a1_0, .int .i64 a1_1, .slice A1_2 l1_2.length c1_2, .slice A1_3 l1_3.length c1_3]] (by rfl) rfl rfl (by simp only [List.map_toArray, List.map_cons, List.map_nil]; rfl) ?_
                  with_reducible refine (codec_Same.calls k a0_0 a0_1 A0_2 c0_2 l0_2 A0_3 c0_3 l0_3 a1_0 a1_1 A1_2 c1_2 l1_2 A1_3 c1_3 l1_3 e1 _ (Kd.C_below R02.out GG.out.hb) L02.out (Kd.C_below R03.out GG.out.hb) L03.out (Kd.C_below R12.out GG.out.hb) L12.out (Kd.C_below R13.out GG.out.hb) L13.out HE1.out).mono ?_
                  rintro e wn ⟨rfl, hb⟩
                  refine ⟨_, rfl, ?_⟩
                  have GN_ := Aside0.mk (GG.out.step hb)
                  clear GG hb hc
                  have GG := GN_
                  clear GN_
                  have hc := Aside0.mk GG.out.cells
                  refine hK.out _ _ ⟨hc.out.2.2.2.2.2.2.2.2.2.2.2.2.2.2.1, hc.out.2.2.2.2.2.2.2.2.2.2.2.2.2.2.2.1, hc.out.2.2.2.2.2.2.2.2.2.2.2.2.2.2.2.2.1, hc.out.2.2.2.2.2.2.2.2.2.2.2.2.2.2.2.2.2.1, hc.out.2.2.2.2.2.2.2.2.2.2.2.2.2.2.2.2.2.2.1, hc.out.2.2.2.2.2.2.2.2.2.2.2.2.2.2.2.2.2.2.2.1, hc.out.2.2.2.2.2.2.2.2.2.2.2.2.2.2.2.2.2.2.2.2.1, hc.out.2.2.2.2.2.2.2.2.2.2.2.2.2.2.2.2.2.2.2.2.2⟩ (fun hHeld => ?_)
                  clear hK K
                  refine norm_ (a' := ?_) ?_ ?_
                  rotate_left
                  · show Act.put _ (some 154) _ = _
                    simp only [Act.put, List.setIfInBounds_toArray, List.set_cons_zero, List.set_cons_succ, i64_w, i32_w]
                    rfl
                  refine one_ (i := 5) (N := some 157) #[true, true, true, true, true, true, false, false, false, false, false, false, false] rfl rfl (one_of HT_.out (by kernel_rfl)) (by decide) (fun K hK => ?_)
                  refine goes_ Try.func28 (by kernel_rfl) rfl #[.agg #[.int .i64 a0_0, .int .i64 a0_1, .slice A0_2 l0_2.length c0_2, .slice A0_3 l0_3.length c0_3], .agg #[.int .i64 a1_0, .int .i64 a1_1, .slice A1_2 l1_2.length c1_2, .slice A1_3 l1_3.length c1_3]] (by rfl) rfl rfl (by simp only [List.map_toArray, List.map_cons, List.map_nil]; rfl) ?_
                  with_reducible refine (bastilleref02_Same.calls k a0_0 a0_1 A0_2 c0_2 l0_2 A0_3 c0_3 l0_3 a1_0 a1_1 A1_2 c1_2 l1_2 A1_3 c1_3 l1_3 e1 _ (Kd.C_below R02.out GG.out.hb) L02.out (Kd.C_below R03.out GG.out.hb) L03.out (Kd.C_below R12.out GG.out.hb) L12.out (Kd.C_below R13.out GG.out.hb) L13.out HE2.out).mono ?_
                  rintro e wn ⟨rfl, hb⟩
                  refine ⟨_, rfl, ?_⟩
                  have GN_ := Aside0.mk (GG.out.step hb)
                  clear GG hb hc
                  have GG := GN_
                  clear GN_
                  have hc := Aside0.mk GG.out.cells
                  refine hK.out _ _ ⟨hc.out.2.2.2.2.2.2.2.2.2.2.2.2.2.2.1, hc.out.2.2.2.2.2.2.2.2.2.2.2.2.2.2.2.1, hc.out.2.2.2.2.2.2.2.2.2.2.2.2.2.2.2.2.1, hc.out.2.2.2.2.2.2.2.2.2.2.2.2.2.2.2.2.2.1, hc.out.2.2.2.2.2.2.2.2.2.2.2.2.2.2.2.2.2.2.1, hc.out.2.2.2.2.2.2.2.2.2.2.2.2.2.2.2.2.2.2.2.1, hc.out.2.2.2.2.2.2.2.2.2.2.2.2.2.2.2.2.2.2.2.2.1, hc.out.2.2.2.2.2.2.2.2.2.2.2.2.2.2.2.2.2.2.2.2.2⟩ (fun hHeld => ?_)
                  clear hK K
                  refine norm_ (a' := ?_) ?_ ?_
                  rotate_left
                  · show Act.put _ (some 157) _ = _
                    simp only [Act.put, List.setIfInBounds_toArray, List.set_cons_zero, List.set_cons_succ, i64_w, i32_w]
                    rfl
                  refine pure_ (i := 6) (N := some 158) (v := ?_) (a' := ?_) #[true, true, true, true, true, true, true, false, false, false, false, false, false] rfl rfl (any_of HT_.out (by kernel_rfl)) (fun _ _ _ h => h) (Or.inl ⟨by rfl, ?_⟩) ?_ ?_
                  rotate_left
                  · intro w'
                    go_simp
                    with_reducible rfl
                  rotate_left
                  · simp only [Act.put, List.setIfInBounds_toArray, List.set_cons_zero, List.set_cons_succ, i64_w, i32_w]
                    rfl
                  refine pure_ (i := 7) (N := some 159) (v := ?_) (a' := ?_) #[true, true, true, true, true, true, true, true, false, false, false, false, false] rfl rfl (any_of HT_.out (by kernel_rfl)) (fun _ _ _ h => h) (Or.inl ⟨by rfl, ?_⟩) ?_ ?_
                  rotate_left
                  · intro w'
                    go_simp
                    with_reducible rfl
                  rotate_left
                  · simp only [Act.put, List.setIfInBounds_toArray, List.set_cons_zero, List.set_cons_succ, i64_w, i32_w]
                    rfl
                  refine take_ (i := 8) (N := some 160) (v := ?_) (a' := ?_) #[true, true, true, true, true, true, true, true, true, false, false, false, false] rfl rfl (take_ofW HT_.out HW_.out (by kernel_rfl)) (fun _ _ _ h => h) (Or.inl ⟨by rfl, ?_⟩) hHeld ?_ ?_
                  rotate_left
                  · rintro w' ⟨s0, s1, s2, s3, s4, s5, s6, s7⟩
                    go_simp
                    with_reducible rfl
                  rotate_left
                  · simp only [Act.put, List.setIfInBounds_toArray, List.set_cons_zero, List.set_cons_succ, i64_w, i32_w]
                    rfl
                  refine take_ (i := 9) (N := some 161) (v := ?_) (a' := ?_) #[true, true, true, true, true, true, true, true, true, true, false, false, false] rfl rfl (take_ofW HT_.out HW_.out (by kernel_rfl)) (fun _ _ _ h => h) (Or.inl ⟨by rfl, ?_⟩) hHeld ?_ ?_
                  rotate_left
                  · rintro w' ⟨s0, s1, s2, s3, s4, s5, s6, s7⟩
                    go_simp
                    with_reducible rfl
                  rotate_left
                  · simp only [Act.put, List.setIfInBounds_toArray, List.set_cons_zero, List.set_cons_succ, i64_w, i32_w]
                    rfl
                  refine one_ (i := 10) (N := some 162) #[true, true, true, true, true, true, true, true, true, true, true, false, false] rfl rfl (one_of HT_.out (by kernel_rfl)) (by decide) (fun K hK => ?_)
                  refine goes_ Try.func32 (by kernel_rfl) rfl #[.agg #[.int .i64 a0_0, .int .i64 a0_1, .slice A0_2 l0_2.length c0_2, .slice A0_3 l0_3.length c0_3], .agg #[.int .i64 a0_0, .int .i64 a0_1, .slice A0_2 l0_2.length c0_2, .slice A0_3 l0_3.length c0_3]] (by rfl) rfl rfl (by simp only [List.map_toArray, List.map_cons, List.map_nil]; rfl) ?_
                  with_reducible refine (codec_Same.calls k a0_0 a0_1 A0_2 c0_2 l0_2 A0_3 c0_3 l0_3 a0_0 a0_1 A0_2 c0_2 l0_2 A0_3 c0_3 l0_3 true _ (Kd.C_below R02.out GG.out.hb) L02.out (Kd.C_below R03.out GG.out.hb) L03.out (Kd.C_below R02.out GG.out.hb) L02.out (Kd.C_below R03.out GG.out.hb) L03.out HE3.out).mono ?_
                  rintro e wn ⟨rfl, hb⟩
                  refine ⟨_, rfl, ?_⟩
                  have GN_ := Aside0.mk (GG.out.step hb)
                  clear GG hb hc
                  have GG := GN_
                  clear GN_
                  have hc := Aside0.mk GG.out.cells
                  refine hK.out _ _ ⟨hc.out.2.2.2.2.2.2.2.2.2.2.2.2.2.2.1, hc.out.2.2.2.2.2.2.2.2.2.2.2.2.2.2.2.1, hc.out.2.2.2.2.2.2.2.2.2.2.2.2.2.2.2.2.1, hc.out.2.2.2.2.2.2.2.2.2.2.2.2.2.2.2.2.2.1, hc.out.2.2.2.2.2.2.2.2.2.2.2.2.2.2.2.2.2.2.1, hc.out.2.2.2.2.2.2.2.2.2.2.2.2.2.2.2.2.2.2.2.1, hc.out.2.2.2.2.2.2.2.2.2.2.2.2.2.2.2.2.2.2.2.2.1, hc.out.2.2.2.2.2.2.2.2.2.2.2.2.2.2.2.2.2.2.2.2.2⟩ (fun hHeld => ?_)
                  clear hK K
                  refine norm_ (a' := ?_) ?_ ?_
                  rotate_left
                  · show Act.put _ (some 162) _ = _
                    simp only [Act.put, List.setIfInBounds_toArray, List.set_cons_zero, List.set_cons_succ, i64_w, i32_w]
                    rfl
                  refine pure_ (i := 11) (N := some 163) (v := ?_) (a' := ?_) #[true, true, true, true, true, true, true, true, true, true, true, true, false] rfl rfl (any_of HT_.out (by kernel_rfl)) (fun _ _ _ h => h) (Or.inl ⟨by rfl, ?_⟩) ?_ ?_
                  rotate_left
                  · intro w'
                    go_simp
                    with_reducible rfl
                  rotate_left
                  · simp only [Act.put, List.setIfInBounds_toArray, List.set_cons_zero, List.set_cons_succ, i64_w, i32_w]
                    rfl
                  refine pure_ (i := 12) (N := some 6) (v := ?_) (a' := ?_) #[true, true, true, true, true, true, true, true, true, true, true, true, true] rfl rfl (any_of HT_.out (by kernel_rfl)) (fun _ _ _ h => h) (Or.inl ⟨by rfl, ?_⟩) ?_ ?_
                  rotate_left
                  · intro w'
                    go_simp
                    with_reducible rfl
                  rotate_left
                  · simp only [Act.put, List.setIfInBounds_toArray, List.set_cons_zero, List.set_cons_succ, i64_w, i32_w]
                    rfl
                  refine done_ (done_of HT_.out (by kernel_rfl)) ?_
                  go_wp2
                  go_ret
                  exact ⟨rfl, GG.out.hb⟩
      · have c3' : v = false := by cases v <;> simp_all
        subst c3'
        rw [if_neg (by decide)] at h1
        cases h1
        clear c3
        go_wp2
        go_ret
        exact ⟨rfl, HB3.out⟩
    · have c2' : u = false := by cases u <;> simp_all
      subst c2'
      rw [if_neg (by decide)] at h1
      cases h1
      clear c2
      go_wp2
      go_ret
      exact ⟨rfl, HB2.out⟩
  · rw [if_neg c1] at h2
    cases h2


end Go.Proofs.Ytiibnfnjfmcggaa.PCodecFields
