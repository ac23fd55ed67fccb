-- Written by drive.py of this work: the kit's print.py with contracts of this work laid in.
import Derived.Test.YtiibnfnjfmcggaaDoorPCallReadsx0
import Derived.Test.YtiibnfnjfmcggaaDoorPCallReadsx2
import Derived.Test.YtiibnfnjfmcggaaDoorPCallReadsx10
import Derived.Test.YtiibnfnjfmcggaaDoorPCallReadsx17
import Derived.Test.YtiibnfnjfmcggaaDoorPCallReadsx18
import Derived.Test.YtiibnfnjfmcggaaDoorPCallReadsx19
namespace Go.Proofs.YtiibnfnjfmcggaaDoor.PCallReads
open Go.RowKit Go.Proofs.YtiibnfnjfmcggaaDoorW.PrintWords Go.Proofs.YtiibnfnjfmcggaaDoorW.PrintLast Go.Proofs.YtiibnfnjfmcggaaDoorW.PrintMore
attribute [local go_sem] max2_int min2_int max_two min_two max_three min_three max_four min_four   -- for this text's walks alone
set_option linter.unusedVariables false
set_option linter.unusedSimpArgs false

/-! ### call_Read: function 14 -/
--ALONE
def CB (g : Nat) (W : World) (x0 x1 x2 x3 x4 x5 x6 x7 : Value) : Prop := W.heap[g]? = some (.cells #[x0, x1, x2, x3, x4, x5, x6, x7] 24 (0, 0))
def put8 (w : World) (g : Nat) (v0 v1 v2 v3 v4 v5 v6 v7 : Value) : World := (((((((w.setCell ⟨g, 0, none⟩ v0).setCell ⟨g, 1, none⟩ v1).setCell ⟨g, 2, none⟩ v2).setCell ⟨g, 3, none⟩ v3).setCell ⟨g, 4, none⟩ v4).setCell ⟨g, 5, none⟩ v5).setCell ⟨g, 6, none⟩ v6).setCell ⟨g, 7, none⟩ v7
theorem cb_below {g : Nat} {w w' : World} {x0 x1 x2 x3 x4 x5 x6 x7 : Value} (h : CB g w x0 x1 x2 x3 x4 x5 x6 x7) (hb : Below w.heap.size w w') : CB g w' x0 x1 x2 x3 x4 x5 x6 x7 := (hb.block _ (blk_lt h)).trans h
theorem cb_set0 {g : Nat} {w : World} {x0 x1 x2 x3 x4 x5 x6 x7 : Value} (h : CB g w x0 x1 x2 x3 x4 x5 x6 x7) (v : Value) : CB g (w.setCell ⟨g, 0, none⟩ v) v x1 x2 x3 x4 x5 x6 x7 := blk_set h 0 v
theorem cb_set1 {g : Nat} {w : World} {x0 x1 x2 x3 x4 x5 x6 x7 : Value} (h : CB g w x0 x1 x2 x3 x4 x5 x6 x7) (v : Value) : CB g (w.setCell ⟨g, 1, none⟩ v) x0 v x2 x3 x4 x5 x6 x7 := blk_set h 1 v
theorem cb_set2 {g : Nat} {w : World} {x0 x1 x2 x3 x4 x5 x6 x7 : Value} (h : CB g w x0 x1 x2 x3 x4 x5 x6 x7) (v : Value) : CB g (w.setCell ⟨g, 2, none⟩ v) x0 x1 v x3 x4 x5 x6 x7 := blk_set h 2 v
theorem cb_set3 {g : Nat} {w : World} {x0 x1 x2 x3 x4 x5 x6 x7 : Value} (h : CB g w x0 x1 x2 x3 x4 x5 x6 x7) (v : Value) : CB g (w.setCell ⟨g, 3, none⟩ v) x0 x1 x2 v x4 x5 x6 x7 := blk_set h 3 v
theorem cb_set4 {g : Nat} {w : World} {x0 x1 x2 x3 x4 x5 x6 x7 : Value} (h : CB g w x0 x1 x2 x3 x4 x5 x6 x7) (v : Value) : CB g (w.setCell ⟨g, 4, none⟩ v) x0 x1 x2 x3 v x5 x6 x7 := blk_set h 4 v
theorem cb_set5 {g : Nat} {w : World} {x0 x1 x2 x3 x4 x5 x6 x7 : Value} (h : CB g w x0 x1 x2 x3 x4 x5 x6 x7) (v : Value) : CB g (w.setCell ⟨g, 5, none⟩ v) x0 x1 x2 x3 x4 v x6 x7 := blk_set h 5 v
theorem cb_set6 {g : Nat} {w : World} {x0 x1 x2 x3 x4 x5 x6 x7 : Value} (h : CB g w x0 x1 x2 x3 x4 x5 x6 x7) (v : Value) : CB g (w.setCell ⟨g, 6, none⟩ v) x0 x1 x2 x3 x4 x5 v x7 := blk_set h 6 v
theorem cb_set7 {g : Nat} {w : World} {x0 x1 x2 x3 x4 x5 x6 x7 : Value} (h : CB g w x0 x1 x2 x3 x4 x5 x6 x7) (v : Value) : CB g (w.setCell ⟨g, 7, none⟩ v) x0 x1 x2 x3 x4 x5 x6 v := blk_set h 7 v
theorem cb_put8 {g : Nat} {w : World} {x0 x1 x2 x3 x4 x5 x6 x7 : Value} (h : CB g w x0 x1 x2 x3 x4 x5 x6 x7) (v0 v1 v2 v3 v4 v5 v6 v7 : Value) : CB g (put8 w g v0 v1 v2 v3 v4 v5 v6 v7) v0 v1 v2 v3 v4 v5 v6 v7 := by
 unfold put8
 exact cb_set7 (cb_set6 (cb_set5 (cb_set4 (cb_set3 (cb_set2 (cb_set1 (cb_set0 h v0) v1) v2) v3) v4) v5) v6) v7
theorem below_put8 {m g : Nat} {w0 w : World} (h : Below m w0 w) (hg : m ≤ g) (v0 v1 v2 v3 v4 v5 v6 v7 : Value) : Below m w0 (put8 w g v0 v1 v2 v3 v4 v5 v6 v7) := by
 unfold put8
 repeat (first | with_reducible exact h | with_reducible refine Below.setCell ?_ hg _)
theorem far_put8 {q g : Nat} {w : World} {o : Obj} (h : w.heap[q]? = some o) (hne : q ≠ g) (v0 v1 v2 v3 v4 v5 v6 v7 : Value) : (put8 w g v0 v1 v2 v3 v4 v5 v6 v7).heap[q]? = some o := by
 unfold put8
 repeat (first | with_reducible exact h | with_reducible refine (Below.heap_setCell _ _ _ q hne).trans ?_)
theorem cb_cells {g : Nat} {w : World} {x0 x1 x2 x3 x4 x5 x6 x7 : Value} (h : CB g w x0 x1 x2 x3 x4 x5 x6 x7) : w.cell? ⟨g, 0, none⟩ = some x0 ∧ w.cell? ⟨g, 1, none⟩ = some x1 ∧ w.cell? ⟨g, 2, none⟩ = some x2 ∧ w.cell? ⟨g, 3, none⟩ = some x3 ∧ w.cell? ⟨g, 4, none⟩ = some x4 ∧ w.cell? ⟨g, 5, none⟩ = some x5 ∧ w.cell? ⟨g, 6, none⟩ = some x6 ∧ w.cell? ⟨g, 7, none⟩ = some x7 :=
 ⟨(blk_cell h 0).trans rfl, (blk_cell h 1).trans rfl, (blk_cell h 2).trans rfl, (blk_cell h 3).trans rfl, (blk_cell h 4).trans rfl, (blk_cell h 5).trans rfl, (blk_cell h 6).trans rfl, (blk_cell h 7).trans rfl⟩
/-- What stands while call.Read runs: its result's block is at its zero. -/
structure TS (w : World) (W : World) : Prop where
 hb : Below w.heap.size w W
 z : CB w.heap.size W (.int .i64 0) (.string ByteArray.empty) (.string ByteArray.empty) (.string ByteArray.empty) (.string ByteArray.empty) (.int .i64 0) (.int .i64 0) (.slice none 0 0)
theorem TS.step {w W W' : World} (h : TS w W) (hb : Below W.heap.size W W') : TS w W' := ⟨h.hb.trans (hb.mono h.hb.size), cb_below h.z hb⟩
theorem TS.drew {w W : World} (h : TS w W) : TS w W.drew := h.step (below_drew (Below.refl _ _))
theorem TS.put4 {w W : World} (h : TS w W) {g : Nat} (hg : w.heap.size < g) (v0 v1 v2 v3 : Value) : TS w ((((W.setCell ⟨g, 0, none⟩ v0).setCell ⟨g, 1, none⟩ v1).setCell ⟨g, 2, none⟩ v2).setCell ⟨g, 3, none⟩ v3) :=
 ⟨below_put4 h.hb (Nat.le_of_lt hg) _ _ _ _, far_put4 h.z (Nat.ne_of_lt hg) _ _ _ _⟩
def zCall : Int × ByteArray × ByteArray × ByteArray × ByteArray × Int × Int × List Int := (0, ByteArray.empty, ByteArray.empty, ByteArray.empty, ByteArray.empty, 0, 0, [])
def rd8 (l : List S43) : Int × ByteArray × ByteArray × ByteArray × ByteArray × Int × Int × List Int := ((rd_T43 l 0).f1, strOfNums (rd_T43 l 1).f2, strOfNums (rd_T43 l 2).f2, strOfNums (rd_T43 l 3).f2, strOfNums (rd_T43 l 4).f2, (rd_T43 l 5).f1, (rd_T43 l 6).f1, (rd_T43 l 7).f2)
def mayC (k : Nat) (c : Int × ByteArray × ByteArray × ByteArray × ByteArray × Int × Int × List Int) : Option Bool := call_May.f k c.1 c.2.1 c.2.2.1 c.2.2.2.1 c.2.2.2.2.1 c.2.2.2.2.2.1 c.2.2.2.2.2.2.1 c.2.2.2.2.2.2.2
def call_Read.f (k : Nat) (l0 : List Int) : Option ((Int × ByteArray × ByteArray × ByteArray × ByteArray × Int × Int × List Int) × Int) :=
 (codec_Decode.f k l0).bind fun d => if d.2.2.2.2 = 0 then (codec_Fields.f k d.1 d.2.1 d.2.2.1 d.2.2.2.1 [1, 2, 2, 2, 2, 1, 1, 2]).bind fun q => if q.2 = true then (if q.1.length = 8 then (mayC k (rd8 q.1)).bind fun m => if m = true then some (rd8 q.1, 0) else some (zCall, 13) else none) else some (zCall, 13) else some (zCall, 13)
theorem call_Read.mono : ∀ l0 k, LeO (call_Read.f k l0) (call_Read.f (k + 1) l0) := by
 intro l0 k
 unfold call_Read.f
 exact LeO.bind (codec_Decode.mono _ _) fun _ => LeO.ite (LeO.bind (codec_Fields.mono _ _ _ _ _ _) fun _ => LeO.ite (LeO.ite (LeO.bind (call_May.mono _ _ _ _ _ _ _ _ _) fun _ => LeO.refl _) (LeO.refl _)) (LeO.refl _)) (LeO.refl _)
def callV (c : Int × ByteArray × ByteArray × ByteArray × ByteArray × Int × Int × List Int) (A7 : Option Addr) (c7 : Nat) : Value := .agg #[.int .i64 c.1, .string c.2.1, .string c.2.2.1, .string c.2.2.2.1, .string c.2.2.2.2.1, .int .i64 c.2.2.2.2.2.1, .int .i64 c.2.2.2.2.2.2.1, .slice A7 c.2.2.2.2.2.2.2.length c7]
theorem zfin {w W : World} (h : TS w W) (e : Int) (he : e = 13) : ∃ A7 c7, Ending.returned (.tuple #[.agg #[.int .i64 0, .string ByteArray.empty, .string ByteArray.empty, .string ByteArray.empty, .string ByteArray.empty, .int .i64 0, .int .i64 0, .slice none 0 0], .int .i64 13]) = .returned (.tuple #[callV zCall A7 c7, .int .i64 e]) ∧ zCall.2.2.2.2.2.2.2.length ≤ c7 ∧ Kd.C (Kd.int .u8) (put8 W w.heap.size (.int .i64 0) (.string ByteArray.empty) (.string ByteArray.empty) (.string ByteArray.empty) (.string ByteArray.empty) (.int .i64 0) (.int .i64 0) (.slice none 0 0)) A7 zCall.2.2.2.2.2.2.2.length zCall.2.2.2.2.2.2.2 ∧ Below w.heap.size w (put8 W w.heap.size (.int .i64 0) (.string ByteArray.empty) (.string ByteArray.empty) (.string ByteArray.empty) (.string ByteArray.empty) (.int .i64 0) (.int .i64 0) (.slice none 0 0)) := by
 subst he
 exact ⟨none, 0, rfl, Nat.le_refl _, C_none _ _ none, below_put8 h.hb (Nat.le_refl _) _ _ _ _ _ _ _ _⟩
theorem C_i64 {W : World} {g : Nat} {t : Nat} (l : List Int) (hl : l.length ≤ 9223372036854775807) (h : W.heap[g]? = some (.cells (l.map (Value.int .i64)).toArray t (0, 0))) : Kd.C (Kd.int .i64) W (some ⟨g, 0, none⟩) l.length l :=
 ⟨rfl, hl, fun _ => ⟨_, rfl, fun j p hj => ⟨[.int .i64 p], rfl, rfl, fun i u hi => by
  match i, hi with
  | 0, hi =>
   cases hi
   have h2 := blk_cell h j
   rw [List.getElem?_toArray, List.getElem?_map, hj] at h2
   have e : (Addr.add ⟨g, 0, none⟩ (j * (Kd.int IntKind.i64).sz + 0)) = (⟨g, j, none⟩ : Addr) := by
    have s1 : (Kd.int IntKind.i64).sz = 1 := rfl
    rw [s1]
    simp only [Addr.add, Nat.mul_one, Nat.add_zero]
    split
    ·rename_i h0
     rw [h0]
    ·simp
   rw [e]
   exact h2
  | n + 1, hi => simp at hi⟩⟩⟩
theorem fields_lit (k : Nat) (d0 d1 : Int) (A2 : Option Addr) (c2 : Nat) (d2 : List Int) (P : Nat → Prop) (A3 : Option Addr) (c3 : Nat) (d3 : List S43) (g t : Nat) (q : List S43) (qb : Bool) (w : World) (h2 : Kd.C (Kd.int .u8) w A2 d2.length d2) (l2 : d2.length ≤ c2) (h3 : Kd.V k43 43 w w.heap.size P (.slice A3 d3.length c3) d3)
  (hg : w.heap[g]? = some (.cells (([1, 2, 2, 2, 2, 1, 1, 2] : List Int).map (Value.int .i64)).toArray t (0, 0))) (h : codec_Fields.f k d0 d1 d2 d3 [1, 2, 2, 2, 2, 1, 1, 2] = some (q, qb)) :
  Calls Tryd.prog 29 #[.agg #[.int .i64 d0, .int .i64 d1, .slice A2 d2.length c2, .slice A3 d3.length c3], .slice (some ⟨g, 0, none⟩) 8 8] w fun e w' => ∃ v0_ : Value, e = .returned (.tuple #[v0_, .bool qb]) ∧ Kd.V k43 43 w' w.heap.size (fun k_ => (P k_ ∨ w.heap.size ≤ k_)) v0_ q ∧ Below w.heap.size w w' :=
 codec_Fields.calls k d0 d1 A2 c2 d2 P A3 c3 d3 (some ⟨g, 0, none⟩) 8 [1, 2, 2, 2, 2, 1, 1, 2] q qb w h2 l2 h3 (C_i64 [1, 2, 2, 2, 2, 1, 1, 2] (by decide) hg) (Nat.le_refl 8) h
theorem vb_cells {g : Nat} {w : World} {u0 u1 u2 u3 : Value} (h : VB g w u0 u1 u2 u3) : w.cell? ⟨g, 0, none⟩ = some u0 ∧ w.cell? ⟨g, 1, none⟩ = some u1 ∧ w.cell? ⟨g, 2, none⟩ = some u2 ∧ w.cell? ⟨g, 3, none⟩ = some u3 := ⟨(blk_cell h 0).trans rfl, (blk_cell h 1).trans rfl, (blk_cell h 2).trans rfl, (blk_cell h 3).trans rfl⟩
def call_Read.T7 : Bool × List (List Nat × List Nat) := (true, [([], []), ([0], [0]), ([1], [1]), ([2], [2]), ([], []), ([4], [4]), ([5], [5]), ([6], [6]), ([7], [7]), ([], []), ([9], [9]), ([10], [10]), ([11], [11]), ([12], [12]), ([], []), ([14], [14]), ([15], [15]), ([16], [16]), ([17], [17]), ([], []), ([19], [19]), ([20], [20]), ([21], [21]), ([22], [22]), ([], []), ([24], [24]), ([25], [25]), ([26], [26]), ([], []), ([28], [28]), ([29], [29]), ([30], [30]), ([], []), ([32], [32]), ([33], [33]), ([34], [34]), ([3, 8, 13, 18, 23, 27, 31, 35], [3, 8, 13, 18, 23, 27, 31, 35]), ([], []), ([37, 36, 0, 1, 2, 3, 4, 5, 6, 7, 8, 9, 10, 11, 12, 13, 14, 15, 16, 17, 18, 19, 20, 21, 22, 23, 24, 25, 26, 27, 28, 29, 30, 31, 32, 33, 34, 35, 36, 37], [36, 37])])
def call_Read.B7 : List Nat := [0, 1, 3, 7, 0, 16, 48, 112, 240, 0, 512, 1536, 3584, 7680, 0, 16384, 49152, 114688, 245760, 0, 524288, 1572864, 3670016, 7864320, 0, 16777216, 50331648, 117440512, 0, 268435456, 805306368, 1879048192, 0, 4294967296, 12884901888, 30064771072, 68719476735, 0, 274877906943]
theorem call_Read.tab7 : rtab .any (opsOf Tryd.f14 7) = call_Read.T7 := by kernel_rfl
theorem call_Read.bits7 : waitsOk call_Read.T7.2 call_Read.B7 = true := by kernel_rfl
structure ES (ok : Nat → Prop) (ad : Addr) (q : List S43) (B1 B2 B3 B4 B7 : Option Addr) (b1 b2 b3 b4 b7 : Nat) (W : World) : Prop where
 y0 : W.cell? ⟨ad.block, ad.off + 1, none⟩ = some (.int .i64 (rd_T43 q 0).f1)
 y1 : W.cell? ⟨ad.block, ad.off + 4 + 2, none⟩ = some (.slice B1 (rd_T43 q 1).f2.length b1)
 y2 : W.cell? ⟨ad.block, ad.off + 8 + 2, none⟩ = some (.slice B2 (rd_T43 q 2).f2.length b2)
 y3 : W.cell? ⟨ad.block, ad.off + 12 + 2, none⟩ = some (.slice B3 (rd_T43 q 3).f2.length b3)
 y4 : W.cell? ⟨ad.block, ad.off + 16 + 2, none⟩ = some (.slice B4 (rd_T43 q 4).f2.length b4)
 y5 : W.cell? ⟨ad.block, ad.off + 20 + 1, none⟩ = some (.int .i64 (rd_T43 q 5).f1)
 y6 : W.cell? ⟨ad.block, ad.off + 24 + 1, none⟩ = some (.int .i64 (rd_T43 q 6).f1)
 y7 : W.cell? ⟨ad.block, ad.off + 28 + 2, none⟩ = some (.slice B7 (rd_T43 q 7).f2.length b7)
 g1 : Kd.F (Kd.int .u8) W ok B1 (rd_T43 q 1).f2.length (rd_T43 q 1).f2
 g2 : Kd.F (Kd.int .u8) W ok B2 (rd_T43 q 2).f2.length (rd_T43 q 2).f2
 g3 : Kd.F (Kd.int .u8) W ok B3 (rd_T43 q 3).f2.length (rd_T43 q 3).f2
 g4 : Kd.F (Kd.int .u8) W ok B4 (rd_T43 q 4).f2.length (rd_T43 q 4).f2
 g7 : Kd.F (Kd.int .u8) W ok B7 (rd_T43 q 7).f2.length (rd_T43 q 7).f2
 l7 : (rd_T43 q 7).f2.length ≤ b7
theorem ES.below {ok : Nat → Prop} {ad : Addr} {q : List S43} {B1 B2 B3 B4 B7 : Option Addr} {b1 b2 b3 b4 b7 : Nat} {W W' : World} (h : ES ok ad q B1 B2 B3 B4 B7 b1 b2 b3 b4 b7 W) (hb : Below W.heap.size W W') : ES ok ad q B1 B2 B3 B4 B7 b1 b2 b3 b4 b7 W' :=
 ⟨(hb.cell (cell_lt h.y0)).trans h.y0, (hb.cell (cell_lt h.y1)).trans h.y1, (hb.cell (cell_lt h.y2)).trans h.y2, (hb.cell (cell_lt h.y3)).trans h.y3, (hb.cell (cell_lt h.y4)).trans h.y4, (hb.cell (cell_lt h.y5)).trans h.y5, (hb.cell (cell_lt h.y6)).trans h.y6, (hb.cell (cell_lt h.y7)).trans h.y7, Kd.F_below h.g1 hb, Kd.F_below h.g2 hb, Kd.F_below h.g3 hb, Kd.F_below h.g4 hb, Kd.F_below h.g7 hb, h.l7⟩
theorem at_F43 {W : World} {ok : Nat → Prop} {A : Option Addr} {n : Nat} {xs : List S43} (h : Kd.F k43 W ok A n xs) (i : Int) (h0 : 0 ≤ i) (h1 : i < n) : ∃ ad A2 c2, A = some ad ∧ W.cell? ⟨(ad.add (i.toNat * 4)).block, (ad.add (i.toNat * 4)).off + 1, none⟩ = some (.int .i64 (rd_T43 xs i).f1) ∧ W.cell? ⟨(ad.add (i.toNat * 4)).block, (ad.add (i.toNat * 4)).off + 2, none⟩ = some (.slice A2 (rd_T43 xs i).f2.length c2) ∧ (rd_T43 xs i).f2.length ≤ c2 ∧ Kd.F (Kd.int .u8) W ok A2 (rd_T43 xs i).f2.length (rd_T43 xs i).f2 := by
 obtain ⟨ad, cs, e, _, hK, hc0, _⟩ := Kd.F_get h z43 i h0 h1
 have hc : ∀ j u, cs[j]? = some u → W.cell? (ad.add (i.toNat * 4 + j)) = some u := hc0
 obtain ⟨A2, c2, A3, c3, rfl, l2, g2, l3, g3⟩ := k43_openF hK
 exact ⟨ad, A2, c2, e, by rw [← add_field _ _ 1 (by omega)]; exact hc 1 _ rfl, by rw [← add_field _ _ 2 (by omega)]; exact hc 2 _ rfl, l2, g2⟩
theorem els8 {W : World} {ok : Nat → Prop} {A : Option Addr} {q : List S43} (h : Kd.F k43 W ok A 8 q) : ∃ ad B1 B2 B3 B4 B7 b1 b2 b3 b4 b7, A = some ad ∧ ES ok ad q B1 B2 B3 B4 B7 b1 b2 b3 b4 b7 W := by
 obtain ⟨ad0, B0, b0, e0, x0_1, x0_2, l0, g0⟩ := at_F43 h 0 (by decide) (by decide)
 obtain ⟨ad1, B1, b1, e1, x1_1, x1_2, l1, g1⟩ := at_F43 h 1 (by decide) (by decide)
 rw [e0] at e1
 injection e1 with q1
 subst q1
 obtain ⟨ad2, B2, b2, e2, x2_1, x2_2, l2, g2⟩ := at_F43 h 2 (by decide) (by decide)
 rw [e0] at e2
 injection e2 with q2
 subst q2
 obtain ⟨ad3, B3, b3, e3, x3_1, x3_2, l3, g3⟩ := at_F43 h 3 (by decide) (by decide)
 rw [e0] at e3
 injection e3 with q3
 subst q3
 obtain ⟨ad4, B4, b4, e4, x4_1, x4_2, l4, g4⟩ := at_F43 h 4 (by decide) (by decide)
 rw [e0] at e4
 injection e4 with q4
 subst q4
 obtain ⟨ad5, B5, b5, e5, x5_1, x5_2, l5, g5⟩ := at_F43 h 5 (by decide) (by decide)
 rw [e0] at e5
 injection e5 with q5
 subst q5
 obtain ⟨ad6, B6, b6, e6, x6_1, x6_2, l6, g6⟩ := at_F43 h 6 (by decide) (by decide)
 rw [e0] at e6
 injection e6 with q6
 subst q6
 obtain ⟨ad7, B7, b7, e7, x7_1, x7_2, l7, g7⟩ := at_F43 h 7 (by decide) (by decide)
 rw [e0] at e7
 injection e7 with q7
 subst q7
 exact ⟨_, B1, B2, B3, B4, B7, b1, b2, b3, b4, b7, e0, x0_1, x1_2, x2_2, x3_2, x4_2, x5_1, x6_1, x7_2, g1, g2, g3, g4, g7, l7⟩
theorem gt_put8 {w : World} (h : GT w) {g : Nat} (hg : 0 < g) (v0 v1 v2 v3 v4 v5 v6 v7 : Value) : GT (put8 w g v0 v1 v2 v3 v4 v5 v6 v7) := by
 intro j x hj
 have := h j x hj
 unfold World.cell? at this ⊢
 split at this
 ·rename_i o ho
  rw [far_put8 ho (Nat.ne_of_lt hg) v0 v1 v2 v3 v4 v5 v6 v7]
  exact this
 ·cases this
theorem TS.putE {w W : World} (h : TS w W) {g : Nat} (hg : w.heap.size < g) (v0 v1 v2 v3 v4 v5 v6 v7 : Value) : TS w (put8 W g v0 v1 v2 v3 v4 v5 v6 v7) := ⟨below_put8 h.hb (Nat.le_of_lt hg) _ _ _ _ _ _ _ _, far_put8 h.z (Nat.ne_of_lt hg) _ _ _ _ _ _ _ _⟩
theorem F_put8 {w : World} {ok : Nat → Prop} {A : Option Addr} {n : Nat} {l : List Int} (h : Kd.F (Kd.int .u8) w ok A n l) {g : Nat} (hok : ∀ k, ok k → k ≠ g) (v0 v1 v2 v3 v4 v5 v6 v7 : Value) : Kd.F (Kd.int .u8) (put8 w g v0 v1 v2 v3 v4 v5 v6 v7) ok A n l := by
 unfold put8
 exact Kd.F_far (Kd.F_far (Kd.F_far (Kd.F_far (Kd.F_far (Kd.F_far (Kd.F_far (Kd.F_far h (p := ⟨g, 0, none⟩) hok _) (p := ⟨g, 1, none⟩) hok _) (p := ⟨g, 2, none⟩) hok _) (p := ⟨g, 3, none⟩) hok _) (p := ⟨g, 4, none⟩) hok _) (p := ⟨g, 5, none⟩) hok _) (p := ⟨g, 6, none⟩) hok _) (p := ⟨g, 7, none⟩) hok _
set_option maxHeartbeats 4000000 in
set_option maxRecDepth 100000 in
theorem call_Read.calls (k : Nat) (A0 : Option Addr) (c0 : Nat) (l0 : List Int) (r : Int × ByteArray × ByteArray × ByteArray × ByteArray × Int × Int × List Int) (e : Int) (w : World) (hr0 : Kd.C (Kd.int .u8) w A0 l0.length l0) (hc0 : l0.length ≤ c0) (hgt : GT w) (h : call_Read.f k l0 = some (r, e)) :
  Calls Tryd.prog 14 #[.slice A0 l0.length c0] w fun en w' => ∃ A7 c7, en = .returned (.tuple #[callV r A7 c7, .int .i64 e]) ∧ r.2.2.2.2.2.2.2.length ≤ c7 ∧ Kd.C (Kd.int .u8) w' A7 r.2.2.2.2.2.2.2.length r.2.2.2.2.2.2.2 ∧ Below w.heap.size w w' := by
 have H0 := Aside0.mk hr0
 have D0 := Aside0.mk hc0
 have GG := Aside0.mk hgt
 clear hr0 hc0 hgt
 have FF := Aside0.mk (show TS w (w.alloc (.cells #[.int .i64 0, .string ByteArray.empty, .string ByteArray.empty, .string ByteArray.empty, .string ByteArray.empty, .int .i64 0, .int .i64 0, .slice none 0 0] 24)) from ⟨(Below.refl _ w).alloc (Nat.le_refl _) _, Array.getElem?_push_size⟩)
 unfold call_Read.f at h
 obtain ⟨⟨d0, d1, d2, d3, d4⟩, hd, h⟩ := Option.bind_eq_some_iff.1 h
 simp only at h
 have HD := Aside0.mk hd
 have H := Aside0.mk h
 clear hd h
 go_enter Tryd.func14, Tryd.ntmps14
 go_wp2_with fail
 refine (codec_Decode.calls k A0 c0 l0 d0 d1 d2 d3 d4 _ (Kd.C_below H0.out (below_alloc (Below.refl _ _) _)) D0.out HD.out).mono ?_
 rintro e w1 ⟨v2, v3, rfl, hv2, hv3, hb⟩
 obtain ⟨A2, c2, rfl⟩ := Kd.R_slice hv2
 obtain ⟨A3, c3, rfl⟩ := Kd.R_slice hv3
 have FN_ := Aside0.mk (FF.out.step hb)
 have G1 := Aside0.mk (gt_below (gt_below GG.out (below_alloc (Below.refl _ _) _)) hb)
 have R2 := Aside0.mk hv2
 have R3 := Aside0.mk hv3
 clear GG FF hb H0 D0 HD hv2 hv3
 have FF := FN_
 clear FN_
 go_upto_region 2 with (fail)
 have FV := Aside0.mk (show VB w1.heap.size (w1.alloc (.cells #[.int .i64 d0, .int .i64 d1, .slice A2 d2.length c2, .slice A3 d3.length c3] 43)) (.int .i64 d0) (.int .i64 d1) (.slice A2 d2.length c2) (.slice A3 d3.length c3) from Array.getElem?_push_size)
 have hb := below_alloc (Below.refl w1.heap.size w1) (.cells #[.int .i64 d0, .int .i64 d1, .slice A2 d2.length c2, .slice A3 d3.length c3] 43)
 have LT := Aside0.mk (show w.heap.size < w1.heap.size from blk_lt FF.out.z)
 have FN_ := Aside0.mk (FF.out.step hb)
 have G2 := Aside0.mk (gt_below G1.out hb)
 have S2 := Aside0.mk (Kd.C_below (Kd.R_reads' R2.out).2.2 hb)
 have L2 := Aside0.mk (Kd.R_reads' R2.out).2.1
 have S3 := Aside0.mk (show Kd.V k43 43 _ w1.heap.size (fun k_ => w.heap.size < k_) _ _ from Kd.V_below (Kd.V_mono (Kd.R_V (base' := w1.heap.size) (Kd.R_bound R3.out)) (fun k hk => Nat.lt_of_lt_of_le (by rw [fsz]; exact Nat.lt_succ_self _) hk.2.1)) hb)
 clear FF G1 R2 R3 hb
 have FF := FN_
 clear FN_
 generalize w1.alloc (.cells #[.int .i64 d0, .int .i64 d1, .slice A2 d2.length c2, .slice A3 d3.length c3] 43) = w2 at FF FV G2 S2 S3 ⊢
 generalize w1.heap.size = gd at FV LT S3 ⊢
 by_cases hd4 : d4 = 0
 rotate_left
 ·have t1 : (d4 == 0) = false := beq_eq_false_iff_ne.2 hd4
  have t2 : (d4 != 0) = true := by simp [hd4]
  have h1 := H.out
  rw [if_neg hd4] at h1
  cases h1
  clear H FV G2 S2 S3 L2 LT
  obtain ⟨z0, z1, z2, z3, z4, z5, z6, z7⟩ := cb_cells FF.out.z
  have f0 := blk_frozen FF.out.z 0
  have f1 := blk_frozen FF.out.z 1
  have f2 := blk_frozen FF.out.z 2
  have f3 := blk_frozen FF.out.z 3
  have f4 := blk_frozen FF.out.z 4
  have f5 := blk_frozen FF.out.z 5
  have f6 := blk_frozen FF.out.z 6
  have f7 := blk_frozen FF.out.z 7
  go_wp2
  refine bodyPost_ret (results_ct rfl _ _ w.heap.size 24 #[.int .i64 0, .string ByteArray.empty, .string ByteArray.empty, .string ByteArray.empty, .string ByteArray.empty, .int .i64 0, .int .i64 0, .slice none 0 0] (0, 0) _ rfl (cb_put8 FF.out.z _ _ _ _ _ _ _ _) Tryd.underlying24 rfl (by kernel_rfl)) rfl ?_
  exact zfin FF.out _ rfl
 subst hd4
 have h1 := H.out
 clear H
 simp only [if_true] at h1
 obtain ⟨⟨q, qb⟩, hq, h1⟩ := Option.bind_eq_some_iff.1 h1
 simp only at h1
 have HQ := Aside0.mk hq
 have H := Aside0.mk h1
 clear hq h1
 obtain ⟨y0, y1, y2, y3⟩ := (show _ from vb_cells FV.out)
 go_upto_region 4 with (fail)
 go_wp2_with fail
 have hb := below_alloc (Below.refl w2.heap.size w2) (.cells #[.int .i64 1, .int .i64 2, .int .i64 2, .int .i64 2, .int .i64 2, .int .i64 1, .int .i64 1, .int .i64 2] 3)
 have S3b := Aside0.mk (show Kd.V k43 43 _ (w2.alloc (.cells #[.int .i64 1, .int .i64 2, .int .i64 2, .int .i64 2, .int .i64 2, .int .i64 1, .int .i64 1, .int .i64 2] 3)).heap.size _ _ _ from Kd.V_below S3.out hb)
 refine (fields_lit k d0 d1 A2 c2 d2 _ A3 c3 d3 w2.heap.size 3 q qb _ (Kd.C_below S2.out hb) L2.out S3b.out Array.getElem?_push_size HQ.out).mono ?_
 rintro e w3 ⟨v4, rfl, hv4, hc⟩
 obtain ⟨A4, c4, rfl⟩ := Kd.V_slice hv4
 have FN_ := Aside0.mk ((FF.out.step hb).step hc)
 have G3 := Aside0.mk (gt_below (gt_below G2.out hb) hc)
 have V4 := Aside0.mk (show Kd.V k43 43 w3 0 (fun k_ => w.heap.size < k_) _ _ from Kd.V_mono hv4 (fun k hk => hk.elim id (fun h_ => Nat.lt_of_lt_of_le (blk_lt (FF.out.step hb).z) h_)))
 clear y0 y1 y2 y3 HQ S2 S3 S3b L2 FV LT FF G2 hb hc hv4
 have FF := FN_
 clear FN_
 go_upto_region 5 with (fail)
 have h1 := H.out
 clear H
 cases qb
 ·simp only [Bool.false_eq_true, if_false] at h1
  cases h1
  clear G3 V4
  obtain ⟨z0, z1, z2, z3, z4, z5, z6, z7⟩ := cb_cells FF.out.z
  have f0 := blk_frozen FF.out.z 0
  have f1 := blk_frozen FF.out.z 1
  have f2 := blk_frozen FF.out.z 2
  have f3 := blk_frozen FF.out.z 3
  have f4 := blk_frozen FF.out.z 4
  have f5 := blk_frozen FF.out.z 5
  have f6 := blk_frozen FF.out.z 6
  have f7 := blk_frozen FF.out.z 7
  go_wp2
  refine bodyPost_ret (results_ct rfl _ _ w.heap.size 24 #[.int .i64 0, .string ByteArray.empty, .string ByteArray.empty, .string ByteArray.empty, .string ByteArray.empty, .int .i64 0, .int .i64 0, .slice none 0 0] (0, 0) _ rfl (cb_put8 FF.out.z _ _ _ _ _ _ _ _) Tryd.underlying24 rfl (by kernel_rfl)) rfl ?_
  exact zfin FF.out _ rfl
 simp only [if_true] at h1
 by_cases hl : q.length = 8
 rotate_left
 ·rw [if_neg hl] at h1
  cases h1
 rw [if_pos hl] at h1
 obtain ⟨m, hm, h1⟩ := Option.bind_eq_some_iff.1 h1
 have HM := Aside0.mk hm
 have H := Aside0.mk h1
 clear hm h1
 go_upto_region 7 with (fail)
 have F8 := Aside0.mk (show Kd.F k43 w3 (fun k_ => w.heap.size < k_) A4 8 q from by have h_ := Kd.V_F V4.out; rw [hl] at h_; exact h_)
 rw [hl]
 clear V4
 obtain ⟨ad, B1, B2, B3, B4, B7, b1, b2, b3, b4, b7, hA, E_⟩ := els8 (Kd.F_bound (Kd.F_drew F8.out))
 subst hA
 have E := Aside0.mk E_
 clear E_ F8
 have FN_ := Aside0.mk FF.out.drew
 have GN_ := Aside0.mk (gt_below G3.out (below_drew (Below.refl _ _)))
 clear FF G3
 have FF := FN_
 have G3 := GN_
 clear FN_ GN_
 refine start_ (n := 39) (S := fun w' => w'.cell? ⟨ad.block, ad.off + 1, none⟩ = some (.int .i64 (rd_T43 q 0).f1) ∧ w'.cell? ⟨ad.block, ad.off + 4 + 2, none⟩ = some (.slice B1 (rd_T43 q 1).f2.length b1) ∧ (convert 22 9 (.slice B1 (rd_T43 q 1).f2.length b1)).run Tryd.prog w' = .ok (.string (strOfNums (rd_T43 q 1).f2)) w' ∧ w'.cell? ⟨ad.block, ad.off + 8 + 2, none⟩ = some (.slice B2 (rd_T43 q 2).f2.length b2) ∧ (convert 22 9 (.slice B2 (rd_T43 q 2).f2.length b2)).run Tryd.prog w' = .ok (.string (strOfNums (rd_T43 q 2).f2)) w' ∧ w'.cell? ⟨ad.block, ad.off + 12 + 2, none⟩ = some (.slice B3 (rd_T43 q 3).f2.length b3) ∧ (convert 22 9 (.slice B3 (rd_T43 q 3).f2.length b3)).run Tryd.prog w' = .ok (.string (strOfNums (rd_T43 q 3).f2)) w' ∧ w'.cell? ⟨ad.block, ad.off + 16 + 2, none⟩ = some (.slice B4 (rd_T43 q 4).f2.length b4) ∧ (convert 22 9 (.slice B4 (rd_T43 q 4).f2.length b4)).run Tryd.prog w' = .ok (.string (strOfNums (rd_T43 q 4).f2)) w' ∧ w'.cell? ⟨ad.block, ad.off + 20 + 1, none⟩ = some (.int .i64 (rd_T43 q 5).f1) ∧ w'.cell? ⟨ad.block, ad.off + 24 + 1, none⟩ = some (.int .i64 (rd_T43 q 6).f1) ∧ w'.cell? ⟨ad.block, ad.off + 28 + 2, none⟩ = some (.slice B7 (rd_T43 q 7).f2.length b7)) (ds := [38]) #[false, false, false, false, false, false, false, false, false, false, false, false, false, false, false, false, false, false, false, false, false, false, false, false, false, false, false, false, false, false, false, false, false, false, false, false, false, false, false] (by kernel_rfl) rfl rfl ⟨E.out.y0, E.out.y1, Kd.C_string Tryd.underlying22 Tryd.underlying5 Tryd.underlying9 (Kd.F_now E.out.g1), E.out.y2, Kd.C_string Tryd.underlying22 Tryd.underlying5 Tryd.underlying9 (Kd.F_now E.out.g2), E.out.y3, Kd.C_string Tryd.underlying22 Tryd.underlying5 Tryd.underlying9 (Kd.F_now E.out.g3), E.out.y4, Kd.C_string Tryd.underlying22 Tryd.underlying5 Tryd.underlying9 (Kd.F_now E.out.g4), E.out.y5, E.out.y6, E.out.y7⟩ (fun hHeld => ?_)
 refine with_tabW call_Read.tab7 call_Read.bits7 (fun HT_ HW_ => ?_)
 generalize World.drew _ = wd at FF G3 E hHeld ⊢
 refine pure_ (i := 0) (N := some 26) (v := ?_) (a' := ?_) #[true, false, false, false, false, false, false, false, false, false, false, false, false, false, false, false, false, false, false, false, false, false, false, false, false, false, false, false, false, false, false, false, false, false, false, false, false, false, false] rfl rfl (any_of HT_.out (by kernel_rfl)) (fun _ _ _ h => h) (Or.inl ⟨by rfl, ?_⟩) ?_ ?_
 rotate_left
 ·intro w'
  go_simp
  with_reducible rfl
 rotate_left
 ·simp only [Act.put, List.setIfInBounds_toArray, List.set_cons_zero, List.set_cons_succ, i64_w, i32_w]
  rfl
 refine pure_ (i := 1) (N := some 27) (v := ?_) (a' := ?_) #[true, true, false, false, false, false, false, false, false, false, false, false, false, false, false, false, false, false, false, false, false, false, false, false, false, false, false, false, false, false, false, false, false, false, false, false, false, false, false] rfl rfl (any_of HT_.out (by kernel_rfl)) (fun _ _ _ h => h) (Or.inl ⟨by rfl, ?_⟩) ?_ ?_
 rotate_left
 ·intro w'
  go_simp
  with_reducible rfl
 rotate_left
 ·simp only [Act.put, List.setIfInBounds_toArray, List.set_cons_zero, List.set_cons_succ, i64_w, i32_w]
  rfl
 refine pure_ (i := 2) (N := some 28) (v := ?_) (a' := ?_) #[true, true, true, false, false, false, false, false, false, false, false, false, false, false, false, false, false, false, false, false, false, false, false, false, false, false, false, false, false, false, false, false, false, false, false, false, false, false, false] rfl rfl (any_of HT_.out (by kernel_rfl)) (fun _ _ _ h => h) (Or.inl ⟨by rfl, ?_⟩) ?_ ?_
 rotate_left
 ·intro w'
  go_simp
  with_reducible rfl
 rotate_left
 ·simp only [Act.put, List.setIfInBounds_toArray, List.set_cons_zero, List.set_cons_succ, i64_w, i32_w]
  rfl
 refine pure_ (i := 4) (N := some 30) (v := ?_) (a' := ?_) #[true, true, true, false, true, false, false, false, false, false, false, false, false, false, false, false, false, false, false, false, false, false, false, false, false, false, false, false, false, false, false, false, false, false, false, false, false, false, false] rfl rfl (any_of HT_.out (by kernel_rfl)) (fun _ _ _ h => h) (Or.inl ⟨by rfl, ?_⟩) ?_ ?_
 rotate_left
 ·intro w'
  go_simp
  with_reducible rfl
 rotate_left
 ·simp only [Act.put, List.setIfInBounds_toArray, List.set_cons_zero, List.set_cons_succ, i64_w, i32_w]
  rfl
 refine pure_ (i := 5) (N := some 31) (v := ?_) (a' := ?_) #[true, true, true, false, true, true, false, false, false, false, false, false, false, false, false, false, false, false, false, false, false, false, false, false, false, false, false, false, false, false, false, false, false, false, false, false, false, false, false] rfl rfl (any_of HT_.out (by kernel_rfl)) (fun _ _ _ h => h) (Or.inl ⟨by rfl, ?_⟩) ?_ ?_
 rotate_left
 ·intro w'
  go_simp
  with_reducible rfl
 rotate_left
 ·simp only [Act.put, List.setIfInBounds_toArray, List.set_cons_zero, List.set_cons_succ, i64_w, i32_w]
  rfl
 refine pure_ (i := 6) (N := some 32) (v := ?_) (a' := ?_) #[true, true, true, false, true, true, true, false, false, false, false, false, false, false, false, false, false, false, false, false, false, false, false, false, false, false, false, false, false, false, false, false, false, false, false, false, false, false, false] rfl rfl (any_of HT_.out (by kernel_rfl)) (fun _ _ _ h => h) (Or.inl ⟨by rfl, ?_⟩) ?_ ?_
 rotate_left
 ·intro w'
  go_simp
  with_reducible rfl
 rotate_left
 ·simp only [Act.put, List.setIfInBounds_toArray, List.set_cons_zero, List.set_cons_succ, i64_w, i32_w]
  rfl
 refine pure_ (i := 9) (N := some 35) (v := ?_) (a' := ?_) #[true, true, true, false, true, true, true, false, false, true, false, false, false, false, false, false, false, false, false, false, false, false, false, false, false, false, false, false, false, false, false, false, false, false, false, false, false, false, false] rfl rfl (any_of HT_.out (by kernel_rfl)) (fun _ _ _ h => h) (Or.inl ⟨by rfl, ?_⟩) ?_ ?_
 rotate_left
 ·intro w'
  go_simp
  with_reducible rfl
 rotate_left
 ·simp only [Act.put, List.setIfInBounds_toArray, List.set_cons_zero, List.set_cons_succ, i64_w, i32_w]
  rfl
 refine pure_ (i := 10) (N := some 36) (v := ?_) (a' := ?_) #[true, true, true, false, true, true, true, false, false, true, true, false, false, false, false, false, false, false, false, false, false, false, false, false, false, false, false, false, false, false, false, false, false, false, false, false, false, false, false] rfl rfl (any_of HT_.out (by kernel_rfl)) (fun _ _ _ h => h) (Or.inl ⟨by rfl, ?_⟩) ?_ ?_
 rotate_left
 ·intro w'
  go_simp
  with_reducible rfl
 rotate_left
 ·simp only [Act.put, List.setIfInBounds_toArray, List.set_cons_zero, List.set_cons_succ, i64_w, i32_w]
  rfl
 refine pure_ (i := 11) (N := some 37) (v := ?_) (a' := ?_) #[true, true, true, false, true, true, true, false, false, true, true, true, false, false, false, false, false, false, false, false, false, false, false, false, false, false, false, false, false, false, false, false, false, false, false, false, false, false, false] rfl rfl (any_of HT_.out (by kernel_rfl)) (fun _ _ _ h => h) (Or.inl ⟨by rfl, ?_⟩) ?_ ?_
 rotate_left
 ·intro w'
  go_simp
  with_reducible rfl
 rotate_left
 ·simp only [Act.put, List.setIfInBounds_toArray, List.set_cons_zero, List.set_cons_succ, i64_w, i32_w]
  rfl
 refine pure_ (i := 14) (N := some 40) (v := ?_) (a' := ?_) #[true, true, true, false, true, true, true, false, false, true, true, true, false, false, true, false, false, false, false, false, false, false, false, false, false, false, false, false, false, false, false, false, false, false, false, false, false, false, false] rfl rfl (any_of HT_.out (by kernel_rfl)) (fun _ _ _ h => h) (Or.inl ⟨by rfl, ?_⟩) ?_ ?_
 rotate_left
 ·intro w'
  go_simp
  with_reducible rfl
 rotate_left
 ·simp only [Act.put, List.setIfInBounds_toArray, List.set_cons_zero, List.set_cons_succ, i64_w, i32_w]
  rfl
 refine pure_ (i := 15) (N := some 41) (v := ?_) (a' := ?_) #[true, true, true, false, true, true, true, false, false, true, true, true, false, false, true, true, false, false, false, false, false, false, false, false, false, false, false, false, false, false, false, false, false, false, false, false, false, false, false] rfl rfl (any_of HT_.out (by kernel_rfl)) (fun _ _ _ h => h) (Or.inl ⟨by rfl, ?_⟩) ?_ ?_
 rotate_left
 ·intro w'
  go_simp
  with_reducible rfl
 rotate_left
 ·simp only [Act.put, List.setIfInBounds_toArray, List.set_cons_zero, List.set_cons_succ, i64_w, i32_w]
  rfl
 refine pure_ (i := 16) (N := some 42) (v := ?_) (a' := ?_) #[true, true, true, false, true, true, true, false, false, true, true, true, false, false, true, true, true, false, false, false, false, false, false, false, false, false, false, false, false, false, false, false, false, false, false, false, false, false, false] rfl rfl (any_of HT_.out (by kernel_rfl)) (fun _ _ _ h => h) (Or.inl ⟨by rfl, ?_⟩) ?_ ?_
 rotate_left
 ·intro w'
  go_simp
  with_reducible rfl
 rotate_left
 ·simp only [Act.put, List.setIfInBounds_toArray, List.set_cons_zero, List.set_cons_succ, i64_w, i32_w]
  rfl
 refine pure_ (i := 19) (N := some 45) (v := ?_) (a' := ?_) #[true, true, true, false, true, true, true, false, false, true, true, true, false, false, true, true, true, false, false, true, false, false, false, false, false, false, false, false, false, false, false, false, false, false, false, false, false, false, false] rfl rfl (any_of HT_.out (by kernel_rfl)) (fun _ _ _ h => h) (Or.inl ⟨by rfl, ?_⟩) ?_ ?_
 rotate_left
 ·intro w'
  go_simp
  with_reducible rfl
 rotate_left
 ·simp only [Act.put, List.setIfInBounds_toArray, List.set_cons_zero, List.set_cons_succ, i64_w, i32_w]
  rfl
 refine pure_ (i := 20) (N := some 46) (v := ?_) (a' := ?_) #[true, true, true, false, true, true, true, false, false, true, true, true, false, false, true, true, true, false, false, true, true, false, false, false, false, false, false, false, false, false, false, false, false, false, false, false, false, false, false] rfl rfl (any_of HT_.out (by kernel_rfl)) (fun _ _ _ h => h) (Or.inl ⟨by rfl, ?_⟩) ?_ ?_
 rotate_left
 ·intro w'
  go_simp
  with_reducible rfl
 rotate_left
 ·simp only [Act.put, List.setIfInBounds_toArray, List.set_cons_zero, List.set_cons_succ, i64_w, i32_w]
  rfl
 refine pure_ (i := 21) (N := some 47) (v := ?_) (a' := ?_) #[true, true, true, false, true, true, true, false, false, true, true, true, false, false, true, true, true, false, false, true, true, true, false, false, false, false, false, false, false, false, false, false, false, false, false, false, false, false, false] rfl rfl (any_of HT_.out (by kernel_rfl)) (fun _ _ _ h => h) (Or.inl ⟨by rfl, ?_⟩) ?_ ?_
 rotate_left
 ·intro w'
  go_simp
  with_reducible rfl
 rotate_left
 ·simp only [Act.put, List.setIfInBounds_toArray, List.set_cons_zero, List.set_cons_succ, i64_w, i32_w]
  rfl
 refine pure_ (i := 24) (N := some 50) (v := ?_) (a' := ?_) #[true, true, true, false, true, true, true, false, false, true, true, true, false, false, true, true, true, false, false, true, true, true, false, false, true, false, false, false, false, false, false, false, false, false, false, false, false, false, false] rfl rfl (any_of HT_.out (by kernel_rfl)) (fun _ _ _ h => h) (Or.inl ⟨by rfl, ?_⟩) ?_ ?_
 rotate_left
 ·intro w'
  go_simp
  with_reducible rfl
 rotate_left
 ·simp only [Act.put, List.setIfInBounds_toArray, List.set_cons_zero, List.set_cons_succ, i64_w, i32_w]
  rfl
 refine pure_ (i := 25) (N := some 51) (v := ?_) (a' := ?_) #[true, true, true, false, true, true, true, false, false, true, true, true, false, false, true, true, true, false, false, true, true, true, false, false, true, true, false, false, false, false, false, false, false, false, false, false, false, false, false] rfl rfl (any_of HT_.out (by kernel_rfl)) (fun _ _ _ h => h) (Or.inl ⟨by rfl, ?_⟩) ?_ ?_
 rotate_left
 ·intro w'
  go_simp
  with_reducible rfl
 rotate_left
 ·simp only [Act.put, List.setIfInBounds_toArray, List.set_cons_zero, List.set_cons_succ, i64_w, i32_w]
  rfl
 refine pure_ (i := 26) (N := some 52) (v := ?_) (a' := ?_) #[true, true, true, false, true, true, true, false, false, true, true, true, false, false, true, true, true, false, false, true, true, true, false, false, true, true, true, false, false, false, false, false, false, false, false, false, false, false, false] rfl rfl (any_of HT_.out (by kernel_rfl)) (fun _ _ _ h => h) (Or.inl ⟨by rfl, ?_⟩) ?_ ?_
 rotate_left
 ·intro w'
  go_simp
  with_reducible rfl
 rotate_left
 ·simp only [Act.put, List.setIfInBounds_toArray, List.set_cons_zero, List.set_cons_succ, i64_w, i32_w]
  rfl
 refine pure_ (i := 28) (N := some 54) (v := ?_) (a' := ?_) #[true, true, true, false, true, true, true, false, false, true, true, true, false, false, true, true, true, false, false, true, true, true, false, false, true, true, true, false, true, false, false, false, false, false, false, false, false, false, false] rfl rfl (any_of HT_.out (by kernel_rfl)) (fun _ _ _ h => h) (Or.inl ⟨by rfl, ?_⟩) ?_ ?_
 rotate_left
 ·intro w'
  go_simp
  with_reducible rfl
 rotate_left
 ·simp only [Act.put, List.setIfInBounds_toArray, List.set_cons_zero, List.set_cons_succ, i64_w, i32_w]
  rfl
 refine pure_ (i := 29) (N := some 55) (v := ?_) (a' := ?_) #[true, true, true, false, true, true, true, false, false, true, true, true, false, false, true, true, true, false, false, true, true, true, false, false, true, true, true, false, true, true, false, false, false, false, false, false, false, false, false] rfl rfl (any_of HT_.out (by kernel_rfl)) (fun _ _ _ h => h) (Or.inl ⟨by rfl, ?_⟩) ?_ ?_
 rotate_left
 ·intro w'
  go_simp
  with_reducible rfl
 rotate_left
 ·simp only [Act.put, List.setIfInBounds_toArray, List.set_cons_zero, List.set_cons_succ, i64_w, i32_w]
  rfl
 refine pure_ (i := 30) (N := some 56) (v := ?_) (a' := ?_) #[true, true, true, false, true, true, true, false, false, true, true, true, false, false, true, true, true, false, false, true, true, true, false, false, true, true, true, false, true, true, true, false, false, false, false, false, false, false, false] rfl rfl (any_of HT_.out (by kernel_rfl)) (fun _ _ _ h => h) (Or.inl ⟨by rfl, ?_⟩) ?_ ?_
 rotate_left
 ·intro w'
  go_simp
  with_reducible rfl
 rotate_left
 ·simp only [Act.put, List.setIfInBounds_toArray, List.set_cons_zero, List.set_cons_succ, i64_w, i32_w]
  rfl
 refine pure_ (i := 32) (N := some 58) (v := ?_) (a' := ?_) #[true, true, true, false, true, true, true, false, false, true, true, true, false, false, true, true, true, false, false, true, true, true, false, false, true, true, true, false, true, true, true, false, true, false, false, false, false, false, false] rfl rfl (any_of HT_.out (by kernel_rfl)) (fun _ _ _ h => h) (Or.inl ⟨by rfl, ?_⟩) ?_ ?_
 rotate_left
 ·intro w'
  go_simp
  with_reducible rfl
 rotate_left
 ·simp only [Act.put, List.setIfInBounds_toArray, List.set_cons_zero, List.set_cons_succ, i64_w, i32_w]
  rfl
 refine pure_ (i := 33) (N := some 59) (v := ?_) (a' := ?_) #[true, true, true, false, true, true, true, false, false, true, true, true, false, false, true, true, true, false, false, true, true, true, false, false, true, true, true, false, true, true, true, false, true, true, false, false, false, false, false] rfl rfl (any_of HT_.out (by kernel_rfl)) (fun _ _ _ h => h) (Or.inl ⟨by rfl, ?_⟩) ?_ ?_
 rotate_left
 ·intro w'
  go_simp
  with_reducible rfl
 rotate_left
 ·simp only [Act.put, List.setIfInBounds_toArray, List.set_cons_zero, List.set_cons_succ, i64_w, i32_w]
  rfl
 refine pure_ (i := 34) (N := some 60) (v := ?_) (a' := ?_) #[true, true, true, false, true, true, true, false, false, true, true, true, false, false, true, true, true, false, false, true, true, true, false, false, true, true, true, false, true, true, true, false, true, true, true, false, false, false, false] rfl rfl (any_of HT_.out (by kernel_rfl)) (fun _ _ _ h => h) (Or.inl ⟨by rfl, ?_⟩) ?_ ?_
 rotate_left
 ·intro w'
  go_simp
  with_reducible rfl
 rotate_left
 ·simp only [Act.put, List.setIfInBounds_toArray, List.set_cons_zero, List.set_cons_succ, i64_w, i32_w]
  rfl
 refine take_ (i := 3) (N := some 29) (v := ?_) (a' := ?_) #[true, true, true, true, true, true, true, false, false, true, true, true, false, false, true, true, true, false, false, true, true, true, false, false, true, true, true, false, true, true, true, false, true, true, true, false, false, false, false] rfl rfl (take_ofW HT_.out HW_.out (by kernel_rfl)) (fun _ _ _ h => h) (Or.inl ⟨by rfl, ?_⟩) hHeld ?_ ?_
 rotate_left
 ·rintro w' ⟨s0, s1, s2, s3, s4, s5, s6, s7, s8, s9, s10, s11⟩
  go_simp
  with_reducible rfl
 rotate_left
 ·simp only [Act.put, List.setIfInBounds_toArray, List.set_cons_zero, List.set_cons_succ, i64_w, i32_w]
  rfl
 refine take_ (i := 7) (N := some 33) (v := ?_) (a' := ?_) #[true, true, true, true, true, true, true, true, false, true, true, true, false, false, true, true, true, false, false, true, true, true, false, false, true, true, true, false, true, true, true, false, true, true, true, false, false, false, false] rfl rfl (take_ofW HT_.out HW_.out (by kernel_rfl)) (fun _ _ _ h => h) (Or.inl ⟨by rfl, ?_⟩) hHeld ?_ ?_
 rotate_left
 ·rintro w' ⟨s0, s1, s2, s3, s4, s5, s6, s7, s8, s9, s10, s11⟩
  go_simp
  with_reducible rfl
 rotate_left
 ·simp only [Act.put, List.setIfInBounds_toArray, List.set_cons_zero, List.set_cons_succ, i64_w, i32_w]
  rfl
 refine take_ (i := 8) (N := some 34) (v := ?_) (a' := ?_) #[true, true, true, true, true, true, true, true, true, true, true, true, false, false, true, true, true, false, false, true, true, true, false, false, true, true, true, false, true, true, true, false, true, true, true, false, false, false, false] rfl rfl (take_ofW HT_.out HW_.out (by kernel_rfl)) (fun _ _ _ h => h) (Or.inl ⟨by rfl, ?_⟩) hHeld ?_ ?_
 rotate_left
 ·rintro w' ⟨s0, s1, s2, s3, s4, s5, s6, s7, s8, s9, s10, s11⟩
  go_simp
  with_reducible rfl
 rotate_left
 ·simp only [Act.put, List.setIfInBounds_toArray, List.set_cons_zero, List.set_cons_succ, i64_w, i32_w]
  rfl
 refine take_ (i := 12) (N := some 38) (v := ?_) (a' := ?_) #[true, true, true, true, true, true, true, true, true, true, true, true, true, false, true, true, true, false, false, true, true, true, false, false, true, true, true, false, true, true, true, false, true, true, true, false, false, false, false] rfl rfl (take_ofW HT_.out HW_.out (by kernel_rfl)) (fun _ _ _ h => h) (Or.inl ⟨by rfl, ?_⟩) hHeld ?_ ?_
 rotate_left
 ·rintro w' ⟨s0, s1, s2, s3, s4, s5, s6, s7, s8, s9, s10, s11⟩
  go_simp
  with_reducible rfl
 rotate_left
 ·simp only [Act.put, List.setIfInBounds_toArray, List.set_cons_zero, List.set_cons_succ, i64_w, i32_w]
  rfl
 refine take_ (i := 13) (N := some 39) (v := ?_) (a' := ?_) #[true, true, true, true, true, true, true, true, true, true, true, true, true, true, true, true, true, false, false, true, true, true, false, false, true, true, true, false, true, true, true, false, true, true, true, false, false, false, false] rfl rfl (take_ofW HT_.out HW_.out (by kernel_rfl)) (fun _ _ _ h => h) (Or.inl ⟨by rfl, ?_⟩) hHeld ?_ ?_
 rotate_left
 ·rintro w' ⟨s0, s1, s2, s3, s4, s5, s6, s7, s8, s9, s10, s11⟩
  go_simp
  with_reducible rfl
 rotate_left
 ·simp only [Act.put, List.setIfInBounds_toArray, List.set_cons_zero, List.set_cons_succ, i64_w, i32_w]
  rfl
 refine take_ (i := 17) (N := some 43) (v := ?_) (a' := ?_) #[true, true, true, true, true, true, true, true, true, true, true, true, true, true, true, true, true, true, false, true, true, true, false, false, true, true, true, false, true, true, true, false, true, true, true, false, false, false, false] rfl rfl (take_ofW HT_.out HW_.out (by kernel_rfl)) (fun _ _ _ h => h) (Or.inl ⟨by rfl, ?_⟩) hHeld ?_ ?_
 rotate_left
 ·rintro w' ⟨s0, s1, s2, s3, s4, s5, s6, s7, s8, s9, s10, s11⟩
  go_simp
  with_reducible rfl
 rotate_left
 ·simp only [Act.put, List.setIfInBounds_toArray, List.set_cons_zero, List.set_cons_succ, i64_w, i32_w]
  rfl
 refine take_ (i := 18) (N := some 44) (v := ?_) (a' := ?_) #[true, true, true, true, true, true, true, true, true, true, true, true, true, true, true, true, true, true, true, true, true, true, false, false, true, true, true, false, true, true, true, false, true, true, true, false, false, false, false] rfl rfl (take_ofW HT_.out HW_.out (by kernel_rfl)) (fun _ _ _ h => h) (Or.inl ⟨by rfl, ?_⟩) hHeld ?_ ?_
 rotate_left
 ·rintro w' ⟨s0, s1, s2, s3, s4, s5, s6, s7, s8, s9, s10, s11⟩
  go_simp
  with_reducible rfl
 rotate_left
 ·simp only [Act.put, List.setIfInBounds_toArray, List.set_cons_zero, List.set_cons_succ, i64_w, i32_w]
  rfl
 refine take_ (i := 22) (N := some 48) (v := ?_) (a' := ?_) #[true, true, true, true, true, true, true, true, true, true, true, true, true, true, true, true, true, true, true, true, true, true, true, false, true, true, true, false, true, true, true, false, true, true, true, false, false, false, false] rfl rfl (take_ofW HT_.out HW_.out (by kernel_rfl)) (fun _ _ _ h => h) (Or.inl ⟨by rfl, ?_⟩) hHeld ?_ ?_
 rotate_left
 ·rintro w' ⟨s0, s1, s2, s3, s4, s5, s6, s7, s8, s9, s10, s11⟩
  go_simp
  with_reducible rfl
 rotate_left
 ·simp only [Act.put, List.setIfInBounds_toArray, List.set_cons_zero, List.set_cons_succ, i64_w, i32_w]
  rfl
 refine take_ (i := 23) (N := some 49) (v := ?_) (a' := ?_) #[true, true, true, true, true, true, true, true, true, true, true, true, true, true, true, true, true, true, true, true, true, true, true, true, true, true, true, false, true, true, true, false, true, true, true, false, false, false, false] rfl rfl (take_ofW HT_.out HW_.out (by kernel_rfl)) (fun _ _ _ h => h) (Or.inl ⟨by rfl, ?_⟩) hHeld ?_ ?_
 rotate_left
 ·rintro w' ⟨s0, s1, s2, s3, s4, s5, s6, s7, s8, s9, s10, s11⟩
  go_simp
  with_reducible rfl
 rotate_left
 ·simp only [Act.put, List.setIfInBounds_toArray, List.set_cons_zero, List.set_cons_succ, i64_w, i32_w]
  rfl
 refine take_ (i := 27) (N := some 53) (v := ?_) (a' := ?_) #[true, true, true, true, true, true, true, true, true, true, true, true, true, true, true, true, true, true, true, true, true, true, true, true, true, true, true, true, true, true, true, false, true, true, true, false, false, false, false] rfl rfl (take_ofW HT_.out HW_.out (by kernel_rfl)) (fun _ _ _ h => h) (Or.inl ⟨by rfl, ?_⟩) hHeld ?_ ?_
 rotate_left
 ·rintro w' ⟨s0, s1, s2, s3, s4, s5, s6, s7, s8, s9, s10, s11⟩
  go_simp
  with_reducible rfl
 rotate_left
 ·simp only [Act.put, List.setIfInBounds_toArray, List.set_cons_zero, List.set_cons_succ, i64_w, i32_w]
  rfl
 refine take_ (i := 31) (N := some 57) (v := ?_) (a' := ?_) #[true, true, true, true, true, true, true, true, true, true, true, true, true, true, true, true, true, true, true, true, true, true, true, true, true, true, true, true, true, true, true, true, true, true, true, false, false, false, false] rfl rfl (take_ofW HT_.out HW_.out (by kernel_rfl)) (fun _ _ _ h => h) (Or.inl ⟨by rfl, ?_⟩) hHeld ?_ ?_
 rotate_left
 ·rintro w' ⟨s0, s1, s2, s3, s4, s5, s6, s7, s8, s9, s10, s11⟩
  go_simp
  with_reducible rfl
 rotate_left
 ·simp only [Act.put, List.setIfInBounds_toArray, List.set_cons_zero, List.set_cons_succ, i64_w, i32_w]
  rfl
 refine take_ (i := 35) (N := some 61) (v := ?_) (a' := ?_) #[true, true, true, true, true, true, true, true, true, true, true, true, true, true, true, true, true, true, true, true, true, true, true, true, true, true, true, true, true, true, true, true, true, true, true, true, false, false, false] rfl rfl (take_ofW HT_.out HW_.out (by kernel_rfl)) (fun _ _ _ h => h) (Or.inl ⟨by rfl, ?_⟩) hHeld ?_ ?_
 rotate_left
 ·rintro w' ⟨s0, s1, s2, s3, s4, s5, s6, s7, s8, s9, s10, s11⟩
  go_simp
  with_reducible rfl
 rotate_left
 ·simp only [Act.put, List.setIfInBounds_toArray, List.set_cons_zero, List.set_cons_succ, i64_w, i32_w]
  rfl
 refine pure_ (i := 36) (N := some 62) (v := ?_) (a' := ?_) #[true, true, true, true, true, true, true, true, true, true, true, true, true, true, true, true, true, true, true, true, true, true, true, true, true, true, true, true, true, true, true, true, true, true, true, true, true, false, false] rfl rfl (any_of HT_.out (by kernel_rfl)) (fun _ _ _ h => h) (Or.inl ⟨by rfl, ?_⟩) ?_ ?_
 rotate_left
 ·intro w'
  go_simp
  with_reducible rfl
 rotate_left
 ·simp only [Act.put, List.setIfInBounds_toArray, List.set_cons_zero, List.set_cons_succ, i64_w, i32_w]
  rfl
 refine one_ (i := 37) (N := some 8) #[true, true, true, true, true, true, true, true, true, true, true, true, true, true, true, true, true, true, true, true, true, true, true, true, true, true, true, true, true, true, true, true, true, true, true, true, true, true, false] rfl rfl (one_of HT_.out (by kernel_rfl)) (by decide) (fun K hK => ?_)
 refine box_step ?hg (N := 8) ?hd (cs := #[.int .i64 0, .string ByteArray.empty, .string ByteArray.empty, .string ByteArray.empty, .string ByteArray.empty, .int .i64 0, .int .i64 0, .slice none 0 0]) (t := 24) ?hr ?_; (case hd => rfl); (case hg => rfl); (case hr => first | (go_simp; done) | (go_simp; rfl))
 intro g_ hg w4 hbox hb4
 have LT := Aside0.mk (show w.heap.size < g_ by rw [hg]; exact blk_lt FF.out.z)
 have BX := Aside0.mk (show CB g_ w4 (.int .i64 0) (.string ByteArray.empty) (.string ByteArray.empty) (.string ByteArray.empty) (.string ByteArray.empty) (.int .i64 0) (.int .i64 0) (.slice none 0 0) from hbox)
 have F4 := Aside0.mk (FF.out.step hb4)
 have G4 := Aside0.mk (gt_below G3.out hb4)
 have E4 := Aside0.mk (E.out.below hb4)
 have HG := Aside0.mk (show wd.heap.size ≤ g_ by rw [hg]; exact Nat.le_refl _)
 have HB4 := Aside0.mk hb4
 clear hb4 hbox hg FF G3 E
 have E := E4
 clear E4
 refine hK.out _ _ ⟨E.out.y0, E.out.y1, Kd.C_string Tryd.underlying22 Tryd.underlying5 Tryd.underlying9 (Kd.F_now E.out.g1), E.out.y2, Kd.C_string Tryd.underlying22 Tryd.underlying5 Tryd.underlying9 (Kd.F_now E.out.g2), E.out.y3, Kd.C_string Tryd.underlying22 Tryd.underlying5 Tryd.underlying9 (Kd.F_now E.out.g3), E.out.y4, Kd.C_string Tryd.underlying22 Tryd.underlying5 Tryd.underlying9 (Kd.F_now E.out.g4), E.out.y5, E.out.y6, E.out.y7⟩ (fun hHeld => ?_)
 clear hK K
 refine norm_ (a' := ?_) ?_ ?_
 rotate_left
 ·show Act.put _ (some 8) _ = _
  simp only [Act.put, List.setIfInBounds_toArray, List.set_cons_zero, List.set_cons_succ, i64_w, i32_w]
  rfl
 refine last_ (i := 38) (N := none) #[true, true, true, true, true, true, true, true, true, true, true, true, true, true, true, true, true, true, true, true, true, true, true, true, true, true, true, true, true, true, true, true, true, true, true, true, true, true, true] rfl rfl (one_of HT_.out (by kernel_rfl)) (by decide) (fun K hK => ?_)
 obtain ⟨z0, z1, z2, z3, z4, z5, z6, z7⟩ := cb_cells BX.out
 have f0 := blk_frozen BX.out 0
 have f1 := blk_frozen BX.out 1
 have f2 := blk_frozen BX.out 2
 have f3 := blk_frozen BX.out 3
 have f4 := blk_frozen BX.out 4
 have f5 := blk_frozen BX.out 5
 have f6 := blk_frozen BX.out 6
 have f7 := blk_frozen BX.out 7
 refine skip_ (w1 := ((((((((w4.setCell ⟨g_, 0, none⟩ (.int .i64 (rd_T43 q 0).f1)).setCell ⟨g_, 1, none⟩ (.string (strOfNums (rd_T43 q 1).f2))).setCell ⟨g_, 2, none⟩ (.string (strOfNums (rd_T43 q 2).f2))).setCell ⟨g_, 3, none⟩ (.string (strOfNums (rd_T43 q 3).f2))).setCell ⟨g_, 4, none⟩ (.string (strOfNums (rd_T43 q 4).f2))).setCell ⟨g_, 5, none⟩ (.int .i64 (rd_T43 q 5).f1)).setCell ⟨g_, 6, none⟩ (.int .i64 (rd_T43 q 6).f1)).setCell ⟨g_, 7, none⟩ (.slice B7 (rd_T43 q 7).f2.length b7))) (by rfl) rfl ?_ ?_
 ·first | (go_simp; done) | (go_simp; rfl)
 refine hK.out _ _ ?_
 clear hK K
 refine done_ (done_of HT_.out (by kernel_rfl)) ?_
 have FA := Aside0.mk (show TS w ((((((((w4.setCell ⟨g_, 0, none⟩ (.int .i64 (rd_T43 q 0).f1)).setCell ⟨g_, 1, none⟩ (.string (strOfNums (rd_T43 q 1).f2))).setCell ⟨g_, 2, none⟩ (.string (strOfNums (rd_T43 q 2).f2))).setCell ⟨g_, 3, none⟩ (.string (strOfNums (rd_T43 q 3).f2))).setCell ⟨g_, 4, none⟩ (.string (strOfNums (rd_T43 q 4).f2))).setCell ⟨g_, 5, none⟩ (.int .i64 (rd_T43 q 5).f1)).setCell ⟨g_, 6, none⟩ (.int .i64 (rd_T43 q 6).f1)).setCell ⟨g_, 7, none⟩ (.slice B7 (rd_T43 q 7).f2.length b7)) from F4.out.putE LT.out _ _ _ _ _ _ _ _)
 have GA := Aside0.mk (show GT ((((((((w4.setCell ⟨g_, 0, none⟩ (.int .i64 (rd_T43 q 0).f1)).setCell ⟨g_, 1, none⟩ (.string (strOfNums (rd_T43 q 1).f2))).setCell ⟨g_, 2, none⟩ (.string (strOfNums (rd_T43 q 2).f2))).setCell ⟨g_, 3, none⟩ (.string (strOfNums (rd_T43 q 3).f2))).setCell ⟨g_, 4, none⟩ (.string (strOfNums (rd_T43 q 4).f2))).setCell ⟨g_, 5, none⟩ (.int .i64 (rd_T43 q 5).f1)).setCell ⟨g_, 6, none⟩ (.int .i64 (rd_T43 q 6).f1)).setCell ⟨g_, 7, none⟩ (.slice B7 (rd_T43 q 7).f2.length b7)) from gt_put8 G4.out (Nat.lt_of_le_of_lt (Nat.zero_le _) LT.out) _ _ _ _ _ _ _ _)
 have BB := Aside0.mk (show CB g_ ((((((((w4.setCell ⟨g_, 0, none⟩ (.int .i64 (rd_T43 q 0).f1)).setCell ⟨g_, 1, none⟩ (.string (strOfNums (rd_T43 q 1).f2))).setCell ⟨g_, 2, none⟩ (.string (strOfNums (rd_T43 q 2).f2))).setCell ⟨g_, 3, none⟩ (.string (strOfNums (rd_T43 q 3).f2))).setCell ⟨g_, 4, none⟩ (.string (strOfNums (rd_T43 q 4).f2))).setCell ⟨g_, 5, none⟩ (.int .i64 (rd_T43 q 5).f1)).setCell ⟨g_, 6, none⟩ (.int .i64 (rd_T43 q 6).f1)).setCell ⟨g_, 7, none⟩ (.slice B7 (rd_T43 q 7).f2.length b7)) (.int .i64 (rd_T43 q 0).f1) (.string (strOfNums (rd_T43 q 1).f2)) (.string (strOfNums (rd_T43 q 2).f2)) (.string (strOfNums (rd_T43 q 3).f2)) (.string (strOfNums (rd_T43 q 4).f2)) (.int .i64 (rd_T43 q 5).f1) (.int .i64 (rd_T43 q 6).f1) (.slice B7 (rd_T43 q 7).f2.length b7) from cb_put8 BX.out _ _ _ _ _ _ _ _)
 have EA := Aside0.mk (show Kd.F (Kd.int .u8) ((((((((w4.setCell ⟨g_, 0, none⟩ (.int .i64 (rd_T43 q 0).f1)).setCell ⟨g_, 1, none⟩ (.string (strOfNums (rd_T43 q 1).f2))).setCell ⟨g_, 2, none⟩ (.string (strOfNums (rd_T43 q 2).f2))).setCell ⟨g_, 3, none⟩ (.string (strOfNums (rd_T43 q 3).f2))).setCell ⟨g_, 4, none⟩ (.string (strOfNums (rd_T43 q 4).f2))).setCell ⟨g_, 5, none⟩ (.int .i64 (rd_T43 q 5).f1)).setCell ⟨g_, 6, none⟩ (.int .i64 (rd_T43 q 6).f1)).setCell ⟨g_, 7, none⟩ (.slice B7 (rd_T43 q 7).f2.length b7)) (fun k_ => w.heap.size < k_ ∧ k_ < wd.heap.size) B7 (rd_T43 q 7).f2.length (rd_T43 q 7).f2 from F_put8 E.out.g7 (fun k hk => Nat.ne_of_lt (Nat.lt_of_lt_of_le hk.2 HG.out)) _ _ _ _ _ _ _ _)
 have L7 := Aside0.mk E.out.l7
 clear z0 z1 z2 z3 z4 z5 z6 z7 f0 f1 f2 f3 f4 f5 f6 f7 E F4 G4 BX HB4 hHeld HG
 generalize ((((((((w4.setCell ⟨g_, 0, none⟩ (.int .i64 (rd_T43 q 0).f1)).setCell ⟨g_, 1, none⟩ (.string (strOfNums (rd_T43 q 1).f2))).setCell ⟨g_, 2, none⟩ (.string (strOfNums (rd_T43 q 2).f2))).setCell ⟨g_, 3, none⟩ (.string (strOfNums (rd_T43 q 3).f2))).setCell ⟨g_, 4, none⟩ (.string (strOfNums (rd_T43 q 4).f2))).setCell ⟨g_, 5, none⟩ (.int .i64 (rd_T43 q 5).f1)).setCell ⟨g_, 6, none⟩ (.int .i64 (rd_T43 q 6).f1)).setCell ⟨g_, 7, none⟩ (.slice B7 (rd_T43 q 7).f2.length b7)) = w5 at FA GA BB EA ⊢
 obtain ⟨x0, x1, x2, x3, x4, x5, x6, x7⟩ := cb_cells BB.out
 go_wp2_with fail
 refine (call_May.calls k (rd_T43 q 0).f1 (strOfNums (rd_T43 q 1).f2) (strOfNums (rd_T43 q 2).f2) (strOfNums (rd_T43 q 3).f2) (strOfNums (rd_T43 q 4).f2) (rd_T43 q 5).f1 (rd_T43 q 6).f1 B7 b7 (rd_T43 q 7).f2 m _ (Kd.F_now EA.out) L7.out GA.out HM.out).mono ?_
 rintro en w6 ⟨rfl, hb⟩
 have FF := Aside0.mk (FA.out.step hb)
 have BN_ := Aside0.mk (cb_below BB.out hb)
 have EN_ := Aside0.mk (Kd.F_below EA.out hb)
 clear x0 x1 x2 x3 x4 x5 x6 x7 FA GA BB EA hb HM
 have BB := BN_
 have EA := EN_
 clear BN_ EN_
 have h1 := H.out
 clear H
 cases m
 ·simp only [Bool.false_eq_true, if_false] at h1
  cases h1
  clear BB EA L7
  obtain ⟨z0, z1, z2, z3, z4, z5, z6, z7⟩ := cb_cells FF.out.z
  have f0 := blk_frozen FF.out.z 0
  have f1 := blk_frozen FF.out.z 1
  have f2 := blk_frozen FF.out.z 2
  have f3 := blk_frozen FF.out.z 3
  have f4 := blk_frozen FF.out.z 4
  have f5 := blk_frozen FF.out.z 5
  have f6 := blk_frozen FF.out.z 6
  have f7 := blk_frozen FF.out.z 7
  go_wp2
  refine bodyPost_ret (results_ct rfl _ _ w.heap.size 24 #[.int .i64 0, .string ByteArray.empty, .string ByteArray.empty, .string ByteArray.empty, .string ByteArray.empty, .int .i64 0, .int .i64 0, .slice none 0 0] (0, 0) _ rfl (cb_put8 FF.out.z _ _ _ _ _ _ _ _) Tryd.underlying24 rfl (by kernel_rfl)) rfl ?_
  exact zfin FF.out _ rfl
 ·simp only [if_true] at h1
  cases h1
  obtain ⟨z0, z1, z2, z3, z4, z5, z6, z7⟩ := cb_cells FF.out.z
  have f0 := blk_frozen FF.out.z 0
  have f1 := blk_frozen FF.out.z 1
  have f2 := blk_frozen FF.out.z 2
  have f3 := blk_frozen FF.out.z 3
  have f4 := blk_frozen FF.out.z 4
  have f5 := blk_frozen FF.out.z 5
  have f6 := blk_frozen FF.out.z 6
  have f7 := blk_frozen FF.out.z 7
  obtain ⟨x0, x1, x2, x3, x4, x5, x6, x7⟩ := cb_cells BB.out
  go_wp2
  refine bodyPost_ret (results_ct rfl _ _ w.heap.size 24 #[.int .i64 (rd_T43 q 0).f1, .string (strOfNums (rd_T43 q 1).f2), .string (strOfNums (rd_T43 q 2).f2), .string (strOfNums (rd_T43 q 3).f2), .string (strOfNums (rd_T43 q 4).f2), .int .i64 (rd_T43 q 5).f1, .int .i64 (rd_T43 q 6).f1, .slice B7 (rd_T43 q 7).f2.length b7] (0, 0) _ rfl (cb_put8 FF.out.z _ _ _ _ _ _ _ _) Tryd.underlying24 rfl (by kernel_rfl)) rfl ?_
  exact ⟨B7, b7, rfl, L7.out, Kd.F_now (F_put8 EA.out (fun k hk => (Nat.ne_of_lt hk.1).symm) _ _ _ _ _ _ _ _), below_put8 FF.out.hb (Nat.le_refl _) _ _ _ _ _ _ _ _⟩


end Go.Proofs.YtiibnfnjfmcggaaDoor.PCallReads
