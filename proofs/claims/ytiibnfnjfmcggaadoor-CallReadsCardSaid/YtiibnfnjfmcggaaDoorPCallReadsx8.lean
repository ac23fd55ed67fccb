-- Written by drive.py of this work: the kit's print.py with contracts of this work laid in.
import Derived.Test.YtiibnfnjfmcggaaDoorPCallReadsx0
import Derived.Test.YtiibnfnjfmcggaaDoorPCallReadsx5
import Derived.Test.YtiibnfnjfmcggaaDoorPCallReadsx7
namespace Go.Proofs.YtiibnfnjfmcggaaDoor.PCallReads
open Go.RowKit Go.Proofs.YtiibnfnjfmcggaaDoorW.PrintWords Go.Proofs.YtiibnfnjfmcggaaDoorW.PrintLast Go.Proofs.YtiibnfnjfmcggaaDoorW.PrintMore
attribute [local go_sem] max2_int min2_int max_two min_two max_three min_three max_four min_four   -- for this text's walks alone
set_option linter.unusedVariables false
set_option linter.unusedSimpArgs false

/-! ### codec_Encode: function 19 -/
--ALONE
/-! ### codec.put, by hand: all that it writes lies at or behind a world's end (w0), all that it reads ahead of it -/
section
variable {P : Program} {ops : Array Oper} {Q : Exit → Act → World → Prop} {rest : List Oper} {o : Oper} {a : Act}
theorem u8_tight {w : World} {base : Nat} {e : TypeId} {v : Value} {xs : List Int} (h : Kd.R (Kd.int .u8) e w base (fun _ => True) v xs) : Kd.R (Kd.int .u8) e w base (fun k => some k = v.ownBlock) v xs := Kd.R_tight rfl h
theorem u8_any {w : World} {base : Nat} {e : TypeId} {ok : Nat → Prop} {v : Value} {xs : List Int} (h : Kd.R (Kd.int .u8) e w base ok v xs) : Kd.R (Kd.int .u8) e w base (fun _ => True) v xs := Kd.R_mono h (fun _ _ => trivial)
theorem u8_box {w : World} {base g : Nat} {e t : TypeId} {ok : Nat → Prop} {v : Value} {xs : List Int} {cs : Array Value} (h : Kd.R (Kd.int .u8) e w base ok v xs) (hg : w.heap[g]? = some (.cells cs t (0, 0))) (hne : e ≠ t) : some g ≠ v.ownBlock := by
  obtain ⟨inner, ho⟩ := Kd.R_own h
  have := own_ne ho hg hne
  exact this
/-- append(u, ys...): u a row of the call's own; a variable in memory (block g) and another row stay. -/
theorem app8 {W w0 : World} (base : Nat) {e t : TypeId} {g : Nat} {bx : Array Value} {tb : TypeId} (hgd : o.guard = none) (s x : Operand)
    (ho : o.op = .call { callee := .builtin .append, args := #[s, x], argTypes := #[t, t] }) (ht : P.underlying t = some (.slice e)) (hinfo : (P.info? e).map (fun i => (i.zero, i.size, i.bytes)) = some (some (.int .u8 0), 1, 1))
    (v : Value) (xs ys : List Int) (A : Option Addr) (m c : Nat) (hs : a.eval s = v) (hx : a.eval x = .slice A m c)
    (HO : Kd.R (Kd.int .u8) e W base (fun _ => True) v xs) (HR : Kd.C (Kd.int .u8) W A m ys) (HB : Below base w0 W) (hbase : base ≤ W.heap.size) (hl : xs.length + m ≤ 140737488355328)
    (HX : W.heap[g]? = some (.cells bx tb (0, 0))) (htb : e ≠ tb)
    (h : ∀ v1 w1, Kd.R (Kd.int .u8) e w1 base (fun _ => True) v1 (xs ++ ys) → Below base w0 w1 → W.grownBy w1 v.ownBlock → w1.heap[g]? = some (.cells bx tb (0, 0)) → wpList P ops Q rest (a.put o.dst v1) w1) :
    wpList P ops Q (o :: rest) a W := by
  refine Kd.R_append_rows (Kd.int .u8) (Rr := fun x cs => cs = [.int .u8 x]) (w0 := w0) base hgd s x t e (.int .u8 0) 1 ho ht hinfo rfl (by decide) (by omega) v xs ys A m c (fun _ => True) (fun _ => False) hs hx HO HR (fun x cs h => h) (fun _ h => h.elim) (fun _ _ => trivial) HB hbase (by omega) ?_
  intro v1 w1 h1 h2 h3 _
  have hgl : g < W.heap.size := (Array.getElem?_eq_some_iff.1 HX).1
  exact h v1 w1 h1 h2 h3 ((h3.block g hgl (u8_box HO HX htb)).trans HX)
/-- The same as a step of a region that draws its order. -/
theorem app8_step {W w0 : World} (base : Nat) {Kc : Act → World → Prop} {e t : TypeId} {g : Nat} {bx : Array Value} {tb : TypeId} (hw : Region.wanted o (yielded ops a.tmps) = true) (s x : Operand)
    (ho : o.op = .call { callee := .builtin .append, args := #[s, x], argTypes := #[t, t] }) (ht : P.underlying t = some (.slice e)) (hinfo : (P.info? e).map (fun i => (i.zero, i.size, i.bytes)) = some (some (.int .u8 0), 1, 1))
    (v : Value) (xs ys : List Int) (A : Option Addr) (m c : Nat) (hs : a.eval s = v) (hx : a.eval x = .slice A m c)
    (HO : Kd.R (Kd.int .u8) e W base (fun _ => True) v xs) (HR : Kd.C (Kd.int .u8) W A m ys) (HB : Below base w0 W) (hbase : base ≤ W.heap.size) (hl : xs.length + m ≤ 140737488355328)
    (HX : W.heap[g]? = some (.cells bx tb (0, 0))) (htb : e ≠ tb)
    (h : ∀ v1 w1, Kd.R (Kd.int .u8) e w1 base (fun _ => True) v1 (xs ++ ys) → Below base w0 w1 → W.grownBy w1 v.ownBlock → w1.heap[g]? = some (.cells bx tb (0, 0)) → Kc (a.put o.dst v1) w1) :
    if Region.wanted o (yielded ops a.tmps) = true then Oper.wp P o a W Kc Q else Kc (a.put o.dst undef) W := by
  refine Kd.R_append_rows_step (Kd.int .u8) (Rr := fun x cs => cs = [.int .u8 x]) (w0 := w0) base hw s x t e (.int .u8 0) 1 ho ht hinfo rfl (by decide) (by omega) v xs ys A m c (fun _ => True) (fun _ => False) hs hx HO HR (fun x cs h => h) (fun _ h => h.elim) (fun _ _ => trivial) HB hbase (by omega) ?_
  intro v1 w1 h1 h2 h3 _
  have hgl : g < W.heap.size := (Array.getElem?_eq_some_iff.1 HX).1
  exact h v1 w1 h1 h2 h3 ((h3.block g hgl (u8_box HO HX htb)).trans HX)
theorem c_lit (w : World) (ys : List Int) (e : TypeId) (hl : ys.length ≤ 9223372036854775807) : Kd.C (Kd.int .u8) (w.alloc (.cells (ys.map (Value.int .u8)).toArray e)) (some ⟨w.heap.size, 0, none⟩) ys.length ys := by
  refine ⟨rfl, hl, fun _ => ⟨_, rfl, fun j p hj => ⟨[.int .u8 p], rfl, rfl, fun i u hu => ?_⟩⟩⟩
  have hj1 : j < ys.length := (List.getElem?_eq_some_iff.1 hj).1
  have hi : i = 0 := by
    have := (List.getElem?_eq_some_iff.1 hu).1
    simp at this
    exact this
  subst hi
  simp at hu
  subst hu
  have e1 : ((⟨w.heap.size, 0, none⟩ : Addr).add (j * (Kd.int IntKind.u8).sz + 0)) = ⟨w.heap.size, j, none⟩ := by
    show Addr.add _ (j * 1 + 0) = _
    rw [Nat.mul_one, Nat.add_zero, Addr.add_lit, Nat.zero_add]
  rw [e1]
  have e2 : (w.alloc (.cells (ys.map (Value.int .u8)).toArray e)).heap[w.heap.size]? = some (.cells (ys.map (Value.int .u8)).toArray e (0, 0)) := Array.getElem?_push_size
  have e3 := blk_cell e2 j
  rw [e3]
  simp [hj]
end
def codec_put.f : Nat → List Int → Int → Int → List Int → List S43 → Option (List Int)
  | 0, _, _, _, _, _ => none
  | k + 1, out, n0, n1, l2, l3 =>
    if n0 = 1 then (codec_plain.f k n1).bind fun b => if out.length + 2 + b.length ≤ 140737488355328 then some (out ++ [1, (b.length : Int) % 256] ++ b) else none
    else if n0 = 2 then (word_Put.f k (l2.length : Int) 3).bind fun n => if out.length + 1 + n.1.length + l2.length ≤ 140737488355328 then some (out ++ [2] ++ n.1 ++ l2) else none
    else (word_Put.f k (l3.length : Int) 2).bind fun n => if out.length + 1 + n.1.length ≤ 140737488355328 then l3.foldlM (fun o x => codec_put.f k o x.f0 x.f1 x.f2 x.f3) (out ++ [3] ++ n.1) else none
def PutPost (w0 : World) (r : List Int) (e : Ending) (w' : World) : Prop := ∃ u' : Value, e = .returned u' ∧ Kd.R (Kd.int .u8) 5 w' w0.heap.size (fun _ => True) u' r ∧ Below w0.heap.size w0 w'
def PutAt (w0 : World) (k : Nat) : Prop := ∀ (out : List Int) (n0 n1 : Int) (l2 : List Int) (l3 : List S43) (r : List Int), codec_put.f k out n0 n1 l2 l3 = some r → ∀ (w : World) (u : Value) (A2 : Option Addr) (c2 : Nat) (A3 : Option Addr) (c3 : Nat),
  Kd.C (Kd.int .u8) w0 A2 l2.length l2 → l2.length ≤ c2 → Kd.C k43 w0 A3 l3.length l3 → l3.length ≤ c3 → Below w0.heap.size w0 w → Kd.R (Kd.int .u8) 5 w w0.heap.size (fun _ => True) u out →
  Calls Tryd.prog 37 #[u, .agg #[.int .i64 n0, .int .i64 n1, .slice A2 l2.length c2, .slice A3 l3.length c3]] w (PutPost w0 r)
theorem ne_base {w W : World} {e e' base N : Nat} {ok ok' : Nat → Prop} {u v : Value} {xs ys : List Int} (hu : Kd.R (Kd.int .u8) e w base ok u xs) (hv : Kd.Q (Kd.int .u8) e' W N ok' v ys) (hN : w.heap.size ≤ N) : ∀ k, some k = v.ownBlock → some k ≠ u.ownBlock := by
  intro k hk hk'
  have h1 := Kd.Q_lt (Kd.Q_of_R hu) k hk'.symm
  have h2 := Kd.Q_base hv k hk.symm
  omega
theorem blk_new (w : World) (o : Obj) : (w.alloc o).heap[w.heap.size]? = some o := Array.getElem?_push_size
theorem size_new (w : World) (o : Obj) : (w.alloc o).heap.size = w.heap.size + 1 := Array.size_push _
set_option maxHeartbeats 2000000 in
set_option maxRecDepth 100000 in
theorem put_num (w0 : World) (k : Nat) (out : List Int) (n1 : Int) (l2 : List Int) (l3 : List S43) (b r : List Int) (hb : codec_plain.f k n1 = some b) (hl : out.length + 2 + b.length ≤ 140737488355328) (hr : out ++ [1, (b.length : Int) % 256] ++ b = r) (w : World) (u : Value) (A2 : Option Addr) (c2 : Nat) (A3 : Option Addr) (c3 : Nat)
    (HB : Below w0.heap.size w0 w) (HO : Kd.R (Kd.int .u8) 5 w w0.heap.size (fun _ => True) u out) :
    Calls Tryd.prog 37 #[u, .agg #[.int .i64 1, .int .i64 n1, .slice A2 l2.length c2, .slice A3 l3.length c3]] w (PutPost w0 r) := by
  have hs := HB.size
  have HB' := Aside0.mk HB
  have HO' := Aside0.mk HO
  have hb' := Aside0.mk hb
  have hl' := Aside0.mk hl
  have hr' := Aside0.mk hr
  clear HB HO hb hl hr
  go_enter Tryd.func37, Tryd.ntmps37
  go_wp2_with fail
  refine (codec_plain.calls k n1 b _ hb'.out).mono ?_
  rintro e w1 ⟨v, rfl, hR, hB⟩
  obtain ⟨Av, cv, rfl, _⟩ := Kd.Q_slice hR
  have hz : w.heap.size + 1 ≤ w1.heap.size := by have := hB.size; rw [size_new] at this; exact this
  have BK := Aside0.mk (show w1.heap[w.heap.size]? = some (.cells #[Value.int IntKind.i64 1, Value.int IntKind.i64 n1, Value.slice A2 l2.length c2, Value.slice A3 l3.length c3] 43 (0, 0)) from (hB.block _ (by rw [size_new]; omega)).trans (blk_new _ _))
  have HB1 := Aside0.mk ((HB'.out.alloc hs _).trans (hB.mono (by rw [size_new]; omega)))
  have HO1 := Aside0.mk (Kd.R_below (Kd.R_alloc HO'.out _) hB)
  have HR1 := Aside0.mk (Kd.Q_tight rfl hR)
  have HN := Aside0.mk (ne_base HO'.out hR (by rw [size_new]; omega))
  have hbl := Aside0.mk hB.size
  clear hR hB HB' HO'
  go_wp2_with (first
    | ((with_reducible refine gate_builtin (b := .append) (xs := #[.tmp 19, .tmp 23]) rfl ?_)
       refine app8 (w0 := w0) w0.heap.size (g := w.heap.size) (tb := 43) rfl (.tmp 19) (.tmp 23) rfl Tryd.underlying22 info5 u out [1, (b.length : Int) % 256] _ _ _ rfl rfl (Kd.R_alloc HO1.out _) (c_lit w1 [1, (b.length : Int) % 256] _ (by simp)) (HB1.out.alloc (by omega) _) (by rw [size_new]; omega) (by have := hl'.out; simp; omega) (blk_alloc BK.out _) (by decide) ?_
       intro v2 w2 h1 h2 h3 h4
       have HR2 := Aside0.mk (Kd.Q_grown (Kd.Q_alloc HR1.out _) h3 HN.out)
       have HO2 := Aside0.mk h1
       have HB2 := Aside0.mk h2
       have BK2 := Aside0.mk h4
       clear h1 h2 h3 h4 HR1 HO1 HB1 BK)
    | ((with_reducible refine gate_builtin (b := .append) (xs := #[.tmp 24, .tmp 25]) rfl ?_)
       refine app8 (w0 := w0) w0.heap.size (g := w.heap.size) (tb := 43) rfl (.tmp 24) (.tmp 25) rfl Tryd.underlying22 info5 v2 (out ++ [1, (b.length : Int) % 256]) b _ _ _ rfl rfl HO2.out ((Kd.Q_reads' HR2.out).2.2) HB2.out HB2.out.size (by have := hl'.out; simp; omega) BK2.out (by decide) ?_
       intro v3 w3 h1 h2 _ _
       rw [hr'.out] at h1
       have HO3 := Aside0.mk h1
       have HB3 := Aside0.mk h2
       clear h1 h2 HR2 HO2 HB2 BK2))
  go_ret
  exact ⟨_, rfl, HO3.out, HB3.out⟩
set_option maxHeartbeats 8000000 in
set_option maxRecDepth 100000 in
theorem put_raw (w0 : World) (k : Nat) (out : List Int) (n1 : Int) (l2 : List Int) (l3 : List S43) (n r : List Int) (e2 : Int) (hn : word_Put.f k (l2.length : Int) 3 = some (n, e2)) (hl : out.length + 1 + n.length + l2.length ≤ 140737488355328) (hr : out ++ [2] ++ n ++ l2 = r) (w : World) (u : Value) (A2 : Option Addr) (c2 : Nat) (A3 : Option Addr) (c3 : Nat)
    (hC2 : Kd.C (Kd.int .u8) w0 A2 l2.length l2) (HB : Below w0.heap.size w0 w) (HO : Kd.R (Kd.int .u8) 5 w w0.heap.size (fun _ => True) u out) :
    Calls Tryd.prog 37 #[u, .agg #[.int .i64 2, .int .i64 n1, .slice A2 l2.length c2, .slice A3 l3.length c3]] w (PutPost w0 r) := by
  have hs := HB.size
  have HB' := Aside0.mk HB
  have HO' := Aside0.mk HO
  have hn' := Aside0.mk hn
  have hl' := Aside0.mk hl
  have hr' := Aside0.mk hr
  have hC' := Aside0.mk hC2
  clear HB HO hn hl hr hC2
  go_enter Tryd.func37, Tryd.ntmps37
  go_wp2_with fail
  refine (word_Put.calls k _ 3 n e2 _ hn'.out).mono ?_
  rintro e w1 ⟨v, rfl, hR, hB⟩
  obtain ⟨Av, cv, rfl⟩ := Kd.R_slice hR
  have hz : w.heap.size + 1 ≤ w1.heap.size := by have := hB.size; rw [size_new] at this; exact this
  have BK := Aside0.mk (show w1.heap[w.heap.size]? = some (.cells #[Value.int IntKind.i64 2, Value.int IntKind.i64 n1, Value.slice A2 l2.length c2, Value.slice A3 l3.length c3] 43 (0, 0)) from (hB.block _ (by rw [size_new]; omega)).trans (blk_new _ _))
  have HB1 := Aside0.mk ((HB'.out.alloc hs _).trans (hB.mono (by rw [size_new]; omega)))
  have HO1 := Aside0.mk (Kd.R_below (Kd.R_alloc HO'.out _) hB)
  have HR1 := Aside0.mk (u8_tight hR)
  have HN := Aside0.mk (ne_base HO'.out (Kd.Q_of_R hR) (by rw [size_new]; omega))
  have hcz : w1.cell? ⟨w.heap.size, 2, none⟩ = some (.slice A2 l2.length c2) := (blk_cell BK.out 2).trans rfl
  have hcy : (w1.alloc (.cells #[.int .u8 2] 5)).cell? ⟨w.heap.size, 2, none⟩ = some (.slice A2 l2.length c2) := (blk_cell (blk_alloc BK.out _) 2).trans rfl
  clear hR hB HB' HO'
  go_wp2_with fail
  go_region_law (first
    | (refine app8_step (w0 := w0) w0.heap.size (g := w.heap.size) (tb := 43) rfl (.tmp 36) (.tmp 37) rfl Tryd.underlying22 info5 u out [2] _ _ _ rfl rfl (Kd.R_alloc (Kd.R_drew HO1.out) _) (c_lit _ [2] _ (by simp)) ((HB1.out.drew).alloc HB1.out.drew.size _) ((HB1.out.drew).alloc HB1.out.drew.size _).size (by have := hl'.out; simp; omega) (blk_alloc BK.out _) (by decide) ?_
       intro v2 w2 h1 h2 h3 h4
       have HR2 := Aside0.mk (Kd.R_grown (Kd.R_alloc (Kd.R_drew HR1.out) _) h3 HN.out)
       have HO2 := Aside0.mk h1
       have HB2 := Aside0.mk h2
       have BK2 := Aside0.mk h4
       have hcz2 : w2.cell? ⟨w.heap.size, 2, none⟩ = some (.slice A2 l2.length c2) := (blk_cell BK2.out 2).trans rfl
       clear h1 h2 h3 h4)
    | (refine app8_step (w0 := w0) w0.heap.size (g := w.heap.size) (tb := 43) rfl (.tmp 38) (.tmp 39) rfl Tryd.underlying22 info5 v2 (out ++ [2]) n _ _ _ rfl rfl HO2.out ((Kd.R_reads' HR2.out).2.2) HB2.out HB2.out.size (by have := hl'.out; simp; omega) BK2.out (by decide) ?_
       intro v3 w3 h1 h2 _ h4
       have HO3 := Aside0.mk h1
       have HB3 := Aside0.mk h2
       have BK3 := Aside0.mk h4
       have hcz3 : w3.cell? ⟨w.heap.size, 2, none⟩ = some (.slice A2 l2.length c2) := (blk_cell BK3.out 2).trans rfl
       clear h1 h2 h4)
    | (refine app8_step (w0 := w0) w0.heap.size (g := w.heap.size) (tb := 43) rfl (.tmp 40) (.tmp 42) rfl Tryd.underlying22 info5 v3 (out ++ [2] ++ n) l2 _ _ _ rfl rfl HO3.out (Kd.C_below hC'.out HB3.out) HB3.out HB3.out.size (by have := hl'.out; simp; omega) BK3.out (by decide) ?_
       intro v4 w4 h1 h2 _ _
       rw [hr'.out] at h1
       have HO4 := Aside0.mk h1
       have HB4 := Aside0.mk h2
       clear h1 h2))
  all_goals
    go_wp2
    go_ret
    exact ⟨_, rfl, HO4.out, HB4.out⟩
set_option maxHeartbeats 8000000 in
set_option maxRecDepth 100000 in
theorem put_list (w0 : World) (k : Nat) (ih : PutAt w0 k) (out : List Int) (n0 n1 : Int) (h1 : n0 ≠ 1) (h2 : n0 ≠ 2) (l2 : List Int) (l3 : List S43) (n r : List Int) (e2 : Int) (hn : word_Put.f k (l3.length : Int) 2 = some (n, e2)) (hl : out.length + 1 + n.length ≤ 140737488355328)
    (hr : l3.foldlM (fun o x => codec_put.f k o x.f0 x.f1 x.f2 x.f3) (out ++ [3] ++ n) = some r) (w : World) (u : Value) (A2 : Option Addr) (c2 : Nat) (A3 : Option Addr) (c3 : Nat)
    (hC3 : Kd.C k43 w0 A3 l3.length l3) (HB : Below w0.heap.size w0 w) (HO : Kd.R (Kd.int .u8) 5 w w0.heap.size (fun _ => True) u out) :
    Calls Tryd.prog 37 #[u, .agg #[.int .i64 n0, .int .i64 n1, .slice A2 l2.length c2, .slice A3 l3.length c3]] w (PutPost w0 r) := by
  have hs := HB.size
  have hm : l3.length ≤ 9223372036854775807 := hC3.2.1
  have t1 : (n0 == 1) = false := beq_eq_false_iff_ne.mpr h1
  have t2 : (n0 == 2) = false := beq_eq_false_iff_ne.mpr h2
  have HB' := Aside0.mk HB
  have HO' := Aside0.mk HO
  have hn' := Aside0.mk hn
  have hl' := Aside0.mk hl
  have hr' := Aside0.mk hr
  have hC' := Aside0.mk hC3
  have ih' := Aside0.mk ih
  clear HB HO hn hl hr hC3 ih h1 h2
  go_enter Tryd.func37, Tryd.ntmps37
  go_wp2_with fail
  refine (word_Put.calls k _ 2 n e2 _ hn'.out).mono ?_
  rintro e w1 ⟨v, rfl, hR, hB⟩
  obtain ⟨Av, cv, rfl⟩ := Kd.R_slice hR
  have hz : w.heap.size + 1 ≤ w1.heap.size := by have := hB.size; rw [size_new] at this; exact this
  have BK := Aside0.mk (show w1.heap[w.heap.size]? = some (.cells #[Value.int IntKind.i64 n0, Value.int IntKind.i64 n1, Value.slice A2 l2.length c2, Value.slice A3 l3.length c3] 43 (0, 0)) from (hB.block _ (by rw [size_new]; omega)).trans (blk_new _ _))
  have HB1 := Aside0.mk ((HB'.out.alloc hs _).trans (hB.mono (by rw [size_new]; omega)))
  have HO1 := Aside0.mk (Kd.R_below (Kd.R_alloc HO'.out _) hB)
  have HR1 := Aside0.mk (u8_tight hR)
  have HN := Aside0.mk (ne_base HO'.out (Kd.Q_of_R hR) (by rw [size_new]; omega))
  clear hR hB HB' HO'
  go_wp2_with (first
    | ((with_reducible refine gate_builtin (b := .append) (xs := #[.tmp 51, .tmp 52]) rfl ?_)
       refine app8 (w0 := w0) w0.heap.size (g := w.heap.size) (tb := 43) rfl (.tmp 51) (.tmp 52) rfl Tryd.underlying22 info5 u out [3] _ _ _ rfl rfl (Kd.R_alloc HO1.out _) (c_lit w1 [3] _ (by simp)) (HB1.out.alloc (by omega) _) (by rw [size_new]; omega) (by have := hl'.out; simp; omega) (blk_alloc BK.out _) (by decide) ?_
       intro v2 w2 h1 h2 h3 h4
       have HR2 := Aside0.mk (Kd.R_grown (Kd.R_alloc HR1.out _) h3 HN.out)
       have HO2 := Aside0.mk h1
       have HB2 := Aside0.mk h2
       have BK2 := Aside0.mk h4
       clear h1 h2 h3 h4 HR1 HO1 HB1 BK)
    | ((with_reducible refine gate_builtin (b := .append) (xs := #[.tmp 53, .tmp 54]) rfl ?_)
       refine app8 (w0 := w0) w0.heap.size (g := w.heap.size) (tb := 43) rfl (.tmp 53) (.tmp 54) rfl Tryd.underlying22 info5 v2 (out ++ [3]) n _ _ _ rfl rfl HO2.out ((Kd.R_reads' HR2.out).2.2) HB2.out HB2.out.size (by have := hl'.out; simp; omega) BK2.out (by decide) ?_
       intro v3 w3 h1 h2 _ h4
       have HO3 := Aside0.mk h1
       have HB3 := Aside0.mk h2
       have BK3 := Aside0.mk h4
       have hcz3 : w3.cell? ⟨w.heap.size, 3, none⟩ = some (.slice A3 l3.length c3) := (blk_cell BK3.out 3).trans rfl
       clear h1 h2 h4 HR2 HO2 HB2 BK2))
  go_loopg [0, 59] (l3.length) (fun q v0 v59 wr => ∃ (j : Nat) (o : List Int), v59 = .int .i64 (j : Int) ∧ j + q = l3.length ∧ Aside0 ((l3.drop j).foldlM (fun o x => codec_put.f k o x.f0 x.f1 x.f2 x.f3) o = some r) ∧ Aside0 (Kd.R (Kd.int .u8) 5 wr w0.heap.size (fun _ => True) v0 o) ∧ Aside0 (Below w0.heap.size w0 wr))
  case atStart => exact ⟨0, _, rfl, by omega, ⟨by rw [List.drop_zero]; exact hr'.out⟩, HO3, HB3⟩
  case round =>
    obtain ⟨j, o, rfl, hj, HA, HO4, HB4⟩ := hrel
    have hs4 := HB4.out.size
    by_cases hlt : j < l3.length
    · obtain ⟨ad, B2, d2, B3, d3, hA, x0, x1, x2, x3, le2, ge2, le3, ge3⟩ := at_T43 hC'.out (j : Int) (by omega) (by omega)
      subst hA
      rw [Int.toNat_natCast] at x0 x1 x2 x3
      replace x0 := (HB4.out.cell (World.block_lt_of_cell? w0 _ x0)).trans x0
      replace x1 := (HB4.out.cell (World.block_lt_of_cell? w0 _ x1)).trans x1
      replace x2 := (HB4.out.cell (World.block_lt_of_cell? w0 _ x2)).trans x2
      replace x3 := (HB4.out.cell (World.block_lt_of_cell? w0 _ x3)).trans x3
      have ge2' := Aside0.mk ge2
      have ge3' := Aside0.mk ge3
      have le2' := Aside0.mk le2
      have le3' := Aside0.mk le3
      clear ge2 ge3 le2 le3
      have p0 := eq_true (show 0 ≤ (j : Int) by omega)
      have p1 := eq_true (show (j : Int) < (l3.length : Int) by omega)
      have p2 : decide ((j : Int) < (l3.length : Int)) = true := decide_eq_true (by omega)
      have hd : l3.drop j = rd_T43 l3 (j : Int) :: l3.drop (j + 1) := by
        rw [List.drop_eq_getElem_cons hlt]
        congr 1
        unfold rd_T43
        rw [Int.toNat_natCast]
        simp [List.getD, List.getElem?_eq_getElem hlt]
      have HA1 := HA.out
      rw [hd, List.foldlM_cons] at HA1
      obtain ⟨o1, ho1, hrest⟩ := Option.bind_eq_some_iff.1 HA1
      have ho1' := Aside0.mk ho1
      have hrest' := Aside0.mk hrest
      clear HA HA1 hd ho1 hrest
      go_wp2_with fail
      refine (ih'.out o _ _ _ _ o1 ho1'.out _ _ B2 d2 B3 d3 ge2'.out le2'.out ge3'.out le3'.out (HB4.out.alloc hs4 _) (Kd.R_alloc HO4.out _)).mono ?_
      rintro e w5 ⟨u5, rfl, hR5, hB5⟩
      have HO5 := Aside0.mk hR5
      have HB5 := Aside0.mk hB5
      clear hR5 hB5 HO4 HB4 p0 p1 p2 x0 x1 x2 x3
      go_wp2
      go_roundg (l3.length - (j + 1))
      case measure => omega
      case rel => exact ⟨j + 1, o1, by go_num, by omega, hrest', HO5, HB5⟩
    · have hje : j = l3.length := by omega
      have hz0 : some o = some r := by
        have := HA.out
        rw [List.drop_of_length_le (by omega)] at this
        exact this
      obtain rfl := Option.some.inj hz0
      have p2 : decide ((j : Int) < (l3.length : Int)) = false := decide_eq_false (by omega)
      have p3 : decide (j < l3.length) = false := decide_eq_false (by omega)
      clear HA hz0 hr'
      go_wp2
      go_ret
      exact ⟨_, rfl, HO4.out, HB4.out⟩
theorem put_any (w0 : World) : ∀ k, PutAt w0 k := by
  intro k
  induction k with
  | zero => intro out n0 n1 l2 l3 r h; simp [codec_put.f] at h
  | succ k ih =>
    intro out n0 n1 l2 l3 r h w u A2 c2 A3 c3 hC2 hl2 hC3 hl3 HB HO
    simp only [codec_put.f] at h
    by_cases h1 : n0 = 1
    · subst h1
      rw [if_pos rfl] at h
      obtain ⟨b, hb, h⟩ := Option.bind_eq_some_iff.1 h
      split at h
      · rename_i hl
        exact put_num w0 k out n1 l2 l3 b r hb hl (Option.some.inj h) w u A2 c2 A3 c3 HB HO
      · cases h
    · rw [if_neg h1] at h
      by_cases h2 : n0 = 2
      · subst h2
        rw [if_pos rfl] at h
        obtain ⟨n, hn, h⟩ := Option.bind_eq_some_iff.1 h
        split at h
        · rename_i hl
          exact put_raw w0 k out n1 l2 l3 n.1 r n.2 hn hl (Option.some.inj h) w u A2 c2 A3 c3 hC2 HB HO
        · cases h
      · rw [if_neg h2] at h
        obtain ⟨n, hn, h⟩ := Option.bind_eq_some_iff.1 h
        split at h
        · rename_i hl
          exact put_list w0 k ih out n0 n1 h1 h2 l2 l3 n.1 r n.2 hn hl h w u A2 c2 A3 c3 hC3 HB HO
        · cases h
def codec_Encode.f (k : Nat) (a0_0 : Int) (a0_1 : Int) (l0_2 : List Int) (l0_3 : List S43) : Option (List Int × Int) :=
  (codec_Size.f k a0_0 a0_1 l0_2 l0_3).bind fun t => if t.2 = true then (codec_put.f k [] a0_0 a0_1 l0_2 l0_3).bind fun b => some (b, 0) else some ([], 2)
theorem codec_put.mono : ∀ k a0 a1 a2 a3 a4, LeO (codec_put.f k a0 a1 a2 a3 a4) (codec_put.f (k + 1) a0 a1 a2 a3 a4) := by
  intro k
  induction k with
  | zero => intro _ _ _ _ _ r h; simp [codec_put.f] at h
  | succ k ih =>
    intro out n0 n1 l2 l3
    rw [codec_put.f, codec_put.f]
    refine LeO.ite (LeO.bind (codec_plain.mono _ _) fun _ => LeO.refl _) (LeO.ite (LeO.bind (word_Put.mono _ _ _) fun _ => LeO.refl _) (LeO.bind (word_Put.mono _ _ _) fun _ => LeO.ite ?_ (LeO.refl _)))
    generalize (out ++ [3] ++ _ : List Int) = o
    induction l3 generalizing o with
    | nil => exact LeO.refl _
    | cons x t iht =>
      rw [List.foldlM_cons, List.foldlM_cons]
      exact LeO.bind (ih _ _ _ _ _) fun o => iht o
theorem codec_Encode.mono : ∀ a0 a1 a2 a3 k, LeO (codec_Encode.f k a0 a1 a2 a3) (codec_Encode.f (k + 1) a0 a1 a2 a3) := by
  intro a0 a1 a2 a3 k
  unfold codec_Encode.f
  exact LeO.bind (codec_Size.mono _ _ _ _ _) fun _ => LeO.ite (LeO.bind (codec_put.mono _ _ _ _ _ _) fun _ => LeO.refl _) (LeO.refl _)
set_option maxHeartbeats 4000000 in
set_option maxRecDepth 100000 in
theorem codec_Encode.calls (k : Nat) (a0_0 : Int) (a0_1 : Int) (A0_2 : Option Addr) (c0_2 : Nat) (l0_2 : List Int) (A0_3 : Option Addr) (c0_3 : Nat) (l0_3 : List S43) (r1 : List Int) (r2 : Int) (w : World) (hr0_2 : Kd.C (Kd.int .u8) w A0_2 l0_2.length l0_2) (hc0_2 : l0_2.length ≤ c0_2) (hr0_3 : Kd.C k43 w A0_3 l0_3.length l0_3) (hc0_3 : l0_3.length ≤ c0_3)
    (h : codec_Encode.f k a0_0 a0_1 l0_2 l0_3 = some (r1, r2)) :
    Calls Tryd.prog 19 #[.agg #[.int .i64 a0_0, .int .i64 a0_1, .slice A0_2 l0_2.length c0_2, .slice A0_3 l0_3.length c0_3]] w fun e w' => ∃ v0_ : Value, e = .returned (.tuple #[v0_, .int .i64 r2]) ∧ Kd.R (Kd.int .u8) 5 w' w.heap.size (fun _ => True) v0_ r1 ∧ Below w.heap.size w w' := by
  unfold codec_Encode.f at h
  obtain ⟨⟨n, ok⟩, hs, h⟩ := Option.bind_eq_some_iff.1 h
  have A2 := Aside0.mk hr0_2
  have A3 := Aside0.mk hr0_3
  have D2 := Aside0.mk hc0_2
  have D3 := Aside0.mk hc0_3
  have hs' := Aside0.mk hs
  clear hr0_2 hr0_3 hc0_2 hc0_3 hs
  cases ok with
  | false =>
    have h1 : (some ([], 2) : Option (List Int × Int)) = some (r1, r2) := h
    simp only [Option.some.injEq, Prod.mk.injEq] at h1
    obtain ⟨rfl, rfl⟩ := h1
    clear h
    go_enter Tryd.func19, Tryd.ntmps19
    go_wp2_with fail
    refine (codec_Size.calls k _ _ _ _ _ _ _ _ _ _ _ (Kd.C_alloc A2.out _) D2.out (Kd.C_alloc A3.out _) D3.out hs'.out).mono ?_
    rintro e w1 ⟨rfl, hB⟩
    have hB' := Aside0.mk ((((Below.refl w.heap.size w).alloc (Nat.le_refl _) _).trans (hB.mono (by rw [size_new]; omega))))
    clear hB
    go_wp2
    go_ret2
    exact ⟨_, rfl, Kd.R_nil _ _ _ _ _, hB'.out⟩
  | true =>
    have h1 : ((codec_put.f k [] a0_0 a0_1 l0_2 l0_3).bind fun b => some (b, 0)) = some (r1, r2) := h
    obtain ⟨b, hb, h2⟩ := Option.bind_eq_some_iff.1 h1
    simp only [Option.some.injEq, Prod.mk.injEq] at h2
    obtain ⟨rfl, rfl⟩ := h2
    have hb' := Aside0.mk hb
    clear h h1 hb
    go_enter Tryd.func19, Tryd.ntmps19
    go_wp2_with fail
    refine (codec_Size.calls k _ _ _ _ _ _ _ _ _ _ _ (Kd.C_alloc A2.out _) D2.out (Kd.C_alloc A3.out _) D3.out hs'.out).mono ?_
    rintro e w1 ⟨rfl, hB⟩
    have BK := Aside0.mk (show w1.heap[w.heap.size]? = some (.cells #[Value.int IntKind.i64 a0_0, Value.int IntKind.i64 a0_1, Value.slice A0_2 l0_2.length c0_2, Value.slice A0_3 l0_3.length c0_3] 43 (0, 0)) from (hB.block _ (by rw [size_new]; omega)).trans (blk_new _ _))
    have hB' := Aside0.mk ((((Below.refl w.heap.size w).alloc (Nat.le_refl _) _).trans (hB.mono (by rw [size_new]; omega))))
    have y0 : w1.cell? ⟨w.heap.size, 0, none⟩ = some (.int .i64 a0_0) := (blk_cell BK.out 0).trans rfl
    have y1 : w1.cell? ⟨w.heap.size, 1, none⟩ = some (.int .i64 a0_1) := (blk_cell BK.out 1).trans rfl
    have y2 : w1.cell? ⟨w.heap.size, 2, none⟩ = some (.slice A0_2 l0_2.length c0_2) := (blk_cell BK.out 2).trans rfl
    have y3 : w1.cell? ⟨w.heap.size, 3, none⟩ = some (.slice A0_3 l0_3.length c0_3) := (blk_cell BK.out 3).trans rfl
    clear hB
    go_wp2_with fail
    refine (put_any w k [] _ _ _ _ b hb'.out _ _ _ _ _ _ A2.out D2.out A3.out D3.out hB'.out (Kd.R_nil _ _ _ _ _)).mono ?_
    rintro e w2 ⟨u, rfl, hR, hB2⟩
    have hR' := Aside0.mk hR
    have hB2' := Aside0.mk hB2
    clear hR hB2 hB' BK y0 y1 y2 y3
    go_wp2
    go_ret2
    exact ⟨_, rfl, hR'.out, hB2'.out⟩


end Go.Proofs.YtiibnfnjfmcggaaDoor.PCallReads
