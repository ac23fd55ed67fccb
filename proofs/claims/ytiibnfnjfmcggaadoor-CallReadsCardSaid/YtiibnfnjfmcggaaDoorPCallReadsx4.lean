-- Written by drive.py of this work: the kit's print.py with contracts of this work laid in.
import Derived.Test.YtiibnfnjfmcggaaDoorPCallReadsx0
namespace Go.Proofs.YtiibnfnjfmcggaaDoor.PCallReads
open Go.RowKit Go.Proofs.YtiibnfnjfmcggaaDoorW.PrintWords Go.Proofs.YtiibnfnjfmcggaaDoorW.PrintLast Go.Proofs.YtiibnfnjfmcggaaDoorW.PrintMore
attribute [local go_sem] max2_int min2_int max_two min_two max_three min_three max_four min_four   -- for this text's walks alone
set_option linter.unusedVariables false
set_option linter.unusedSimpArgs false

/-! ### word_turned_byte: function 54 -/
--ALONE
open Go.Sort in
theorem heap_put_u8 {w : World} {g n : Nat} {cur : Array Value} {e : TypeId} {fr : Nat × Nat} (d : Array Int) (hb : w.heap[g]? = some (.cells cur e fr)) :
  ((putRow (Value.int .u8) (Sort.ahead w n) g 0 d)).heap[g]? = some (.cells (putCells (Value.int .u8) 0 d cur) e fr) := by
 have hg : g < w.heap.size := (Array.getElem?_eq_some_iff.1 hb).1
 simp [putRow, mapBlock, Sort.ahead, Array.getElem?_modify, hb, onCells]
open Go.Sort in
theorem grown_put_u8 {w : World} {g n : Nat} (d : Array Int) : w.grownBy (putRow (Value.int .u8) (Sort.ahead w n) g 0 d) (some g) := by
 refine ⟨rfl, rfl, rfl, by simp, fun k hk hne => ?_⟩
 have : g ≠ k := fun e => hne (by rw [e])
 simp [putRow, mapBlock, Sort.ahead, Array.getElem?_modify, this]
open Go.Sort in
theorem take_put_u8 (cur : Array Value) (ts : List Int) (h : ts.length ≤ cur.size) : (putCells (Value.int .u8) 0 ts.toArray cur).toList.take ts.length = ts.map (Value.int .u8) := by
 apply List.ext_getElem?
 intro j
 by_cases hj : j < ts.length
 ·rw [List.getElem?_take_of_lt hj, Array.getElem?_toList]
  simp [putCells, hj, show j < cur.size by omega]
 ·rw [List.getElem?_take_eq_none (by omega), List.getElem?_eq_none (by simp; omega)]

open Go.Sort in
theorem own_rev {w : World} {base n : Nat} {e : TypeId} {v : Value} {zs : List Int} (h : w.ownsRow base e 1 v n (zs.map (Value.int .u8))) (hv : v ≠ .slice none 0 0) :
  ∃ g cap, v = .slice (some ⟨g, 0, none⟩) n cap ∧ base ≤ g ∧ zs.length = n ∧ n ≤ maxLen ∧ Holds (Value.int .u8) w g 0 zs.toArray ∧
   ∀ m, (putRow (Value.int .u8) (Sort.ahead w m) g 0 zs.reverse.toArray).ownsRow base e 1 v n (zs.reverse.map (Value.int .u8)) ∧ w.grownBy (putRow (Value.int .u8) (Sort.ahead w m) g 0 zs.reverse.toArray) (some g) := by
 obtain ⟨h1, h2⟩ := h
 rcases h2 with ⟨rfl, _⟩ | ⟨g, cap, cur, rfl, hg, hb, hn, hc, hs, ht⟩
 ·exact absurd rfl hv
 ·have hl : zs.length = n := by simpa using h1
  subst hl
  rw [Nat.mul_one] at ht
  refine ⟨g, cap, rfl, hg, rfl, by omega, ?_, fun m => ⟨⟨by simp, .inr ⟨g, cap, _, rfl, hg, heap_put_u8 _ hb, hn, hc, by simp [putCells, hs], ?_⟩⟩, grown_put_u8 _⟩⟩
  ·intro j hj
   have hj' : j < zs.length := by simpa using hj
   refine ⟨?_, by simp [World.frozen?, hb]⟩
   have h1 : (cur.toList.take zs.length)[j]? = (zs.map (Value.int .u8))[j]? := by rw [ht]
   rw [List.getElem?_take_of_lt hj'] at h1
   simp only [World.cell?, hb, Nat.zero_add]
   simp only [Option.isSome_none, Bool.false_eq_true, if_false]
   rw [← Array.getElem?_toList, h1]
   simp [hj']
  ·have := take_put_u8 cur zs.reverse (by simp; omega)
   simpa using this

theorem R_of_own_u8 {w : World} {base : Nat} {e : TypeId} {v : Value} {xs : List Int} (h : w.ownsRow base e 1 v xs.length (xs.map (Value.int .u8))) : Kd.R (Kd.int .u8) e w base (fun _ => True) v xs := by
 refine ⟨fun _ _ => trivial, _, h, by simp [Kd.int, Kd.scalar], fun j p hj => ?_⟩
 show List.take 1 (List.drop (j * 1) (List.map (Value.int .u8) xs)) = [Value.int .u8 p]
 have hj1 : j < xs.length := (List.getElem?_eq_some_iff.1 hj).1
 rw [List.getElem?_eq_getElem hj1] at hj
 cases hj
 rw [Nat.mul_one, ← List.map_drop, List.drop_eq_getElem_cons hj1]
 rfl

set_option maxHeartbeats 1600000 in
theorem clone80 (ad : Addr) (c : Nat) (l : List Int) (w : World) (hm : l.length ≤ 140737488355328) (hC : Kd.C (Kd.int .u8) w (some ad) l.length l) :
  Calls Tryd.prog 46 #[.slice (some ad) l.length c] w fun e w' => ∃ v', e = .returned v' ∧ w'.ownsRow w.heap.size 5 1 v' l.length (l.map (Value.int .u8)) ∧ v' ≠ .slice none 0 0 ∧ Below w.heap.size w w' := by
 obtain ⟨i0, hi, hz0, hz1, hz2⟩ := info_parts info5
 have q22 : ∀ (w : World) (a : Option Addr) (n c n' c' : Nat), (binOp .eql 22 (.slice a n c) (.slice none n' c')).run Tryd.prog w = .ok (.bool a.isNone) w := fun w a n c n' c' => Lib.run_eql_slice_nil w _ _ a n c n' c' Tryd.underlying22
 have A := Aside0.mk hC
 clear hC
 go_enter Tryd.func46, Tryd.ntmps46
 go_wp2_with (at_builtin; refine wpList_append_own _ rfl _ _ 22 rfl w.heap.size 5 i0 (.int .u8 0) 1 1 Tryd.underlying22 hi hz0 hz1 hz2 rfl (by decide) _ _ _ rfl (World.ownsRow_made w #[] 0 (Nat.le_refl _) (Nat.zero_le _) (by simp)) ad l.length c (l.map (Value.int .u8)) rfl ?qc1 ?qc2 ?qc3 ?qc4 ?qc5 ?qc6 ?_)
 case qc1 => simp
 case qc2 =>
  intro j u hj
  obtain ⟨_, _, h3⟩ := A.out
  have hj' : j < l.length := by
   have := (List.getElem?_eq_some_iff.1 hj).1
   simpa using this
  obtain ⟨ad', e1, h4⟩ := h3 (by omega)
  cases e1
  obtain ⟨cs, hc1, hc2, hc3⟩ := h4 j (l[j]) (List.getElem?_eq_getElem hj')
  have hc2' : cs = [Value.int .u8 l[j]] := hc2
  subst hc2'
  have h5 := hc3 0 (Value.int .u8 l[j]) rfl
  have hu : u = Value.int .u8 l[j] := by
   rw [List.getElem?_map, List.getElem?_eq_getElem hj'] at hj
   simpa using hj.symm
  rw [hu]
  simp only [Nat.add_zero] at h5
  have h5' : w.cell? (ad.add j) = some (Value.int .u8 l[j]) := by
   have : (j * (Kd.int .u8).sz + 0) = j := by simp [show (Kd.int IntKind.u8).sz = 1 from rfl]
   first | exact h5 | (rw [this] at h5; exact h5) | (simpa [show (Kd.int IntKind.u8).sz = 1 from rfl] using h5)
  exact Lib.cell?_alloc_some _ h5'
 case qc3 => intro u hu; simp at hu; obtain ⟨_, _, rfl⟩ := hu; rfl
 case qc4 => rw [Nat.zero_add]; unfold maxLen; omega
 case qc5 => rw [Nat.zero_add]; omega
 case qc6 => simp
 intro v' w1 hown hgrow hnil
 go_wp2
 go_ret
 refine ⟨v', rfl, by simpa using hown, ?_, ?_⟩
 ·exact hnil
 ·exact ((Below.refl _ w).alloc (Nat.le_refl _) _).grown hgrow (by simp) (by intro k hk; simp [Value.ownBlock] at hk; omega)

set_option maxHeartbeats 1000000 in
theorem clone80_nil (n c : Nat) (w : World) :
  Calls Tryd.prog 46 #[.slice none n c] w fun e w' => e = .returned (.slice none 0 0) ∧ w' = w := by
 have q22 : ∀ (w : World) (a : Option Addr) (n c n' c' : Nat), (binOp .eql 22 (.slice a n c) (.slice none n' c')).run Tryd.prog w = .ok (.bool a.isNone) w := fun w a n c n' c' => Lib.run_eql_slice_nil w _ _ a n c n' c' Tryd.underlying22
 go_enter Tryd.func46, Tryd.ntmps46
 go_wp2
 go_ret
 exact ⟨rfl, rfl⟩

open Go.Sort Go.Lib in
set_option maxHeartbeats 1600000 in
set_option maxRecDepth 1000000 in
theorem rev_u8 (blk off cap : Nat) (d : Array Int) (w : World) (hH : Holds (Value.int .u8) w blk off d) (hsz : d.size ≤ 9223372036854775807) :
  Calls Tryd.prog 56 #[.slice (some ⟨blk, off, none⟩) d.size cap] w fun e w' => e = .returned (.tuple #[]) ∧ ∃ n, w' = putRow (Value.int .u8) (Sort.ahead w n) blk off d.reverse := by
 go_enter Tryd.func56, Tryd.ntmps56
 go_wp2
 go_loopg [2, 3] d.size (fun k s2 s3 wr => ∃ (i jn : Nat) (jz : Int) (dk : Array Int) (n : Nat), s2 = .int .i64 i ∧ s3 = .int .i64 jz ∧ ((i : Int) < jz → jz = jn ∧ jn < d.size) ∧ (¬ (i : Int) < jz → ¬ i < jn) ∧ jn - i ≤ k ∧
  dk.size = d.size ∧ wr = putRow (Value.int .u8) (Sort.ahead w n) blk off dk ∧ reverseLoop i jn dk = reverseLoop 0 (d.size - 1) d)
 case atStart => exact ⟨0, d.size - 1, (d.size : Int) - 1, d, 0, rfl, rfl, fun h => ⟨by omega, by omega⟩, fun h => by omega, by omega, rfl, (putRow_self (Value.int .u8) w blk off d hH).symm, rfl⟩
 case round =>
  obtain ⟨i, jn, jz, dk, n, rfl, rfl, h1, h2, hk, hds, hwr, heq⟩ := hrel
  by_cases hlt : (i : Int) < jz
  ·obtain ⟨rfl, hjn⟩ := h1 hlt
   have hij : i < jn := by omega
   have hHk : Holds (Value.int .u8) wr blk off dk := by rw [hwr]; exact holds_putRow (Value.int .u8) _ blk off d dk (holds_ahead (Value.int .u8) w n blk off d hH) hds
   obtain ⟨ci, fi⟩ := hHk i (by omega)
   obtain ⟨cj, fj⟩ := hHk jn (by omega)
   have A := Aside0.mk hwr
   clear hwr hHk hH h1 h2
   go_wp2_with fail
   go_region
   all_goals
    go_wp2
    go_roundg (jn - 1 - (i + 1))
    case measure => omega
    case rel =>
     rw [reverseLoop, if_pos hij] at heq
     exact ⟨i + 1, jn - 1, (jn : Int) - 1, swp dk i jn, n + 1, by simp, rfl, fun h => ⟨by omega, by omega⟩, fun h => by omega, Nat.le_refl _, by rw [size_swp]; exact hds,
      swap_world (Value.int .u8) (by omega) (by omega) A.out (by first | rfl | simp [getElem!_pos, show jn < dk.size by omega]) (by first | rfl | simp [getElem!_pos, show i < dk.size by omega]), heq⟩
  ·have hnot := h2 hlt
   go_wp2
   go_end0
   refine ⟨rfl, n, ?_⟩
   rw [reverseLoop, if_neg hnot] at heq
   rw [← Lib.reverseLoop_reverse, ← heq]
set_option maxHeartbeats 1000000 in
theorem rev_u8_none (cap : Nat) (w : World) :
  Calls Tryd.prog 56 #[.slice none 0 cap] w fun e w' => e = .returned (.tuple #[]) ∧ w' = w := by
 go_enter Tryd.func56, Tryd.ntmps56
 go_wp2
 go_loopg [2, 3] 1 (fun _ s2 s3 wr => s2 = .int .i64 0 ∧ s3 = .int .i64 (-1) ∧ wr = w)
 case atStart => exact ⟨rfl, rfl, rfl⟩
 case round =>
  obtain ⟨rfl, rfl, hwr⟩ := hrel
  go_wp2
  go_end0
  exact ⟨rfl, rfl⟩

def word_turned_byte.f (l0 : List Int) : Option (List Int) := if l0.length ≤ 140737488355328 then some l0.reverse else none

set_option maxHeartbeats 1600000 in
theorem word_turned_byte.calls (A0 : Option Addr) (c0 : Nat) (l0 : List Int) (r : List Int) (w : World) (hr0 : Kd.C (Kd.int .u8) w A0 l0.length l0) (hc0 : l0.length ≤ c0) (h : word_turned_byte.f l0 = some r) :
  Calls Tryd.prog 54 #[.slice A0 l0.length c0] w fun e w' => ∃ v0_ : Value, e = .returned (v0_) ∧ Kd.R (Kd.int .u8) 5 w' w.heap.size (fun _ => True) v0_ r ∧ Below w.heap.size w w' := by
 unfold word_turned_byte.f at h
 split at h
 case isFalse => cases h
 rename_i hm
 obtain rfl := Option.some.inj h
 cases A0 with
 | none =>
  have h0 : l0 = [] := by
   obtain ⟨_, _, h3⟩ := hr0
   by_cases hz : 0 < l0.length
   ·obtain ⟨ad, e1, _⟩ := h3 hz
    cases e1
   ·exact List.eq_nil_of_length_eq_zero (by omega)
  subst h0
  clear hr0 hc0 hm h
  go_enter Tryd.func54, Tryd.ntmps54
  go_wp2_with (first | (go_at_call 46; refine (clone80_nil _ _ _).mono ?_; rintro e w1 ⟨rfl, rfl⟩) | (go_at_call 56; refine (rev_u8_none 0 _).mono ?_; rintro e w1 ⟨rfl, rfl⟩))
  go_ret
  exact ⟨_, rfl, Kd.R_nil _ _ _ _ _, Below.refl _ _⟩
 | some ad =>
  have A := Aside0.mk hr0
  have hm' := Aside0.mk hm
  clear hr0 hm hc0
  go_enter Tryd.func54, Tryd.ntmps54
  go_wp2_with fail
  refine (clone80 ad _ l0 _ hm'.out A.out).mono ?_
  rintro e w1 ⟨v', rfl, hown, hne, hb⟩
  obtain ⟨g, cap, rfl, hg, hl, hml, hH, hP⟩ := own_rev hown hne
  have hb' := Aside0.mk hb
  have hP' := Aside0.mk hP
  have hH' := Aside0.mk hH
  have hml' := Aside0.mk hml
  clear hb hP hH hown hl hml hne
  go_wp2_with fail
  have hX := rev_u8 g 0 cap l0.toArray w1 hH'.out (by have := hm'.out; simp; omega)
  simp only [List.size_toArray, List.reverse_toArray] at hX
  refine hX.mono ?_
  rintro e w2 ⟨rfl, n, hw2⟩
  have hQ := hP'.out n
  rw [← hw2] at hQ
  have hQ' := Aside0.mk hQ
  clear hQ hw2
  go_wp2
  go_ret
  exact ⟨_, rfl, R_of_own_u8 (by simpa using hQ'.out.1), hb'.out.grown hQ'.out.2 hb'.out.size (fun k hk => by cases hk; exact hg)⟩


end Go.Proofs.YtiibnfnjfmcggaaDoor.PCallReads
