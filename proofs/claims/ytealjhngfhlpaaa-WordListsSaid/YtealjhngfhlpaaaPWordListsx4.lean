-- Written by drive.py of this work: the kit's print.py with contracts of this work laid in.
import Derived.Test.YtealjhngfhlpaaaPWordListsx0
import Derived.Test.YtealjhngfhlpaaaPWordListsx2
import Derived.Test.YtealjhngfhlpaaaPWordListsx3
namespace Go.Proofs.Ytealjhngfhlpaaa.PWordLists
open Go.RowKit Go.Proofs.YtealjhngfhlpaaaW.PrintWords Go.Proofs.YtealjhngfhlpaaaW.PrintLast Go.Proofs.YtealjhngfhlpaaaW.PrintMore
attribute [local go_sem] max2_int min2_int max_two min_two max_three min_three max_four min_four   -- for this text's walks alone
set_option linter.unusedVariables false
set_option linter.unusedSimpArgs false

/-! ### bastillelaw01_WordLists: function 9 -/
mutual
def bastillelaw01_WordLists.j0 : Nat → List Int → List Int → List Int → Int → Option (Bool)
  | 0, _, _, _, _ => none
  | k + 1, x0, x3, x5, x6 => bastillelaw01_WordLists.l0 k x0 x5 x6 x3 (x3.length : Int) 0
def bastillelaw01_WordLists.l0 : Nat → List Int → List Int → Int → List Int → Int → Int → Option (Bool)
  | 0, _, _, _, _, _, _ => none
  | k + 1, x0, x5, x6, x54, x55, x56 => if x56 < x55 then (if 0 ≤ x56 then (if x56 < (x54.length : Int) then (if 0 ≤ (wrap64 (4 * x56)) then (if (wrap64 (4 * x56)) ≤ (wrap64 ((wrap64 (4 * x56)) + 4)) then (if (wrap64 ((wrap64 (4 * x56)) + 4)) ≤ (x0.length : Int) then ((bastilleref01_Turned.f k ((x0.take ((wrap64 ((wrap64 (4 * x56)) + 4)) : Int).toNat).drop ((wrap64 (4 * x56)) : Int).toNat)).bind fun t191 => ((bastilleref01_Wide.f k t191).bind fun t194 => (if (IntKind.u64.wrap (rd x54 x56)) = t194 then (bastillelaw01_WordLists.l0 k x0 x5 x6 x54 x55 (wrap64 (x56 + 1))) else (some false)))) else (none)) else (none)) else (none)) else (none)) else (none)) else (if ((x0.length : Int) % 8) = 0 then (if x6 = 0 then (if (wrap64 (8 * (x5.length : Int))) = (x0.length : Int) then ((word_Bytes64.f k x5).bind fun t195 => ((bastilleref01_Same.f k t195 x0).bind fun t198 => (bastillelaw01_WordLists.j2 k x0 x5 (!t198)))) else (bastillelaw01_WordLists.j2 k x0 x5 true)) else (bastillelaw01_WordLists.j2 k x0 x5 true)) else (if x6 = 2 then (some ((x5.length : Int) == 0)) else (some false)))
def bastillelaw01_WordLists.j2 : Nat → List Int → List Int → Bool → Option (Bool)
  | 0, _, _, _ => none
  | k + 1, x0, x5, x101 => if x101 = true then (some false) else (bastillelaw01_WordLists.l1 k x0 x5 (x5.length : Int) 0)
def bastillelaw01_WordLists.l1 : Nat → List Int → List Int → Int → Int → Option (Bool)
  | 0, _, _, _, _ => none
  | k + 1, x0, x102, x103, x104 => if x104 < x103 then (if 0 ≤ x104 then (if x104 < (x102.length : Int) then (if 0 ≤ (wrap64 (8 * x104)) then (if (wrap64 (8 * x104)) ≤ (wrap64 ((wrap64 (8 * x104)) + 8)) then (if (wrap64 ((wrap64 (8 * x104)) + 8)) ≤ (x0.length : Int) then ((bastilleref01_Wide.f k ((x0.take ((wrap64 ((wrap64 (8 * x104)) + 8)) : Int).toNat).drop ((wrap64 (8 * x104)) : Int).toNat)).bind fun t201 => (if (rd x102 x104) = t201 then (bastillelaw01_WordLists.l1 k x0 x102 x103 (wrap64 (x104 + 1))) else (some false))) else (none)) else (none)) else (none)) else (none)) else (none)) else (some true)
end
def bastillelaw01_WordLists.f (k : Nat) (l0 : List Int) : Option (Bool) := (bastillelaw01_awake.f k).bind fun t176 => (if t176 = true then (if (l0.length : Int) > 200 then (some true) else ((word_Words32.f k l0).bind fun bt177 => ((word_Words64.f k l0).bind fun bt181 => (if ((l0.length : Int) % 4) = 0 then (if bt177.2 = 0 then (if (wrap64 (4 * (bt177.1.length : Int))) = (l0.length : Int) then ((word_Bytes32.f k bt177.1).bind fun t185 => ((bastilleref01_Same.f k t185 l0).bind fun t188 => (if t188 = true then (bastillelaw01_WordLists.j0 k l0 bt177.1 bt181.1 bt181.2) else (some false)))) else (some false)) else (some false)) else (if bt177.2 = 2 then (if (bt177.1.length : Int) > 0 then (some false) else (bastillelaw01_WordLists.j0 k l0 bt177.1 bt181.1 bt181.2)) else (some false)))))) else (some false))
theorem bastillelaw01_WordLists.mono_l : ∀ k, (∀ y0 y1 y2 y3, LeO (bastillelaw01_WordLists.j0 k y0 y1 y2 y3) (bastillelaw01_WordLists.j0 (k + 1) y0 y1 y2 y3)) ∧ (∀ y0 y1 y2 y3 y4 y5, LeO (bastillelaw01_WordLists.l0 k y0 y1 y2 y3 y4 y5) (bastillelaw01_WordLists.l0 (k + 1) y0 y1 y2 y3 y4 y5)) ∧ (∀ y0 y1 y2, LeO (bastillelaw01_WordLists.j2 k y0 y1 y2) (bastillelaw01_WordLists.j2 (k + 1) y0 y1 y2)) ∧ (∀ y0 y1 y2 y3, LeO (bastillelaw01_WordLists.l1 k y0 y1 y2 y3) (bastillelaw01_WordLists.l1 (k + 1) y0 y1 y2 y3))
  | 0 => ⟨fun _ _ _ _ r h => by simp [bastillelaw01_WordLists.j0] at h, fun _ _ _ _ _ _ r h => by simp [bastillelaw01_WordLists.l0] at h, fun _ _ _ r h => by simp [bastillelaw01_WordLists.j2] at h, fun _ _ _ _ r h => by simp [bastillelaw01_WordLists.l1] at h⟩
  | k + 1 => by
    obtain ⟨ih0, ih1, ih2, ih3⟩ := bastillelaw01_WordLists.mono_l k
    refine ⟨?_, ?_, ?_, ?_⟩
    · intro y0 y1 y2 y3
      unfold bastillelaw01_WordLists.j0
      repeat' first
      | (with_reducible exact ih0 _ _ _ _)
      | (with_reducible exact ih1 _ _ _ _ _ _)
      | (with_reducible exact ih2 _ _ _)
      | (with_reducible exact ih3 _ _ _ _)
      | (with_reducible exact bastillelaw01_awake.mono _)
      | (with_reducible exact bastilleref01_Same.mono _ _ _)
      | (with_reducible exact bastilleref01_Turned.mono _ _)
      | (with_reducible exact bastilleref01_Wide.mono _ _)
      | (with_reducible exact word_Bytes32.mono _ _)
      | (with_reducible exact word_Bytes64.mono _ _)
      | (with_reducible exact word_Words32.mono _ _)
      | (with_reducible exact word_Words64.mono _ _)
      | (with_reducible exact LeO.refl _)
      | (with_reducible exact LeO.none _)
      | (with_reducible refine LeO.ite ?_ ?_)
      | (with_reducible refine LeO.bind ?_ (fun _ => ?_))
      | exact ih0 _ _ _ _
      | exact ih1 _ _ _ _ _ _
      | exact ih2 _ _ _
      | exact ih3 _ _ _ _
      | exact bastillelaw01_awake.mono _
      | exact bastilleref01_Same.mono _ _ _
      | exact bastilleref01_Turned.mono _ _
      | exact bastilleref01_Wide.mono _ _
      | exact word_Bytes32.mono _ _
      | exact word_Bytes64.mono _ _
      | exact word_Words32.mono _ _
      | exact word_Words64.mono _ _
      | exact LeO.none _
      | refine LeO.ite ?_ ?_
      | refine LeO.bind ?_ (fun _ => ?_)
    · intro y0 y1 y2 y3 y4 y5
      unfold bastillelaw01_WordLists.l0
      repeat' first
      | (with_reducible exact ih0 _ _ _ _)
      | (with_reducible exact ih1 _ _ _ _ _ _)
      | (with_reducible exact ih2 _ _ _)
      | (with_reducible exact ih3 _ _ _ _)
      | (with_reducible exact bastillelaw01_awake.mono _)
      | (with_reducible exact bastilleref01_Same.mono _ _ _)
      | (with_reducible exact bastilleref01_Turned.mono _ _)
      | (with_reducible exact bastilleref01_Wide.mono _ _)
      | (with_reducible exact word_Bytes32.mono _ _)
      | (with_reducible exact word_Bytes64.mono _ _)
      | (with_reducible exact word_Words32.mono _ _)
      | (with_reducible exact word_Words64.mono _ _)
      | (with_reducible exact LeO.refl _)
      | (with_reducible exact LeO.none _)
      | (with_reducible refine LeO.ite ?_ ?_)
      | (with_reducible refine LeO.bind ?_ (fun _ => ?_))
      | exact ih0 _ _ _ _
      | exact ih1 _ _ _ _ _ _
      | exact ih2 _ _ _
      | exact ih3 _ _ _ _
      | exact bastillelaw01_awake.mono _
      | exact bastilleref01_Same.mono _ _ _
      | exact bastilleref01_Turned.mono _ _
      | exact bastilleref01_Wide.mono _ _
      | exact word_Bytes32.mono _ _
      | exact word_Bytes64.mono _ _
      | exact word_Words32.mono _ _
      | exact word_Words64.mono _ _
      | exact LeO.none _
      | refine LeO.ite ?_ ?_
      | refine LeO.bind ?_ (fun _ => ?_)
    · intro y0 y1 y2
      unfold bastillelaw01_WordLists.j2
      repeat' first
      | (with_reducible exact ih0 _ _ _ _)
      | (with_reducible exact ih1 _ _ _ _ _ _)
      | (with_reducible exact ih2 _ _ _)
      | (with_reducible exact ih3 _ _ _ _)
      | (with_reducible exact bastillelaw01_awake.mono _)
      | (with_reducible exact bastilleref01_Same.mono _ _ _)
      | (with_reducible exact bastilleref01_Turned.mono _ _)
      | (with_reducible exact bastilleref01_Wide.mono _ _)
      | (with_reducible exact word_Bytes32.mono _ _)
      | (with_reducible exact word_Bytes64.mono _ _)
      | (with_reducible exact word_Words32.mono _ _)
      | (with_reducible exact word_Words64.mono _ _)
      | (with_reducible exact LeO.refl _)
      | (with_reducible exact LeO.none _)
      | (with_reducible refine LeO.ite ?_ ?_)
      | (with_reducible refine LeO.bind ?_ (fun _ => ?_))
      | exact ih0 _ _ _ _
      | exact ih1 _ _ _ _ _ _
      | exact ih2 _ _ _
      | exact ih3 _ _ _ _
      | exact bastillelaw01_awake.mono _
      | exact bastilleref01_Same.mono _ _ _
      | exact bastilleref01_Turned.mono _ _
      | exact bastilleref01_Wide.mono _ _
      | exact word_Bytes32.mono _ _
      | exact word_Bytes64.mono _ _
      | exact word_Words32.mono _ _
      | exact word_Words64.mono _ _
      | exact LeO.none _
      | refine LeO.ite ?_ ?_
      | refine LeO.bind ?_ (fun _ => ?_)
    · intro y0 y1 y2 y3
      unfold bastillelaw01_WordLists.l1
      repeat' first
      | (with_reducible exact ih0 _ _ _ _)
      | (with_reducible exact ih1 _ _ _ _ _ _)
      | (with_reducible exact ih2 _ _ _)
      | (with_reducible exact ih3 _ _ _ _)
      | (with_reducible exact bastillelaw01_awake.mono _)
      | (with_reducible exact bastilleref01_Same.mono _ _ _)
      | (with_reducible exact bastilleref01_Turned.mono _ _)
      | (with_reducible exact bastilleref01_Wide.mono _ _)
      | (with_reducible exact word_Bytes32.mono _ _)
      | (with_reducible exact word_Bytes64.mono _ _)
      | (with_reducible exact word_Words32.mono _ _)
      | (with_reducible exact word_Words64.mono _ _)
      | (with_reducible exact LeO.refl _)
      | (with_reducible exact LeO.none _)
      | (with_reducible refine LeO.ite ?_ ?_)
      | (with_reducible refine LeO.bind ?_ (fun _ => ?_))
      | exact ih0 _ _ _ _
      | exact ih1 _ _ _ _ _ _
      | exact ih2 _ _ _
      | exact ih3 _ _ _ _
      | exact bastillelaw01_awake.mono _
      | exact bastilleref01_Same.mono _ _ _
      | exact bastilleref01_Turned.mono _ _
      | exact bastilleref01_Wide.mono _ _
      | exact word_Bytes32.mono _ _
      | exact word_Bytes64.mono _ _
      | exact word_Words32.mono _ _
      | exact word_Words64.mono _ _
      | exact LeO.none _
      | refine LeO.ite ?_ ?_
      | refine LeO.bind ?_ (fun _ => ?_)
theorem bastillelaw01_WordLists.mono : ∀ a0 k, LeO (bastillelaw01_WordLists.f k a0) (bastillelaw01_WordLists.f (k + 1) a0) := by
  intro a0 k
  obtain ⟨ih0, ih1, ih2, ih3⟩ := bastillelaw01_WordLists.mono_l k
  unfold bastillelaw01_WordLists.f
  repeat' first
      | (with_reducible exact ih0 _ _ _ _)
      | (with_reducible exact ih1 _ _ _ _ _ _)
      | (with_reducible exact ih2 _ _ _)
      | (with_reducible exact ih3 _ _ _ _)
      | (with_reducible exact bastillelaw01_awake.mono _)
      | (with_reducible exact bastilleref01_Same.mono _ _ _)
      | (with_reducible exact bastilleref01_Turned.mono _ _)
      | (with_reducible exact bastilleref01_Wide.mono _ _)
      | (with_reducible exact word_Bytes32.mono _ _)
      | (with_reducible exact word_Bytes64.mono _ _)
      | (with_reducible exact word_Words32.mono _ _)
      | (with_reducible exact word_Words64.mono _ _)
      | (with_reducible exact LeO.refl _)
      | (with_reducible exact LeO.none _)
      | (with_reducible refine LeO.ite ?_ ?_)
      | (with_reducible refine LeO.bind ?_ (fun _ => ?_))
      | exact ih0 _ _ _ _
      | exact ih1 _ _ _ _ _ _
      | exact ih2 _ _ _
      | exact ih3 _ _ _ _
      | exact bastillelaw01_awake.mono _
      | exact bastilleref01_Same.mono _ _ _
      | exact bastilleref01_Turned.mono _ _
      | exact bastilleref01_Wide.mono _ _
      | exact word_Bytes32.mono _ _
      | exact word_Bytes64.mono _ _
      | exact word_Words32.mono _ _
      | exact word_Words64.mono _ _
      | exact LeO.none _
      | refine LeO.ite ?_ ?_
      | refine LeO.bind ?_ (fun _ => ?_)
set_option maxHeartbeats 8000000 in
set_option maxRecDepth 100000 in
theorem bastillelaw01_WordLists.calls (k : Nat) (A0 : Option Addr) (c0 : Nat) (l0 : List Int) (r : Bool) (w : World) (hr0 : Kd.C (Kd.int .u8) w A0 l0.length l0) (hc0 : l0.length ≤ c0) (h : bastillelaw01_WordLists.f k l0 = some r) :
    Calls Try.prog 9 #[.slice A0 l0.length c0] w fun e w' => e = .returned (.bool r) ∧ Below w.heap.size w w' := by
  have HR0 := Aside0.mk hr0
  have HC0 := Aside0.mk hc0
  clear hr0 hc0
  have HB := Aside0.mk (Below.refl w.heap.size w)
  have H : ((bastillelaw01_awake.f k).bind fun t176 => (if t176 = true then (if (l0.length : Int) > 200 then (some true) else ((word_Words32.f k l0).bind fun bt177 => ((word_Words64.f k l0).bind fun bt181 => (if ((l0.length : Int) % 4) = 0 then (if bt177.2 = 0 then (if (wrap64 (4 * (bt177.1.length : Int))) = (l0.length : Int) then ((word_Bytes32.f k bt177.1).bind fun t185 => ((bastilleref01_Same.f k t185 l0).bind fun t188 => (if t188 = true then (bastillelaw01_WordLists.j0 k l0 bt177.1 bt181.1 bt181.2) else (some false)))) else (some false)) else (some false)) else (if bt177.2 = 2 then (if (bt177.1.length : Int) > 0 then (some false) else (bastillelaw01_WordLists.j0 k l0 bt177.1 bt181.1 bt181.2)) else (some false)))))) else (some false))) = some r := h
  clear h
  replace H := Option.bind_eq_some_iff.mp H
  obtain ⟨t176, A20, H⟩ := H
  replace H : (if t176 = true then (if (l0.length : Int) > 200 then (some true) else ((word_Words32.f k l0).bind fun bt177 => ((word_Words64.f k l0).bind fun bt181 => (if ((l0.length : Int) % 4) = 0 then (if bt177.2 = 0 then (if (wrap64 (4 * (bt177.1.length : Int))) = (l0.length : Int) then ((word_Bytes32.f k bt177.1).bind fun t185 => ((bastilleref01_Same.f k t185 l0).bind fun t188 => (if t188 = true then (bastillelaw01_WordLists.j0 k l0 bt177.1 bt181.1 bt181.2) else (some false)))) else (some false)) else (some false)) else (if bt177.2 = 2 then (if (bt177.1.length : Int) > 0 then (some false) else (bastillelaw01_WordLists.j0 k l0 bt177.1 bt181.1 bt181.2)) else (some false)))))) else (some false)) = some r := H
  have A2 := Aside0.mk A20
  clear A20
  by_cases c3 : t176 = true
  · subst c3
    have H1 : (if (l0.length : Int) > 200 then (some true) else ((word_Words32.f k l0).bind fun bt177 => ((word_Words64.f k l0).bind fun bt181 => (if ((l0.length : Int) % 4) = 0 then (if bt177.2 = 0 then (if (wrap64 (4 * (bt177.1.length : Int))) = (l0.length : Int) then ((word_Bytes32.f k bt177.1).bind fun t185 => ((bastilleref01_Same.f k t185 l0).bind fun t188 => (if t188 = true then (bastillelaw01_WordLists.j0 k l0 bt177.1 bt181.1 bt181.2) else (some false)))) else (some false)) else (some false)) else (if bt177.2 = 2 then (if (bt177.1.length : Int) > 0 then (some false) else (bastillelaw01_WordLists.j0 k l0 bt177.1 bt181.1 bt181.2)) else (some false)))))) = some r := by rw [if_pos rfl] at H; exact H
    clear H
    have H := H1
    clear H1
    by_cases c4 : (l0.length : Int) > 200
    · rw [if_pos c4] at H
      have c4b0 : decide (200 < (l0.length : Int)) = true := decide_eq_true c4
      have c4b1 : decide (200 < l0.length) = true := decide_eq_true (by omega)
      clear c4
      obtain rfl := Option.some.inj H
      go_enter Try.func9, Try.ntmps9
      go_wp2_with (first | ((with_reducible refine gate_callee (f := 14) rfl ?_); refine goesL_ (some 11) rfl rfl Try.func14 (by kernel_rfl) rfl #[] rfl (by (try simp only [List.map_toArray, List.map_cons, List.map_nil]); first | done | rfl | (simp only [List.length_drop, List.length_take]; rfl)) ?_; (with_reducible refine (bastillelaw01_awake.calls k  true _ A2.out).mono ?_); rintro e w5 ⟨rfl, hb⟩; refine ⟨_, rfl, ?_⟩; have n0_ := Aside0.mk (below_step (by repeat (first | (with_reducible first | exact HB.out | apply below_alloc | apply pw_below_drewN | apply below_drew1) | exact HB.out)) hb); clear HB; have HB := n0_; clear n0_; (try clear hb); (try clear hb2); (try clear hk); (try clear hi)))
      go_ret
      exact ⟨by first | rfl | (simp [errW_none, errW_some] <;> rfl) | (simp [*, errW_none, errW_some] <;> rfl), by repeat (first | (with_reducible first | exact HB.out | apply below_alloc | apply pw_below_drewN | apply below_drew1) | exact HB.out)⟩
    · rw [if_neg c4] at H
      have c4b0 : decide (200 < (l0.length : Int)) = false := decide_eq_false c4
      have c4b1 : decide (200 < l0.length) = false := decide_eq_false (by omega)
      clear c4
      replace H := Option.bind_eq_some_iff.mp H
      obtain ⟨⟨t177, t180⟩, A60, H⟩ := H
      replace H : ((word_Words64.f k l0).bind fun bt181 => (if ((l0.length : Int) % 4) = 0 then (if t180 = 0 then (if (wrap64 (4 * (t177.length : Int))) = (l0.length : Int) then ((word_Bytes32.f k t177).bind fun t185 => ((bastilleref01_Same.f k t185 l0).bind fun t188 => (if t188 = true then (bastillelaw01_WordLists.j0 k l0 t177 bt181.1 bt181.2) else (some false)))) else (some false)) else (some false)) else (if t180 = 2 then (if (t177.length : Int) > 0 then (some false) else (bastillelaw01_WordLists.j0 k l0 t177 bt181.1 bt181.2)) else (some false)))) = some r := H
      have A6 := Aside0.mk A60
      clear A60
      replace H := Option.bind_eq_some_iff.mp H
      obtain ⟨⟨t181, t184⟩, A70, H⟩ := H
      replace H : (if ((l0.length : Int) % 4) = 0 then (if t180 = 0 then (if (wrap64 (4 * (t177.length : Int))) = (l0.length : Int) then ((word_Bytes32.f k t177).bind fun t185 => ((bastilleref01_Same.f k t185 l0).bind fun t188 => (if t188 = true then (bastillelaw01_WordLists.j0 k l0 t177 t181 t184) else (some false)))) else (some false)) else (some false)) else (if t180 = 2 then (if (t177.length : Int) > 0 then (some false) else (bastillelaw01_WordLists.j0 k l0 t177 t181 t184)) else (some false))) = some r := H
      have A7 := Aside0.mk A70
      clear A70
      have HC8 := Aside0.mk H
      clear H
      go_enter Try.func9, Try.ntmps9
      go_upto_if 29 with (first | ((with_reducible refine gate_callee (f := 14) rfl ?_); refine goesL_ (some 11) rfl rfl Try.func14 (by kernel_rfl) rfl #[] rfl (by (try simp only [List.map_toArray, List.map_cons, List.map_nil]); first | done | rfl | (simp only [List.length_drop, List.length_take]; rfl)) ?_; (with_reducible refine (bastillelaw01_awake.calls k  true _ A2.out).mono ?_); rintro e w9 ⟨rfl, hb⟩; refine ⟨_, rfl, ?_⟩; have n0_ := Aside0.mk (below_step (by repeat (first | (with_reducible first | exact HB.out | apply below_alloc | apply pw_below_drewN | apply below_drew1) | exact HB.out)) hb); clear HB; have HB := n0_; clear n0_; (try clear hb); (try clear hb2); (try clear hk); (try clear hi)) | ((with_reducible refine gate_callee (f := 38) rfl ?_); refine goesL_ (some 18) rfl rfl Try.func38 (by kernel_rfl) rfl #[.slice A0 l0.length c0] rfl (by (try simp only [List.map_toArray, List.map_cons, List.map_nil]); first | done | rfl | (simp only [List.length_drop, List.length_take]; rfl)) ?_; (with_reducible refine (word_Words32.calls k (fun k_ => k_ < w.heap.size) _ _ l0 t177 t180 _ ?side1 A6.out).mono ?_); (case side1 => exact Kd.V_mk HC0.out (Kd.F_below (Kd.C_F (Kd.heap_int .u8) HR0.out) (by repeat (first | (with_reducible first | exact HB.out | apply below_alloc | apply pw_below_drewN | apply below_drew1) | exact HB.out)))); rintro e w10 ⟨v178, rfl, ho0, hb⟩; refine ⟨_, rfl, ?_⟩; have n0_ := Aside0.mk (Kd.R_lower (Kd.R_mono (ok' := fun k_ => True) ho0 (fun _ hk_ => trivial)) (below_size (by repeat (first | (with_reducible first | exact HB.out | apply below_alloc | apply pw_below_drewN | apply below_drew1) | exact HB.out)))); have n1_ := Aside0.mk (below_step (by repeat (first | (with_reducible first | exact HB.out | apply below_alloc | apply pw_below_drewN | apply below_drew1) | exact HB.out)) hb); clear HB; have HO179 := n0_; have HB := n1_; clear n0_ n1_; (try clear hb); (try clear hb2); (try clear hk); (try clear hi); (try clear ho0)) | ((with_reducible refine gate_callee (f := 39) rfl ?_); refine goesL_ (some 23) rfl rfl Try.func39 (by kernel_rfl) rfl #[.slice A0 l0.length c0] rfl (by (try simp only [List.map_toArray, List.map_cons, List.map_nil]); first | done | rfl | (simp only [List.length_drop, List.length_take]; rfl)) ?_; (with_reducible refine (word_Words64.calls k (fun k_ => k_ < w.heap.size) _ _ l0 t181 t184 _ ?side1 A7.out).mono ?_); (case side1 => exact Kd.V_mk HC0.out (Kd.F_below (Kd.C_F (Kd.heap_int .u8) HR0.out) (by repeat (first | (with_reducible first | exact HB.out | apply below_alloc | apply pw_below_drewN | apply below_drew1) | exact HB.out)))); rintro e w11 ⟨v182, rfl, ho0, hb⟩; refine ⟨_, rfl, ?_⟩; have n0_ := Aside0.mk (Kd.R_below (by (with_reducible repeat (first | apply Kd.R_alloc | apply Kd.R_drewN | apply Kd.R_drew)); exact HO179.out) hb); have n1_ := Aside0.mk (Kd.R_lower (Kd.R_mono (ok' := fun k_ => True) ho0 (fun _ hk_ => trivial)) (below_size (by repeat (first | (with_reducible first | exact HB.out | apply below_alloc | apply pw_below_drewN | apply below_drew1) | exact HB.out)))); have n2_ := Aside0.mk (below_step (by repeat (first | (with_reducible first | exact HB.out | apply below_alloc | apply pw_below_drewN | apply below_drew1) | exact HB.out)) hb); clear HO179; clear HB; have HO179 := n0_; have HO183 := n1_; have HB := n2_; clear n0_ n1_ n2_; (try clear hb); (try clear hb2); (try clear hk); (try clear hi); (try clear ho0)))
      (try simp only [Act.put, List.setIfInBounds_toArray, List.set_cons_zero, List.set_cons_succ])
      go_cut [] (fun wc => ∃ (kq : Nat), Aside0 (bastillelaw01_WordLists.j0 kq l0 t177 t181 t184 = some r) ∧ Aside0 (kq ≤ k) ∧ Aside0 (Kd.R (Kd.int .u32) 36 wc w.heap.size (fun _ => True) v178 t177) ∧ Aside0 (Kd.R (Kd.int .u64) 68 wc w.heap.size (fun _ => True) v182 t181) ∧ Aside0 (Below w.heap.size w wc))
      case first =>
        have H := HC8.out
        clear HC8
        by_cases c12 : ((l0.length : Int) % 4) = 0
        · rw [if_pos c12] at H
          have c12b0 : (((l0.length : Int) % 4) == 0) = true := beq_iff_eq.mpr c12
          have c12b1 : (((l0.length : Int) % 4) != 0) = false := bne_eq_false_iff_eq.mpr c12
          clear c12
          (first | rw [c12b0] | (simp only [i64_w, i32_w]; rw [c12b0]) | skip)
          by_cases c13 : t180 = 0
          · rw [if_pos c13] at H
            have c13b0 : (t180 == 0) = true := beq_iff_eq.mpr c13
            have c13b1 : (t180 != 0) = false := bne_eq_false_iff_eq.mpr c13
            clear c13
            by_cases c14 : (wrap64 (4 * (t177.length : Int))) = (l0.length : Int)
            · rw [if_pos c14] at H
              have c14b0 : ((wrap64 (4 * (t177.length : Int))) == (l0.length : Int)) = true := beq_iff_eq.mpr c14
              have c14b1 : ((wrap64 (4 * (t177.length : Int))) != (l0.length : Int)) = false := bne_eq_false_iff_eq.mpr c14
              clear c14
              replace H := Option.bind_eq_some_iff.mp H
              obtain ⟨t185, A150, H⟩ := H
              replace H : ((bastilleref01_Same.f k t185 l0).bind fun t188 => (if t188 = true then (bastillelaw01_WordLists.j0 k l0 t177 t181 t184) else (some false))) = some r := H
              have A15 := Aside0.mk A150
              clear A150
              replace H := Option.bind_eq_some_iff.mp H
              obtain ⟨t188, A160, H⟩ := H
              replace H : (if t188 = true then (bastillelaw01_WordLists.j0 k l0 t177 t181 t184) else (some false)) = some r := H
              have A16 := Aside0.mk A160
              clear A160
              by_cases c17 : t188 = true
              · subst c17
                have H1 : (bastillelaw01_WordLists.j0 k l0 t177 t181 t184) = some r := by rw [if_pos rfl] at H; exact H
                clear H
                have H := H1
                clear H1
                have H' := Aside0.mk H
                clear H
                obtain ⟨Ao18, co18, eo18⟩ := Kd.R_slice HO179.out
                subst eo18
                go_wp2_with (first | (go_at_call 40; (with_reducible refine (word_Bytes32.calls k _ _ t177 t185 _ ?side1 ?side2 A15.out).mono ?_); (case side1 => repeat (first | exact (Kd.R_reads' HO179.out).2.2 | (with_reducible refine Kd.C_alloc ?_ _) | (with_reducible refine Kd.C_drewN ?_ _) | (with_reducible refine Kd.C_drew ?_))); (case side2 => exact (Kd.R_reads' HO179.out).2.1); rintro e w19 ⟨v186, rfl, ho0, hb⟩; have n0_ := Aside0.mk (Kd.R_below (by (with_reducible repeat (first | apply Kd.R_alloc | apply Kd.R_drewN | apply Kd.R_drew)); exact HO179.out) hb); have n1_ := Aside0.mk (Kd.R_below (by (with_reducible repeat (first | apply Kd.R_alloc | apply Kd.R_drewN | apply Kd.R_drew)); exact HO183.out) hb); have n2_ := Aside0.mk (Kd.R_lower ho0 (below_size (by repeat (first | (with_reducible first | exact HB.out | apply below_alloc | apply pw_below_drewN | apply below_drew1) | exact HB.out)))); have n3_ := Aside0.mk (below_step (by repeat (first | (with_reducible first | exact HB.out | apply below_alloc | apply pw_below_drewN | apply below_drew1) | exact HB.out)) hb); clear HO179; clear HO183; clear HB; have HO179 := n0_; have HO183 := n1_; have HO187 := n2_; have HB := n3_; clear n0_ n1_ n2_ n3_; (try clear hb); (try clear hb2); (try clear hk); (try clear hi); (try clear ho0); obtain ⟨Ao20, co20, eo20⟩ := Kd.R_slice HO187.out; subst eo20) | (go_at_call 19; (with_reducible refine (bastilleref01_Same.calls k _ _ t185 _ _ l0 true _ ?side1 ?side2 ?side3 ?side4 A16.out).mono ?_); (case side1 => repeat (first | exact (Kd.R_reads' HO187.out).2.2 | (with_reducible refine Kd.C_alloc ?_ _) | (with_reducible refine Kd.C_drewN ?_ _) | (with_reducible refine Kd.C_drew ?_))); (case side2 => exact (Kd.R_reads' HO187.out).2.1); (case side3 => repeat (first | exact (Kd.C_below HR0.out HB.out) | (with_reducible refine Kd.C_alloc ?_ _) | (with_reducible refine Kd.C_drewN ?_ _) | (with_reducible refine Kd.C_drew ?_))); (case side4 => exact HC0.out); rintro e w' ⟨rfl, ⟨nd, rfl⟩⟩))
                go_meet
                case rel => exact ⟨_, H', ⟨by first | omega | exact Nat.le_refl _⟩, ⟨by (with_reducible repeat (first | apply Kd.R_alloc | apply Kd.R_drewN | apply Kd.R_drew)); exact HO179.out⟩, ⟨by (with_reducible repeat (first | apply Kd.R_alloc | apply Kd.R_drewN | apply Kd.R_drew)); exact HO183.out⟩, ⟨by repeat (first | (with_reducible first | exact HB.out | apply below_alloc | apply pw_below_drewN | apply below_drew1) | exact HB.out)⟩⟩
              · replace c17 := Bool.eq_false_iff.mpr c17
                subst c17
                have H1 : (some false) = some r := by rw [if_neg (show ¬ (false = true) by decide)] at H; exact H
                clear H
                have H := H1
                clear H1
                obtain rfl := Option.some.inj H
                obtain ⟨Ao21, co21, eo21⟩ := Kd.R_slice HO179.out
                subst eo21
                go_wp2_with (first | (go_at_call 40; (with_reducible refine (word_Bytes32.calls k _ _ t177 t185 _ ?side1 ?side2 A15.out).mono ?_); (case side1 => repeat (first | exact (Kd.R_reads' HO179.out).2.2 | (with_reducible refine Kd.C_alloc ?_ _) | (with_reducible refine Kd.C_drewN ?_ _) | (with_reducible refine Kd.C_drew ?_))); (case side2 => exact (Kd.R_reads' HO179.out).2.1); rintro e w22 ⟨v186, rfl, ho0, hb⟩; have n0_ := Aside0.mk (Kd.R_below (by (with_reducible repeat (first | apply Kd.R_alloc | apply Kd.R_drewN | apply Kd.R_drew)); exact HO179.out) hb); have n1_ := Aside0.mk (Kd.R_below (by (with_reducible repeat (first | apply Kd.R_alloc | apply Kd.R_drewN | apply Kd.R_drew)); exact HO183.out) hb); have n2_ := Aside0.mk (Kd.R_lower ho0 (below_size (by repeat (first | (with_reducible first | exact HB.out | apply below_alloc | apply pw_below_drewN | apply below_drew1) | exact HB.out)))); have n3_ := Aside0.mk (below_step (by repeat (first | (with_reducible first | exact HB.out | apply below_alloc | apply pw_below_drewN | apply below_drew1) | exact HB.out)) hb); clear HO179; clear HO183; clear HB; have HO179 := n0_; have HO183 := n1_; have HO187 := n2_; have HB := n3_; clear n0_ n1_ n2_ n3_; (try clear hb); (try clear hb2); (try clear hk); (try clear hi); (try clear ho0); obtain ⟨Ao23, co23, eo23⟩ := Kd.R_slice HO187.out; subst eo23) | (go_at_call 19; (with_reducible refine (bastilleref01_Same.calls k _ _ t185 _ _ l0 false _ ?side1 ?side2 ?side3 ?side4 A16.out).mono ?_); (case side1 => repeat (first | exact (Kd.R_reads' HO187.out).2.2 | (with_reducible refine Kd.C_alloc ?_ _) | (with_reducible refine Kd.C_drewN ?_ _) | (with_reducible refine Kd.C_drew ?_))); (case side2 => exact (Kd.R_reads' HO187.out).2.1); (case side3 => repeat (first | exact (Kd.C_below HR0.out HB.out) | (with_reducible refine Kd.C_alloc ?_ _) | (with_reducible refine Kd.C_drewN ?_ _) | (with_reducible refine Kd.C_drew ?_))); (case side4 => exact HC0.out); rintro e w' ⟨rfl, ⟨nd, rfl⟩⟩))
                go_ret
                exact ⟨by first | rfl | (simp [errW_none, errW_some] <;> rfl) | (simp [*, errW_none, errW_some] <;> rfl), by repeat (first | (with_reducible first | exact HB.out | apply below_alloc | apply pw_below_drewN | apply below_drew1) | exact HB.out)⟩
            · rw [if_neg c14] at H
              have c14b0 : ((wrap64 (4 * (t177.length : Int))) == (l0.length : Int)) = false := beq_eq_false_iff_ne.mpr c14
              have c14b1 : ((wrap64 (4 * (t177.length : Int))) != (l0.length : Int)) = true := bne_iff_ne.mpr c14
              obtain rfl := Option.some.inj H
              obtain ⟨Ao24, co24, eo24⟩ := Kd.R_slice HO179.out
              subst eo24
              go_wp2
              go_ret
              exact ⟨by first | rfl | (simp [errW_none, errW_some] <;> rfl) | (simp [*, errW_none, errW_some] <;> rfl), by repeat (first | (with_reducible first | exact HB.out | apply below_alloc | apply pw_below_drewN | apply below_drew1) | exact HB.out)⟩
          · rw [if_neg c13] at H
            have c13b0 : (t180 == 0) = false := beq_eq_false_iff_ne.mpr c13
            have c13b1 : (t180 != 0) = true := bne_iff_ne.mpr c13
            obtain rfl := Option.some.inj H
            go_wp2
            go_ret
            exact ⟨by first | rfl | (simp [errW_none, errW_some] <;> rfl) | (simp [*, errW_none, errW_some] <;> rfl), by repeat (first | (with_reducible first | exact HB.out | apply below_alloc | apply pw_below_drewN | apply below_drew1) | exact HB.out)⟩
        · rw [if_neg c12] at H
          have c12b0 : (((l0.length : Int) % 4) == 0) = false := beq_eq_false_iff_ne.mpr c12
          have c12b1 : (((l0.length : Int) % 4) != 0) = true := bne_iff_ne.mpr c12
          (first | rw [c12b0] | (simp only [i64_w, i32_w]; rw [c12b0]) | skip)
          by_cases c25 : t180 = 2
          · rw [if_pos c25] at H
            have c25b0 : (t180 == 2) = true := beq_iff_eq.mpr c25
            have c25b1 : (t180 != 2) = false := bne_eq_false_iff_eq.mpr c25
            clear c25
            by_cases c26 : (t177.length : Int) > 0
            · rw [if_pos c26] at H
              have c26b0 : decide (0 < (t177.length : Int)) = true := decide_eq_true c26
              have c26b1 : decide (0 < t177.length) = true := decide_eq_true (by omega)
              clear c26
              obtain rfl := Option.some.inj H
              obtain ⟨Ao27, co27, eo27⟩ := Kd.R_slice HO179.out
              subst eo27
              go_wp2
              go_ret
              exact ⟨by first | rfl | (simp [errW_none, errW_some] <;> rfl) | (simp [*, errW_none, errW_some] <;> rfl), by repeat (first | (with_reducible first | exact HB.out | apply below_alloc | apply pw_below_drewN | apply below_drew1) | exact HB.out)⟩
            · rw [if_neg c26] at H
              have c26b0 : decide (0 < (t177.length : Int)) = false := decide_eq_false c26
              have c26b1 : decide (0 < t177.length) = false := decide_eq_false (by omega)
              clear c26
              have H' := Aside0.mk H
              clear H
              obtain ⟨Ao28, co28, eo28⟩ := Kd.R_slice HO179.out
              subst eo28
              go_wp2
              go_meet
              case rel => exact ⟨_, H', ⟨by first | omega | exact Nat.le_refl _⟩, ⟨by (with_reducible repeat (first | apply Kd.R_alloc | apply Kd.R_drewN | apply Kd.R_drew)); exact HO179.out⟩, ⟨by (with_reducible repeat (first | apply Kd.R_alloc | apply Kd.R_drewN | apply Kd.R_drew)); exact HO183.out⟩, ⟨by repeat (first | (with_reducible first | exact HB.out | apply below_alloc | apply pw_below_drewN | apply below_drew1) | exact HB.out)⟩⟩
          · rw [if_neg c25] at H
            have c25b0 : (t180 == 2) = false := beq_eq_false_iff_ne.mpr c25
            have c25b1 : (t180 != 2) = true := bne_iff_ne.mpr c25
            obtain rfl := Option.some.inj H
            go_wp2
            go_ret
            exact ⟨by first | rfl | (simp [errW_none, errW_some] <;> rfl) | (simp [*, errW_none, errW_some] <;> rfl), by repeat (first | (with_reducible first | exact HB.out | apply below_alloc | apply pw_below_drewN | apply below_drew1) | exact HB.out)⟩
      case rest =>
        clear HC8
        try clear c1
        try clear c2
        try clear p2
        try clear c3
        try clear c4
        try clear c4b0
        try clear c4b1
        try clear p6
        try clear c9
        try clear c12
        try clear c12b0
        try clear c12b1
        try clear c13
        try clear c13b0
        try clear c13b1
        try clear c14
        try clear c14b0
        try clear c14b1
        try clear c17
        try clear c25
        try clear c25b0
        try clear c25b1
        try clear c26
        try clear c26b0
        try clear c26b1
        obtain ⟨kq, HA, HJ7, HO_3, HO_5, HB⟩ := hcut
        cases kq with
        | zero => exact absurd HA.out (by simp [bastillelaw01_WordLists.j0])
        | succ kj7 =>
          have H := HA.out
          clear HA
          simp only [bastillelaw01_WordLists.j0] at H
          have H' := Aside0.mk H
          clear H
          obtain ⟨Ao29, co29, eo29⟩ := Kd.R_slice HO_3.out
          subst eo29
          go_wp2
          go_loopg [56] kj7 (fun kq v56 w' => ∃ (x56_2 : Int), v56 = .int .i64 x56_2 ∧ Aside0 (bastillelaw01_WordLists.l0 kq l0 t181 t184 t177 (t177.length : Int) x56_2 = some r) ∧ Aside0 (kq ≤ kj7) ∧ Aside0 (Kd.R (Kd.int .u64) 68 w' w.heap.size (fun _ => True) v182 t181) ∧ Aside0 (Kd.R (Kd.int .u32) 36 w' w.heap.size (fun _ => True) (.slice Ao29 t177.length co29) t177) ∧ Aside0 (Below w.heap.size w w'))
          case atStart => exact ⟨(0), (by first | rfl | (simp; done) | (simp [*]; done)), H', ⟨Nat.le_refl _⟩, ⟨by (with_reducible repeat (first | apply Kd.R_alloc | apply Kd.R_drewN | apply Kd.R_drew)); exact HO_5.out⟩, ⟨by (with_reducible repeat (first | apply Kd.R_alloc | apply Kd.R_drewN | apply Kd.R_drew)); exact HO_3.out⟩, ⟨by repeat (first | (with_reducible first | exact HB.out | apply below_alloc | apply pw_below_drewN | apply below_drew1) | exact HB.out)⟩⟩
          case round =>
            clear H'
            try clear c1
            try clear c2
            try clear p2
            try clear c3
            try clear c4
            try clear c4b0
            try clear c4b1
            try clear p6
            try clear c9
            try clear c12
            try clear c12b0
            try clear c12b1
            try clear c13
            try clear c13b0
            try clear c13b1
            try clear c14
            try clear c14b0
            try clear c14b1
            try clear c17
            try clear c25
            try clear c25b0
            try clear c25b1
            try clear c26
            try clear c26b0
            try clear c26b1
            try clear p2
            try clear p6
            obtain ⟨x56_2, rfl, HA, HK2, HO_5, HO_54, HB⟩ := hrel
            cases gk with
            | zero => exact absurd HA.out (by simp [bastillelaw01_WordLists.l0])
            | succ k2 =>
              have H := HA.out
              clear HA
              simp only [bastillelaw01_WordLists.l0] at H
              by_cases c30 : x56_2 < (t177.length : Int)
              · rw [if_pos c30] at H
                have c30b0 : decide (x56_2 < (t177.length : Int)) = true := decide_eq_true c30
                clear c30
                by_cases c31 : 0 ≤ x56_2
                · rw [if_pos c31] at H
                  have c31b0 : decide (0 ≤ x56_2) = true := decide_eq_true c31
                  clear c31
                  by_cases c32 : x56_2 < (t177.length : Int)
                  · rw [if_pos c32] at H
                    have c32b0 : decide (x56_2 < (t177.length : Int)) = true := decide_eq_true c32
                    clear c32
                    obtain ⟨ji33, hji33⟩ : ∃ j_ : Int, (wrap64 (4 * x56_2)) = j_ := ⟨_, rfl⟩
                    replace H : (if 0 ≤ (ji33) then (if (ji33) ≤ (wrap64 ((ji33) + 4)) then (if (wrap64 ((ji33) + 4)) ≤ (l0.length : Int) then ((bastilleref01_Turned.f k2 ((l0.take ((wrap64 ((ji33) + 4)) : Int).toNat).drop ((ji33) : Int).toNat)).bind fun t191 => ((bastilleref01_Wide.f k2 t191).bind fun t194 => (if (IntKind.u64.wrap (rd t177 x56_2)) = t194 then (bastillelaw01_WordLists.l0 k2 l0 t181 t184 t177 (t177.length : Int) (wrap64 (x56_2 + 1))) else (some false)))) else (none)) else (none)) else (none)) = some r := by first | (rw [hji33] at H; exact H) | (simp only [hji33] at H ⊢; exact H)
                    have hji33w : (IntKind.i64.wrap (4 * x56_2)) = ji33 := (i64_w _).trans hji33
                    by_cases c34 : 0 ≤ (ji33)
                    · rw [if_pos c34] at H
                      have c34b0 := eq_true c34
                      have c34b1 : decide (0 ≤ (ji33)) = true := decide_eq_true c34
                      clear c34
                      by_cases c35 : (ji33) ≤ (wrap64 ((ji33) + 4))
                      · rw [if_pos c35] at H
                        have c35b0 := eq_true c35
                        have c35b1 : decide ((ji33) ≤ (wrap64 ((ji33) + 4))) = true := decide_eq_true c35
                        by_cases c36 : (wrap64 ((ji33) + 4)) ≤ (l0.length : Int)
                        · rw [if_pos c36] at H
                          have c36b0 := eq_true c36
                          have c36b1 : decide ((wrap64 ((ji33) + 4)) ≤ (l0.length : Int)) = true := decide_eq_true c36
                          replace H := Option.bind_eq_some_iff.mp H
                          obtain ⟨t191, A370, H⟩ := H
                          replace H : ((bastilleref01_Wide.f k2 t191).bind fun t194 => (if (IntKind.u64.wrap (rd t177 x56_2)) = t194 then (bastillelaw01_WordLists.l0 k2 l0 t181 t184 t177 (t177.length : Int) (wrap64 (x56_2 + 1))) else (some false))) = some r := H
                          have A37 := Aside0.mk A370
                          clear A370
                          replace H := Option.bind_eq_some_iff.mp H
                          obtain ⟨t194, A380, H⟩ := H
                          replace H : (if (IntKind.u64.wrap (rd t177 x56_2)) = t194 then (bastillelaw01_WordLists.l0 k2 l0 t181 t184 t177 (t177.length : Int) (wrap64 (x56_2 + 1))) else (some false)) = some r := H
                          have A38 := Aside0.mk A380
                          clear A380
                          by_cases c39 : (IntKind.u64.wrap (rd t177 x56_2)) = t194
                          · rw [if_pos c39] at H
                            have c39b0 : ((IntKind.u64.wrap (rd t177 x56_2)) == t194) = true := beq_iff_eq.mpr c39
                            have c39b1 : ((IntKind.u64.wrap (rd t177 x56_2)) != t194) = false := bne_eq_false_iff_eq.mpr c39
                            clear c39
                            have H' := Aside0.mk H
                            clear H
                            have p189 : 0 ≤ (x56_2 : Int) := of_decide_eq_true (by first | (with_reducible assumption) | assumption)
                            have q189 : x56_2 < (t177.length : Int) := of_decide_eq_true (by first | (with_reducible assumption) | assumption)
                            obtain ⟨ad189, e189, hx189_0⟩ := Kd.at_int (Kd.R_reads' HO_54.out).2.2 x56_2 p189 q189
                            cases e189
                            replace p189 := eq_true p189
                            replace q189 := eq_true q189
                            obtain ⟨i040, hi040, _, hsz40, _⟩ := info_parts info5
                            obtain ⟨A40, hcut40, hA40, hC40⟩ := print_mid_of (P := Try.prog) (Value.int .u8) 0 23 5 .i64 .i64 Try.underlying23 hi040 hsz40 A0 c0 l0 (ji33) (wrap64 ((ji33) + 4)) (of_decide_eq_true (by first | (with_reducible assumption) | assumption)) (by first | omega | exact of_decide_eq_true (by first | (with_reducible assumption) | assumption)) (of_decide_eq_true (by first | (with_reducible assumption) | assumption)) HC0.out
                            have HR190 := Aside0.mk (Kd.C_of_reads (h1 := fun _ => rfl) (hA40 _ (Kd.reads_of_C HR0.out)))
                            have HC190 := Aside0.mk hC40
                            clear hA40 hC40 hi040 hsz40
                            go_wp2_with (first | ((with_reducible refine gate_callee (f := 29) rfl ?_); refine goesL_ (some 70) rfl rfl Try.func29 (by kernel_rfl) rfl #[.slice A40 ((l0.take ((wrap64 ((ji33) + 4)) : Int).toNat).drop ((ji33) : Int).toNat).length (c0 - (ji33).toNat)] rfl (by (try simp only [List.map_toArray, List.map_cons, List.map_nil]); first | done | (rw [show ((l0.take ((wrap64 ((ji33) + 4)) : Int).toNat).drop ((ji33) : Int).toNat).length = ((wrap64 ((ji33) + 4)).toNat - (ji33).toNat) from (by rw [List.length_drop, List.length_take]; have h_ : ((wrap64 ((ji33) + 4)) : Int) ≤ (l0.length : Int) := of_decide_eq_true (by first | (with_reducible assumption) | assumption); omega)] <;> rfl) | (simp only [hji33]; rfl) | rfl | (simp only [List.length_drop, List.length_take]; rfl)) ?_; (with_reducible refine (bastilleref01_Turned.calls k2 _ _ ((l0.take ((wrap64 ((ji33) + 4)) : Int).toNat).drop ((ji33) : Int).toNat) t191 _ ?side1 ?side2 A37.out).mono ?_); (case side1 => repeat (first | exact (Kd.C_below HR190.out HB.out) | (with_reducible refine Kd.C_alloc ?_ _) | (with_reducible refine Kd.C_drewN ?_ _) | (with_reducible refine Kd.C_drew ?_))); (case side2 => exact HC190.out); rintro e w41 ⟨v192, rfl, ho0, hb⟩; refine ⟨_, rfl, ?_⟩; have n0_ := Aside0.mk (Kd.R_below (by (with_reducible repeat (first | apply Kd.R_alloc | apply Kd.R_drewN | apply Kd.R_drew)); exact HO_5.out) hb); have n1_ := Aside0.mk (Kd.R_below (by (with_reducible repeat (first | apply Kd.R_alloc | apply Kd.R_drewN | apply Kd.R_drew)); exact HO_54.out) hb); have n2_ := Aside0.mk (Kd.R_lower ho0 (below_size (by repeat (first | (with_reducible first | exact HB.out | apply below_alloc | apply pw_below_drewN | apply below_drew1) | exact HB.out)))); have n3_ := Aside0.mk (below_step (by repeat (first | (with_reducible first | exact HB.out | apply below_alloc | apply pw_below_drewN | apply below_drew1) | exact HB.out)) hb); clear HO_5; clear HO_54; clear HB; have HO_5 := n0_; have HO_54 := n1_; have HO193 := n2_; have HB := n3_; clear n0_ n1_ n2_ n3_; (try clear hb); (try clear hb2); (try clear hk); (try clear hi); (try clear ho0); obtain ⟨Ao42, co42, eo42⟩ := Kd.R_slice HO193.out; subst eo42) | ((with_reducible refine gate_callee (f := 41) rfl ?_); refine goesL_ (some 71) rfl rfl Try.func41 (by kernel_rfl) rfl #[.slice Ao42 t191.length co42] rfl (by (try simp only [List.map_toArray, List.map_cons, List.map_nil]); first | done | rfl | (simp only [List.length_drop, List.length_take]; rfl)) ?_; (with_reducible refine (bastilleref01_Wide.calls k2 _ _ t191 t194 _ ?side1 ?side2 A38.out).mono ?_); (case side1 => repeat (first | exact (Kd.R_reads' HO193.out).2.2 | (with_reducible refine Kd.C_alloc ?_ _) | (with_reducible refine Kd.C_drewN ?_ _) | (with_reducible refine Kd.C_drew ?_))); (case side2 => exact (Kd.R_reads' HO193.out).2.1); rintro e w' ⟨rfl, ⟨nd, rfl⟩⟩; refine ⟨_, rfl, ?_⟩))
                            go_roundg k2
                            case measure => have := HJ7.out; have := HK2.out; omega
                            case rel => exact ⟨(wrap64 (x56_2 + 1)), (by first | rfl | (simp; done) | (simp [*]; done)), H', ⟨by have := HJ7.out; have := HK2.out; omega⟩, ⟨by (with_reducible repeat (first | apply Kd.R_alloc | apply Kd.R_drewN | apply Kd.R_drew)); exact HO_5.out⟩, ⟨by (with_reducible repeat (first | apply Kd.R_alloc | apply Kd.R_drewN | apply Kd.R_drew)); exact HO_54.out⟩, ⟨by repeat (first | (with_reducible first | exact HB.out | apply below_alloc | apply pw_below_drewN | apply below_drew1) | exact HB.out)⟩⟩
                          · rw [if_neg c39] at H
                            have c39b0 : ((IntKind.u64.wrap (rd t177 x56_2)) == t194) = false := beq_eq_false_iff_ne.mpr c39
                            have c39b1 : ((IntKind.u64.wrap (rd t177 x56_2)) != t194) = true := bne_iff_ne.mpr c39
                            obtain rfl := Option.some.inj H
                            have p189 : 0 ≤ (x56_2 : Int) := of_decide_eq_true (by first | (with_reducible assumption) | assumption)
                            have q189 : x56_2 < (t177.length : Int) := of_decide_eq_true (by first | (with_reducible assumption) | assumption)
                            obtain ⟨ad189, e189, hx189_0⟩ := Kd.at_int (Kd.R_reads' HO_54.out).2.2 x56_2 p189 q189
                            cases e189
                            replace p189 := eq_true p189
                            replace q189 := eq_true q189
                            obtain ⟨i043, hi043, _, hsz43, _⟩ := info_parts info5
                            obtain ⟨A43, hcut43, hA43, hC43⟩ := print_mid_of (P := Try.prog) (Value.int .u8) 0 23 5 .i64 .i64 Try.underlying23 hi043 hsz43 A0 c0 l0 (ji33) (wrap64 ((ji33) + 4)) (of_decide_eq_true (by first | (with_reducible assumption) | assumption)) (by first | omega | exact of_decide_eq_true (by first | (with_reducible assumption) | assumption)) (of_decide_eq_true (by first | (with_reducible assumption) | assumption)) HC0.out
                            have HR190 := Aside0.mk (Kd.C_of_reads (h1 := fun _ => rfl) (hA43 _ (Kd.reads_of_C HR0.out)))
                            have HC190 := Aside0.mk hC43
                            clear hA43 hC43 hi043 hsz43
                            go_wp2_with (first | ((with_reducible refine gate_callee (f := 29) rfl ?_); refine goesL_ (some 70) rfl rfl Try.func29 (by kernel_rfl) rfl #[.slice A43 ((l0.take ((wrap64 ((ji33) + 4)) : Int).toNat).drop ((ji33) : Int).toNat).length (c0 - (ji33).toNat)] rfl (by (try simp only [List.map_toArray, List.map_cons, List.map_nil]); first | done | (rw [show ((l0.take ((wrap64 ((ji33) + 4)) : Int).toNat).drop ((ji33) : Int).toNat).length = ((wrap64 ((ji33) + 4)).toNat - (ji33).toNat) from (by rw [List.length_drop, List.length_take]; have h_ : ((wrap64 ((ji33) + 4)) : Int) ≤ (l0.length : Int) := of_decide_eq_true (by first | (with_reducible assumption) | assumption); omega)] <;> rfl) | (simp only [hji33]; rfl) | rfl | (simp only [List.length_drop, List.length_take]; rfl)) ?_; (with_reducible refine (bastilleref01_Turned.calls k2 _ _ ((l0.take ((wrap64 ((ji33) + 4)) : Int).toNat).drop ((ji33) : Int).toNat) t191 _ ?side1 ?side2 A37.out).mono ?_); (case side1 => repeat (first | exact (Kd.C_below HR190.out HB.out) | (with_reducible refine Kd.C_alloc ?_ _) | (with_reducible refine Kd.C_drewN ?_ _) | (with_reducible refine Kd.C_drew ?_))); (case side2 => exact HC190.out); rintro e w44 ⟨v192, rfl, ho0, hb⟩; refine ⟨_, rfl, ?_⟩; have n0_ := Aside0.mk (Kd.R_below (by (with_reducible repeat (first | apply Kd.R_alloc | apply Kd.R_drewN | apply Kd.R_drew)); exact HO_5.out) hb); have n1_ := Aside0.mk (Kd.R_below (by (with_reducible repeat (first | apply Kd.R_alloc | apply Kd.R_drewN | apply Kd.R_drew)); exact HO_54.out) hb); have n2_ := Aside0.mk (Kd.R_lower ho0 (below_size (by repeat (first | (with_reducible first | exact HB.out | apply below_alloc | apply pw_below_drewN | apply below_drew1) | exact HB.out)))); have n3_ := Aside0.mk (below_step (by repeat (first | (with_reducible first | exact HB.out | apply below_alloc | apply pw_below_drewN | apply below_drew1) | exact HB.out)) hb); clear HO_5; clear HO_54; clear HB; have HO_5 := n0_; have HO_54 := n1_; have HO193 := n2_; have HB := n3_; clear n0_ n1_ n2_ n3_; (try clear hb); (try clear hb2); (try clear hk); (try clear hi); (try clear ho0); obtain ⟨Ao45, co45, eo45⟩ := Kd.R_slice HO193.out; subst eo45) | ((with_reducible refine gate_callee (f := 41) rfl ?_); refine goesL_ (some 71) rfl rfl Try.func41 (by kernel_rfl) rfl #[.slice Ao45 t191.length co45] rfl (by (try simp only [List.map_toArray, List.map_cons, List.map_nil]); first | done | rfl | (simp only [List.length_drop, List.length_take]; rfl)) ?_; (with_reducible refine (bastilleref01_Wide.calls k2 _ _ t191 t194 _ ?side1 ?side2 A38.out).mono ?_); (case side1 => repeat (first | exact (Kd.R_reads' HO193.out).2.2 | (with_reducible refine Kd.C_alloc ?_ _) | (with_reducible refine Kd.C_drewN ?_ _) | (with_reducible refine Kd.C_drew ?_))); (case side2 => exact (Kd.R_reads' HO193.out).2.1); rintro e w' ⟨rfl, ⟨nd, rfl⟩⟩; refine ⟨_, rfl, ?_⟩))
                            go_ret
                            exact ⟨by first | rfl | (simp [errW_none, errW_some] <;> rfl) | (simp only [← hji33]; first | rfl | (simp [errW_none, errW_some] <;> rfl)) | (simp [*, errW_none, errW_some] <;> rfl), by repeat (first | (with_reducible first | exact HB.out | apply below_alloc | apply pw_below_drewN | apply below_drew1) | exact HB.out)⟩
                        · rw [if_neg c36] at H
                          exact absurd H (by simp)
                      · rw [if_neg c35] at H
                        exact absurd H (by simp)
                    · rw [if_neg c34] at H
                      exact absurd H (by simp)
                  · rw [if_neg c32] at H
                    exact absurd H (by simp)
                · rw [if_neg c31] at H
                  exact absurd H (by simp)
              · rw [if_neg c30] at H
                have c30b0 : decide (x56_2 < (t177.length : Int)) = false := decide_eq_false c30
                clear c30
                by_cases c46 : ((l0.length : Int) % 8) = 0
                · rw [if_pos c46] at H
                  have c46b0 : (((l0.length : Int) % 8) == 0) = true := beq_iff_eq.mpr c46
                  have c46b1 : (((l0.length : Int) % 8) != 0) = false := bne_eq_false_iff_eq.mpr c46
                  clear c46
                  have HC47 := Aside0.mk H
                  clear H
                  go_upto_region 20 with (fail)
                  go_cut [101] (fun v101 wc => ∃ (kq : Nat) (x101_46 : Bool), v101 = .bool x101_46 ∧ Aside0 (bastillelaw01_WordLists.j2 kq l0 t181 x101_46 = some r) ∧ Aside0 (kq ≤ k2) ∧ Aside0 (Kd.R (Kd.int .u64) 68 wc w.heap.size (fun _ => True) v182 t181) ∧ Aside0 (Below w.heap.size w wc))
                  case first =>
                    have H := HC47.out
                    clear HC47
                    by_cases c48 : t184 = 0
                    · rw [if_pos c48] at H
                      have c48b0 : (t184 == 0) = true := beq_iff_eq.mpr c48
                      have c48b1 : (t184 != 0) = false := bne_eq_false_iff_eq.mpr c48
                      clear c48
                      (first | rw [c48b0] | (simp only [i64_w, i32_w]; rw [c48b0]) | skip)
                      by_cases c49 : (wrap64 (8 * (t181.length : Int))) = (l0.length : Int)
                      · rw [if_pos c49] at H
                        have c49b0 : ((wrap64 (8 * (t181.length : Int))) == (l0.length : Int)) = true := beq_iff_eq.mpr c49
                        have c49b1 : ((wrap64 (8 * (t181.length : Int))) != (l0.length : Int)) = false := bne_eq_false_iff_eq.mpr c49
                        clear c49
                        replace H := Option.bind_eq_some_iff.mp H
                        obtain ⟨t195, A500, H⟩ := H
                        replace H : ((bastilleref01_Same.f k2 t195 l0).bind fun t198 => (bastillelaw01_WordLists.j2 k2 l0 t181 (!t198))) = some r := H
                        have A50 := Aside0.mk A500
                        clear A500
                        replace H := Option.bind_eq_some_iff.mp H
                        obtain ⟨t198, A510, H⟩ := H
                        replace H : (bastillelaw01_WordLists.j2 k2 l0 t181 (!t198)) = some r := H
                        have A51 := Aside0.mk A510
                        clear A510
                        have H' := Aside0.mk H
                        clear H
                        obtain ⟨Ao52, co52, eo52⟩ := Kd.R_slice HO_5.out
                        subst eo52
                        go_wp2_with (first | (go_at_call 42; (with_reducible refine (word_Bytes64.calls k2 _ _ t181 t195 _ ?side1 ?side2 A50.out).mono ?_); (case side1 => repeat (first | exact (Kd.R_reads' HO_5.out).2.2 | (with_reducible refine Kd.C_alloc ?_ _) | (with_reducible refine Kd.C_drewN ?_ _) | (with_reducible refine Kd.C_drew ?_))); (case side2 => exact (Kd.R_reads' HO_5.out).2.1); rintro e w53 ⟨v196, rfl, ho0, hb⟩; have n0_ := Aside0.mk (Kd.R_below (by (with_reducible repeat (first | apply Kd.R_alloc | apply Kd.R_drewN | apply Kd.R_drew)); exact HO_5.out) hb); have n1_ := Aside0.mk (Kd.R_below (by (with_reducible repeat (first | apply Kd.R_alloc | apply Kd.R_drewN | apply Kd.R_drew)); exact HO_54.out) hb); have n2_ := Aside0.mk (Kd.R_lower ho0 (below_size (by repeat (first | (with_reducible first | exact HB.out | apply below_alloc | apply pw_below_drewN | apply below_drew1) | exact HB.out)))); have n3_ := Aside0.mk (below_step (by repeat (first | (with_reducible first | exact HB.out | apply below_alloc | apply pw_below_drewN | apply below_drew1) | exact HB.out)) hb); clear HO_5; clear HO_54; clear HB; have HO_5 := n0_; have HO_54 := n1_; have HO197 := n2_; have HB := n3_; clear n0_ n1_ n2_ n3_; (try clear hb); (try clear hb2); (try clear hk); (try clear hi); (try clear ho0); obtain ⟨Ao54, co54, eo54⟩ := Kd.R_slice HO197.out; subst eo54) | (go_at_call 19; (with_reducible refine (bastilleref01_Same.calls k2 _ _ t195 _ _ l0 t198 _ ?side1 ?side2 ?side3 ?side4 A51.out).mono ?_); (case side1 => repeat (first | exact (Kd.R_reads' HO197.out).2.2 | (with_reducible refine Kd.C_alloc ?_ _) | (with_reducible refine Kd.C_drewN ?_ _) | (with_reducible refine Kd.C_drew ?_))); (case side2 => exact (Kd.R_reads' HO197.out).2.1); (case side3 => repeat (first | exact (Kd.C_below HR0.out HB.out) | (with_reducible refine Kd.C_alloc ?_ _) | (with_reducible refine Kd.C_drewN ?_ _) | (with_reducible refine Kd.C_drew ?_))); (case side4 => exact HC0.out); rintro e w' ⟨rfl, ⟨nd, rfl⟩⟩))
                        go_meet
                        case rel => exact ⟨_, (!t198), (by first | rfl | (simp; done) | (simp [*]; done)), H', ⟨by have := HJ7.out; have := HK2.out; first | omega | exact Nat.le_refl _⟩, ⟨by (with_reducible repeat (first | apply Kd.R_alloc | apply Kd.R_drewN | apply Kd.R_drew)); exact HO_5.out⟩, ⟨by repeat (first | (with_reducible first | exact HB.out | apply below_alloc | apply pw_below_drewN | apply below_drew1) | exact HB.out)⟩⟩
                      · rw [if_neg c49] at H
                        have c49b0 : ((wrap64 (8 * (t181.length : Int))) == (l0.length : Int)) = false := beq_eq_false_iff_ne.mpr c49
                        have c49b1 : ((wrap64 (8 * (t181.length : Int))) != (l0.length : Int)) = true := bne_iff_ne.mpr c49
                        have H' := Aside0.mk H
                        clear H
                        obtain ⟨Ao55, co55, eo55⟩ := Kd.R_slice HO_5.out
                        subst eo55
                        go_wp2
                        go_meet
                        case rel => exact ⟨_, (true), (by first | rfl | (simp; done) | (simp [*]; done)), H', ⟨by have := HJ7.out; have := HK2.out; first | omega | exact Nat.le_refl _⟩, ⟨by (with_reducible repeat (first | apply Kd.R_alloc | apply Kd.R_drewN | apply Kd.R_drew)); exact HO_5.out⟩, ⟨by repeat (first | (with_reducible first | exact HB.out | apply below_alloc | apply pw_below_drewN | apply below_drew1) | exact HB.out)⟩⟩
                    · rw [if_neg c48] at H
                      have c48b0 : (t184 == 0) = false := beq_eq_false_iff_ne.mpr c48
                      have c48b1 : (t184 != 0) = true := bne_iff_ne.mpr c48
                      (first | rw [c48b0] | (simp only [i64_w, i32_w]; rw [c48b0]) | skip)
                      have H' := Aside0.mk H
                      clear H
                      go_wp2
                      go_meet
                      case rel => exact ⟨_, (true), (by first | rfl | (simp; done) | (simp [*]; done)), H', ⟨by have := HJ7.out; have := HK2.out; first | omega | exact Nat.le_refl _⟩, ⟨by (with_reducible repeat (first | apply Kd.R_alloc | apply Kd.R_drewN | apply Kd.R_drew)); exact HO_5.out⟩, ⟨by repeat (first | (with_reducible first | exact HB.out | apply below_alloc | apply pw_below_drewN | apply below_drew1) | exact HB.out)⟩⟩
                  case rest =>
                    clear HC47
                    try clear c1
                    try clear p1
                    try clear q1
                    try clear hx1
                    try clear c2
                    try clear p2
                    try clear c3
                    try clear c4
                    try clear c4b0
                    try clear c4b1
                    try clear p6
                    try clear c9
                    try clear c12
                    try clear c12b0
                    try clear c12b1
                    try clear c13
                    try clear c13b0
                    try clear c13b1
                    try clear c14
                    try clear c14b0
                    try clear c14b1
                    try clear c17
                    try clear p18
                    try clear q18
                    try clear hx18
                    try clear c25
                    try clear c25b0
                    try clear c25b1
                    try clear c26
                    try clear c26b0
                    try clear c26b1
                    try clear c29
                    try clear c30
                    try clear c30b0
                    try clear c31
                    try clear c31b0
                    try clear c32
                    try clear c32b0
                    try clear c34
                    try clear c34b0
                    try clear c34b1
                    try clear c35
                    try clear c35b0
                    try clear c35b1
                    try clear c36
                    try clear c36b0
                    try clear c36b1
                    try clear c38
                    try clear c39
                    try clear c39b0
                    try clear c39b1
                    try clear c41
                    try clear c46
                    try clear c46b0
                    try clear c46b1
                    try clear c48
                    try clear c48b0
                    try clear c48b1
                    try clear c49
                    try clear c49b0
                    try clear c49b1
                    try clear hx189_0
                    try clear p189
                    try clear p2
                    try clear p6
                    try clear q189
                    obtain ⟨kq, x101_46, rfl, HA, HJ46, HO_5, HB⟩ := hcut
                    cases kq with
                    | zero => exact absurd HA.out (by simp [bastillelaw01_WordLists.j2])
                    | succ kj46 =>
                      have H := HA.out
                      clear HA
                      simp only [bastillelaw01_WordLists.j2] at H
                      by_cases c56 : x101_46 = true
                      · subst c56
                        have H1 : (some false) = some r := by rw [if_pos rfl] at H; exact H
                        clear H
                        have H := H1
                        clear H1
                        obtain rfl := Option.some.inj H
                        go_wp2
                        go_ret
                        exact ⟨by first | rfl | (simp [errW_none, errW_some] <;> rfl) | (simp [*, errW_none, errW_some] <;> rfl), by repeat (first | (with_reducible first | exact HB.out | apply below_alloc | apply pw_below_drewN | apply below_drew1) | exact HB.out)⟩
                      · replace c56 := Bool.eq_false_iff.mpr c56
                        subst c56
                        have H1 : (bastillelaw01_WordLists.l1 kj46 l0 t181 (t181.length : Int) 0) = some r := by rw [if_neg (show ¬ (false = true) by decide)] at H; exact H
                        clear H
                        have H := H1
                        clear H1
                        have H' := Aside0.mk H
                        clear H
                        obtain ⟨Ao57, co57, eo57⟩ := Kd.R_slice HO_5.out
                        subst eo57
                        go_wp2
                        go_loopg [104] kj46 (fun kq v104 w' => ∃ (x104_4 : Int), v104 = .int .i64 x104_4 ∧ Aside0 (bastillelaw01_WordLists.l1 kq l0 t181 (t181.length : Int) x104_4 = some r) ∧ Aside0 (kq ≤ kj46) ∧ Aside0 (Kd.R (Kd.int .u64) 68 w' w.heap.size (fun _ => True) (.slice Ao57 t181.length co57) t181) ∧ Aside0 (Below w.heap.size w w'))
                        case atStart => exact ⟨(0), (by first | rfl | (simp; done) | (simp [*]; done)), H', ⟨Nat.le_refl _⟩, ⟨by (with_reducible repeat (first | apply Kd.R_alloc | apply Kd.R_drewN | apply Kd.R_drew)); exact HO_5.out⟩, ⟨by repeat (first | (with_reducible first | exact HB.out | apply below_alloc | apply pw_below_drewN | apply below_drew1) | exact HB.out)⟩⟩
                        case round =>
                          clear H'
                          try clear c1
                          try clear p1
                          try clear q1
                          try clear hx1
                          try clear c2
                          try clear p2
                          try clear c3
                          try clear c4
                          try clear c4b0
                          try clear c4b1
                          try clear c5
                          try clear p6
                          try clear c9
                          try clear c12
                          try clear c12b0
                          try clear c12b1
                          try clear c13
                          try clear c13b0
                          try clear c13b1
                          try clear c14
                          try clear c14b0
                          try clear c14b1
                          try clear c17
                          try clear p18
                          try clear q18
                          try clear hx18
                          try clear c25
                          try clear c25b0
                          try clear c25b1
                          try clear c26
                          try clear c26b0
                          try clear c26b1
                          try clear c29
                          try clear c30
                          try clear c30b0
                          try clear c31
                          try clear c31b0
                          try clear c32
                          try clear c32b0
                          try clear c34
                          try clear c34b0
                          try clear c34b1
                          try clear c35
                          try clear c35b0
                          try clear c35b1
                          try clear c36
                          try clear c36b0
                          try clear c36b1
                          try clear c38
                          try clear c39
                          try clear c39b0
                          try clear c39b1
                          try clear c41
                          try clear c46
                          try clear c46b0
                          try clear c46b1
                          try clear c48
                          try clear c48b0
                          try clear c48b1
                          try clear c49
                          try clear c49b0
                          try clear c49b1
                          try clear c56
                          try clear hx189_0
                          try clear p1
                          try clear p18
                          try clear p189
                          try clear p2
                          try clear p6
                          try clear q1
                          try clear q18
                          try clear q189
                          obtain ⟨x104_4, rfl, HA, HK4, HO_102, HB⟩ := hrel
                          cases gk with
                          | zero => exact absurd HA.out (by simp [bastillelaw01_WordLists.l1])
                          | succ k4 =>
                            have H := HA.out
                            clear HA
                            simp only [bastillelaw01_WordLists.l1] at H
                            by_cases c58 : x104_4 < (t181.length : Int)
                            · rw [if_pos c58] at H
                              have c58b0 : decide (x104_4 < (t181.length : Int)) = true := decide_eq_true c58
                              clear c58
                              by_cases c59 : 0 ≤ x104_4
                              · rw [if_pos c59] at H
                                have c59b0 : decide (0 ≤ x104_4) = true := decide_eq_true c59
                                clear c59
                                by_cases c60 : x104_4 < (t181.length : Int)
                                · rw [if_pos c60] at H
                                  have c60b0 : decide (x104_4 < (t181.length : Int)) = true := decide_eq_true c60
                                  clear c60
                                  obtain ⟨ji61, hji61⟩ : ∃ j_ : Int, (wrap64 (8 * x104_4)) = j_ := ⟨_, rfl⟩
                                  replace H : (if 0 ≤ (ji61) then (if (ji61) ≤ (wrap64 ((ji61) + 8)) then (if (wrap64 ((ji61) + 8)) ≤ (l0.length : Int) then ((bastilleref01_Wide.f k4 ((l0.take ((wrap64 ((ji61) + 8)) : Int).toNat).drop ((ji61) : Int).toNat)).bind fun t201 => (if (rd t181 x104_4) = t201 then (bastillelaw01_WordLists.l1 k4 l0 t181 (t181.length : Int) (wrap64 (x104_4 + 1))) else (some false))) else (none)) else (none)) else (none)) = some r := by first | (rw [hji61] at H; exact H) | (simp only [hji61] at H ⊢; exact H)
                                  have hji61w : (IntKind.i64.wrap (8 * x104_4)) = ji61 := (i64_w _).trans hji61
                                  by_cases c62 : 0 ≤ (ji61)
                                  · rw [if_pos c62] at H
                                    have c62b0 := eq_true c62
                                    have c62b1 : decide (0 ≤ (ji61)) = true := decide_eq_true c62
                                    clear c62
                                    by_cases c63 : (ji61) ≤ (wrap64 ((ji61) + 8))
                                    · rw [if_pos c63] at H
                                      have c63b0 := eq_true c63
                                      have c63b1 : decide ((ji61) ≤ (wrap64 ((ji61) + 8))) = true := decide_eq_true c63
                                      by_cases c64 : (wrap64 ((ji61) + 8)) ≤ (l0.length : Int)
                                      · rw [if_pos c64] at H
                                        have c64b0 := eq_true c64
                                        have c64b1 : decide ((wrap64 ((ji61) + 8)) ≤ (l0.length : Int)) = true := decide_eq_true c64
                                        replace H := Option.bind_eq_some_iff.mp H
                                        obtain ⟨t201, A650, H⟩ := H
                                        replace H : (if (rd t181 x104_4) = t201 then (bastillelaw01_WordLists.l1 k4 l0 t181 (t181.length : Int) (wrap64 (x104_4 + 1))) else (some false)) = some r := H
                                        have A65 := Aside0.mk A650
                                        clear A650
                                        by_cases c66 : (rd t181 x104_4) = t201
                                        · rw [if_pos c66] at H
                                          have c66b0 : ((rd t181 x104_4) == t201) = true := beq_iff_eq.mpr c66
                                          have c66b1 : ((rd t181 x104_4) != t201) = false := bne_eq_false_iff_eq.mpr c66
                                          clear c66
                                          have H' := Aside0.mk H
                                          clear H
                                          have p199 : 0 ≤ (x104_4 : Int) := of_decide_eq_true (by first | (with_reducible assumption) | assumption)
                                          have q199 : x104_4 < (t181.length : Int) := of_decide_eq_true (by first | (with_reducible assumption) | assumption)
                                          obtain ⟨ad199, e199, hx199_0⟩ := Kd.at_int (Kd.R_reads' HO_102.out).2.2 x104_4 p199 q199
                                          cases e199
                                          replace p199 := eq_true p199
                                          replace q199 := eq_true q199
                                          obtain ⟨i067, hi067, _, hsz67, _⟩ := info_parts info5
                                          obtain ⟨A67, hcut67, hA67, hC67⟩ := print_mid_of (P := Try.prog) (Value.int .u8) 0 23 5 .i64 .i64 Try.underlying23 hi067 hsz67 A0 c0 l0 (ji61) (wrap64 ((ji61) + 8)) (of_decide_eq_true (by first | (with_reducible assumption) | assumption)) (by first | omega | exact of_decide_eq_true (by first | (with_reducible assumption) | assumption)) (of_decide_eq_true (by first | (with_reducible assumption) | assumption)) HC0.out
                                          have HR200 := Aside0.mk (Kd.C_of_reads (h1 := fun _ => rfl) (hA67 _ (Kd.reads_of_C HR0.out)))
                                          have HC200 := Aside0.mk hC67
                                          clear hA67 hC67 hi067 hsz67
                                          go_wp2_with (first | ((with_reducible refine gate_callee (f := 41) rfl ?_); refine goesL_ (some 117) rfl rfl Try.func41 (by kernel_rfl) rfl #[.slice A67 ((l0.take ((wrap64 ((ji61) + 8)) : Int).toNat).drop ((ji61) : Int).toNat).length (c0 - (ji61).toNat)] rfl (by (try simp only [List.map_toArray, List.map_cons, List.map_nil]); first | done | (rw [show ((l0.take ((wrap64 ((ji61) + 8)) : Int).toNat).drop ((ji61) : Int).toNat).length = ((wrap64 ((ji61) + 8)).toNat - (ji61).toNat) from (by rw [List.length_drop, List.length_take]; have h_ : ((wrap64 ((ji61) + 8)) : Int) ≤ (l0.length : Int) := of_decide_eq_true (by first | (with_reducible assumption) | assumption); omega)] <;> rfl) | (simp only [hji61]; rfl) | rfl | (simp only [List.length_drop, List.length_take]; rfl)) ?_; (with_reducible refine (bastilleref01_Wide.calls k4 _ _ ((l0.take ((wrap64 ((ji61) + 8)) : Int).toNat).drop ((ji61) : Int).toNat) t201 _ ?side1 ?side2 A65.out).mono ?_); (case side1 => repeat (first | exact (Kd.C_below HR200.out HB.out) | (with_reducible refine Kd.C_alloc ?_ _) | (with_reducible refine Kd.C_drewN ?_ _) | (with_reducible refine Kd.C_drew ?_))); (case side2 => exact HC200.out); rintro e w' ⟨rfl, ⟨nd, rfl⟩⟩; refine ⟨_, rfl, ?_⟩))
                                          go_roundg k4
                                          case measure => have := HJ7.out; have := HK2.out; have := HJ46.out; have := HK4.out; omega
                                          case rel => exact ⟨(wrap64 (x104_4 + 1)), (by first | rfl | (simp; done) | (simp [*]; done)), H', ⟨by have := HJ7.out; have := HK2.out; have := HJ46.out; have := HK4.out; omega⟩, ⟨by (with_reducible repeat (first | apply Kd.R_alloc | apply Kd.R_drewN | apply Kd.R_drew)); exact HO_102.out⟩, ⟨by repeat (first | (with_reducible first | exact HB.out | apply below_alloc | apply pw_below_drewN | apply below_drew1) | exact HB.out)⟩⟩
                                        · rw [if_neg c66] at H
                                          have c66b0 : ((rd t181 x104_4) == t201) = false := beq_eq_false_iff_ne.mpr c66
                                          have c66b1 : ((rd t181 x104_4) != t201) = true := bne_iff_ne.mpr c66
                                          obtain rfl := Option.some.inj H
                                          have p199 : 0 ≤ (x104_4 : Int) := of_decide_eq_true (by first | (with_reducible assumption) | assumption)
                                          have q199 : x104_4 < (t181.length : Int) := of_decide_eq_true (by first | (with_reducible assumption) | assumption)
                                          obtain ⟨ad199, e199, hx199_0⟩ := Kd.at_int (Kd.R_reads' HO_102.out).2.2 x104_4 p199 q199
                                          cases e199
                                          replace p199 := eq_true p199
                                          replace q199 := eq_true q199
                                          obtain ⟨i068, hi068, _, hsz68, _⟩ := info_parts info5
                                          obtain ⟨A68, hcut68, hA68, hC68⟩ := print_mid_of (P := Try.prog) (Value.int .u8) 0 23 5 .i64 .i64 Try.underlying23 hi068 hsz68 A0 c0 l0 (ji61) (wrap64 ((ji61) + 8)) (of_decide_eq_true (by first | (with_reducible assumption) | assumption)) (by first | omega | exact of_decide_eq_true (by first | (with_reducible assumption) | assumption)) (of_decide_eq_true (by first | (with_reducible assumption) | assumption)) HC0.out
                                          have HR200 := Aside0.mk (Kd.C_of_reads (h1 := fun _ => rfl) (hA68 _ (Kd.reads_of_C HR0.out)))
                                          have HC200 := Aside0.mk hC68
                                          clear hA68 hC68 hi068 hsz68
                                          go_wp2_with (first | ((with_reducible refine gate_callee (f := 41) rfl ?_); refine goesL_ (some 117) rfl rfl Try.func41 (by kernel_rfl) rfl #[.slice A68 ((l0.take ((wrap64 ((ji61) + 8)) : Int).toNat).drop ((ji61) : Int).toNat).length (c0 - (ji61).toNat)] rfl (by (try simp only [List.map_toArray, List.map_cons, List.map_nil]); first | done | (rw [show ((l0.take ((wrap64 ((ji61) + 8)) : Int).toNat).drop ((ji61) : Int).toNat).length = ((wrap64 ((ji61) + 8)).toNat - (ji61).toNat) from (by rw [List.length_drop, List.length_take]; have h_ : ((wrap64 ((ji61) + 8)) : Int) ≤ (l0.length : Int) := of_decide_eq_true (by first | (with_reducible assumption) | assumption); omega)] <;> rfl) | (simp only [hji61]; rfl) | rfl | (simp only [List.length_drop, List.length_take]; rfl)) ?_; (with_reducible refine (bastilleref01_Wide.calls k4 _ _ ((l0.take ((wrap64 ((ji61) + 8)) : Int).toNat).drop ((ji61) : Int).toNat) t201 _ ?side1 ?side2 A65.out).mono ?_); (case side1 => repeat (first | exact (Kd.C_below HR200.out HB.out) | (with_reducible refine Kd.C_alloc ?_ _) | (with_reducible refine Kd.C_drewN ?_ _) | (with_reducible refine Kd.C_drew ?_))); (case side2 => exact HC200.out); rintro e w' ⟨rfl, ⟨nd, rfl⟩⟩; refine ⟨_, rfl, ?_⟩))
                                          go_ret
                                          exact ⟨by first | rfl | (simp [errW_none, errW_some] <;> rfl) | (simp only [← hji61]; first | rfl | (simp [errW_none, errW_some] <;> rfl)) | (simp [*, errW_none, errW_some] <;> rfl), by repeat (first | (with_reducible first | exact HB.out | apply below_alloc | apply pw_below_drewN | apply below_drew1) | exact HB.out)⟩
                                      · rw [if_neg c64] at H
                                        exact absurd H (by simp)
                                    · rw [if_neg c63] at H
                                      exact absurd H (by simp)
                                  · rw [if_neg c62] at H
                                    exact absurd H (by simp)
                                · rw [if_neg c60] at H
                                  exact absurd H (by simp)
                              · rw [if_neg c59] at H
                                exact absurd H (by simp)
                            · rw [if_neg c58] at H
                              have c58b0 : decide (x104_4 < (t181.length : Int)) = false := decide_eq_false c58
                              clear c58
                              obtain rfl := Option.some.inj H
                              go_wp2
                              go_ret
                              exact ⟨by first | rfl | (simp [errW_none, errW_some] <;> rfl) | (simp [*, errW_none, errW_some] <;> rfl), by repeat (first | (with_reducible first | exact HB.out | apply below_alloc | apply pw_below_drewN | apply below_drew1) | exact HB.out)⟩
                · rw [if_neg c46] at H
                  have c46b0 : (((l0.length : Int) % 8) == 0) = false := beq_eq_false_iff_ne.mpr c46
                  have c46b1 : (((l0.length : Int) % 8) != 0) = true := bne_iff_ne.mpr c46
                  by_cases c69 : t184 = 2
                  · rw [if_pos c69] at H
                    have c69b0 : (t184 == 2) = true := beq_iff_eq.mpr c69
                    have c69b1 : (t184 != 2) = false := bne_eq_false_iff_eq.mpr c69
                    clear c69
                    obtain rfl := Option.some.inj H
                    obtain ⟨Ao70, co70, eo70⟩ := Kd.R_slice HO_5.out
                    subst eo70
                    go_wp2
                    go_ret
                    exact ⟨by first | rfl | (simp [errW_none, errW_some] <;> rfl) | (simp [*, errW_none, errW_some] <;> rfl), by repeat (first | (with_reducible first | exact HB.out | apply below_alloc | apply pw_below_drewN | apply below_drew1) | exact HB.out)⟩
                  · rw [if_neg c69] at H
                    have c69b0 : (t184 == 2) = false := beq_eq_false_iff_ne.mpr c69
                    have c69b1 : (t184 != 2) = true := bne_iff_ne.mpr c69
                    obtain rfl := Option.some.inj H
                    go_wp2
                    go_ret
                    exact ⟨by first | rfl | (simp [errW_none, errW_some] <;> rfl) | (simp [*, errW_none, errW_some] <;> rfl), by repeat (first | (with_reducible first | exact HB.out | apply below_alloc | apply pw_below_drewN | apply below_drew1) | exact HB.out)⟩
  · replace c3 := Bool.eq_false_iff.mpr c3
    subst c3
    have H1 : (some false) = some r := by rw [if_neg (show ¬ (false = true) by decide)] at H; exact H
    clear H
    have H := H1
    clear H1
    obtain rfl := Option.some.inj H
    go_enter Try.func9, Try.ntmps9
    go_wp2_with (first | ((with_reducible refine gate_callee (f := 14) rfl ?_); refine goesL_ (some 11) rfl rfl Try.func14 (by kernel_rfl) rfl #[] rfl (by (try simp only [List.map_toArray, List.map_cons, List.map_nil]); first | done | rfl | (simp only [List.length_drop, List.length_take]; rfl)) ?_; (with_reducible refine (bastillelaw01_awake.calls k  false _ A2.out).mono ?_); rintro e w71 ⟨rfl, hb⟩; refine ⟨_, rfl, ?_⟩; have n0_ := Aside0.mk (below_step (by repeat (first | (with_reducible first | exact HB.out | apply below_alloc | apply pw_below_drewN | apply below_drew1) | exact HB.out)) hb); clear HB; have HB := n0_; clear n0_; (try clear hb); (try clear hb2); (try clear hk); (try clear hi)))
    go_ret
    exact ⟨by first | rfl | (simp [errW_none, errW_some] <;> rfl) | (simp [*, errW_none, errW_some] <;> rfl), by repeat (first | (with_reducible first | exact HB.out | apply below_alloc | apply pw_below_drewN | apply below_drew1) | exact HB.out)⟩

/-- THE ONE PURE STATEMENT of bastillelaw01_WordLists: yours. -/
def bastillelaw01_WordLists.Pure : Prop := ∀ (l0 : List Int), l0.length ≤ maxLen → l0.length * 1 ≤ 140737488351232 → (∀ x ∈ l0, (Lit.int .u8 x).wf = true) → ∃ k, bastillelaw01_WordLists.f k l0 = some true
theorem bastillelaw01_WordLists.walk (P : bastillelaw01_WordLists.Pure) (a0 : Option Addr) (len0 cap0 : Nat) (z0 : List Int) (w : World) (w0 : (a0 = none ∧ len0 = 0 ∧ cap0 = 0 ∧ z0 = []) ∨ ∃ x, a0 = some x ∧ len0 ≤ cap0 ∧ cap0 ≤ maxLen ∧ z0.length = cap0 ∧ (∀ i, i < z0.length → w.cell? (x.add i) = some (.int .u8 (z0.getD i 0))) ∧ ∀ n ∈ z0, (Lit.int .u8 n).wf = true) (y0 : len0 * 1 ≤ 140737488351232) :
    Calls Try.prog 9 #[.slice a0 len0 cap0] w fun e w' => e = .returned (.bool true) ∧ Below w.heap.size w w' := by
  obtain ⟨l0, rfl, hr0, hm0, hw0, hc0⟩ := ReadsInt.ofRowC w0
  obtain ⟨k, h⟩ := P l0 hm0 y0 hw0
  refine (bastillelaw01_WordLists.calls k _ _ l0 true w (Kd.C_of_reads (d := (0 : Int)) (h1 := fun _ => rfl) hr0) hc0 h).mono ?_
  rintro e w' ⟨rfl, hd⟩
  exact ⟨rfl, hd⟩

end Go.Proofs.Ytealjhngfhlpaaa.PWordLists
