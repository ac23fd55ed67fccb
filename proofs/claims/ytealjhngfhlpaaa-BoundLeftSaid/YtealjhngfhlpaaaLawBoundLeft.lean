-- Written by drive.py of this work: the kit's print.py with contracts of this work laid in.
import Derived.Test.YtealjhngfhlpaaaRows
import Derived.Test.YtealjhngfhlpaaaPBoundLeftg
import Derived.Test.YtealjhngfhlpaaaPureBoundLeft
import Derived.Test.YtealjhngfhlpaaaSizes
import Derived.WalkKit
import Derived.ProofKit
import Derived.OpenShut
import Derived.ShutString
import Derived.ChangeOld
import Derived.Below
import Derived.SizedLaws
namespace Go.Proofs.Ytealjhngfhlpaaa.boundLeft
open Go.ChangeShapes Go.WideShapes Go.ChangeAt Go.RowKit Go.Proofs.Ytealjhngfhlpaaa.PBoundLeft Go.Proofs.Ytealjhngfhlpaaa.Sizes Go.Proofs.YtealjhngfhlpaaaW.PrintWords
open Go.ChangeMaps (open_string shut_string)
set_option linter.unusedVariables false
set_option linter.unusedSimpArgs false
theorem own : ownKnob Try.prog.godebug = none := by kernel_rfl
theorem laidOut : laidOutB Try.prog = true := by kernel_rfl
theorem opens_T101 {H : Type} {enc : TypeId × Value → H} {w : World} {base : Nat} {spare : Nat → Bool} {held : Bool} {N : Nat} : Opens enc Try.prog w base spare held N 101 k101 g101 :=
  opens_iso (fun y => ⟨y.1, y.2⟩) (fun _ => rfl) (opens_struct Try.underlying101 (by kernel_rfl) (fun _ _ => (opensF_cons rfl (by kernel_rfl) (opens_string Try.underlying9) (opensF_last rfl (by kernel_rfl) (opens_bool Try.underlying4)))))
theorem opens_T103 {H : Type} {enc : TypeId × Value → H} {w : World} {base : Nat} {spare : Nat → Bool} {held : Bool} {N : Nat} : Opens enc Try.prog w base spare held N 103 k103 g103 :=
  opens_iso (fun y => ⟨y.1, y.2⟩) (fun _ => rfl) (opens_struct Try.underlying103 (by kernel_rfl) (fun _ _ => (opensF_cons rfl (by kernel_rfl) (opens_string Try.underlying9) (opensF_last rfl (by kernel_rfl) (opens_string Try.underlying9)))))
theorem opens_T133 {H : Type} {enc : TypeId × Value → H} {w : World} {base : Nat} {spare : Nat → Bool} {held : Bool} {N : Nat} : Opens enc Try.prog w base spare held N 133 k133 g133 :=
  opens_iso (fun y => ⟨y.1, y.2⟩) (fun _ => rfl) (opens_struct Try.underlying133 (by kernel_rfl) (fun _ _ => (opensF_cons rfl (by kernel_rfl) (opens_string Try.underlying9) (opensF_last rfl (by kernel_rfl) (opens_int Try.underlying3)))))
theorem opens_T113 {H : Type} {enc : TypeId × Value → H} {w : World} {base : Nat} {spare : Nat → Bool} {held : Bool} {N : Nat} : Opens enc Try.prog w base spare held N 113 k113 g113 :=
  opens_iso (fun y => ⟨y.1, y.2.1, y.2.2.1, y.2.2.2.1, y.2.2.2.2.1, y.2.2.2.2.2.1, y.2.2.2.2.2.2.1, y.2.2.2.2.2.2.2⟩) (fun _ => rfl) (opens_struct Try.underlying113 (by kernel_rfl) (fun _ _ => (opensF_cons rfl (by kernel_rfl) (opens_string Try.underlying9) (opensF_cons rfl (by kernel_rfl) (opens_int Try.underlying3) (opensF_cons rfl (by kernel_rfl) (opens_slice Try.underlying23 (by kernel_rfl) (by kernel_rfl) (fun m_ hm_ => (opens_int Try.underlying5))) (opensF_cons rfl (by kernel_rfl) (opens_string Try.underlying9) (opensF_cons rfl (by kernel_rfl) (opens_slice Try.underlying111 (by kernel_rfl) (by kernel_rfl) (fun m_ hm_ => opens_T133)) (opensF_cons rfl (by kernel_rfl) (opens_int Try.underlying3) (opensF_cons rfl (by kernel_rfl) (opens_bool Try.underlying4) (opensF_last rfl (by kernel_rfl) (opens_string Try.underlying9)))))))))))
theorem opens_T135 {H : Type} {enc : TypeId × Value → H} {w : World} {base : Nat} {spare : Nat → Bool} {held : Bool} {N : Nat} : Opens enc Try.prog w base spare held N 135 k135 g135 :=
  opens_iso (fun y => ⟨y.1, y.2⟩) (fun _ => rfl) (opens_struct Try.underlying135 (by kernel_rfl) (fun _ _ => (opensF_cons rfl (by kernel_rfl) (opens_string Try.underlying9) (opensF_last rfl (by kernel_rfl) (opens_int Try.underlying3)))))
theorem opens_T116 {H : Type} {enc : TypeId × Value → H} {w : World} {base : Nat} {spare : Nat → Bool} {held : Bool} {N : Nat} : Opens enc Try.prog w base spare held N 116 k116 g116 :=
  opens_iso (fun y => ⟨y.1, y.2.1, y.2.2.1, y.2.2.2.1, y.2.2.2.2⟩) (fun _ => rfl) (opens_struct Try.underlying116 (by kernel_rfl) (fun _ _ => (opensF_cons rfl (by kernel_rfl) (opens_int Try.underlying3) (opensF_cons rfl (by kernel_rfl) (opens_int Try.underlying3) (opensF_cons rfl (by kernel_rfl) (opens_int Try.underlying3) (opensF_cons rfl (by kernel_rfl) (opens_slice Try.underlying114 (by kernel_rfl) (by kernel_rfl) (fun m_ hm_ => opens_T135)) (opensF_last rfl (by kernel_rfl) (opens_string Try.underlying9))))))))
theorem opens_T167 {H : Type} {enc : TypeId × Value → H} {w : World} {base : Nat} {spare : Nat → Bool} {held : Bool} {N : Nat} : Opens enc Try.prog w base spare held N 167 k167 g167 :=
  opens_iso (fun y => ⟨y.1, y.2.1, y.2.2.1, y.2.2.2⟩) (fun _ => rfl) (opens_struct Try.underlying167 (by kernel_rfl) (fun _ _ => (opensF_cons rfl (by kernel_rfl) (opens_int Try.underlying3) (opensF_cons rfl (by kernel_rfl) (opens_bool Try.underlying4) (opensF_cons rfl (by kernel_rfl) (opens_string Try.underlying9) (opensF_last rfl (by kernel_rfl) (opens_slice Try.underlying23 (by kernel_rfl) (by kernel_rfl) (fun m_ hm_ => (opens_int Try.underlying5)))))))))
theorem opens_T108 {H : Type} {enc : TypeId × Value → H} {w : World} {base : Nat} {spare : Nat → Bool} {held : Bool} {N : Nat} : Opens enc Try.prog w base spare held N 108 k108 g108 :=
  opens_iso (fun y => ⟨y.1, y.2⟩) (fun _ => rfl) (opens_struct Try.underlying108 (by kernel_rfl) (fun _ _ => (opensF_cons rfl (by kernel_rfl) (opens_string Try.underlying9) (opensF_last rfl (by kernel_rfl) (opens_slice Try.underlying106 (by kernel_rfl) (by kernel_rfl) (fun m_ hm_ => opens_T167))))))
theorem opens_T137 {H : Type} {enc : TypeId × Value → H} {w : World} {base : Nat} {spare : Nat → Bool} {held : Bool} {N : Nat} : Opens enc Try.prog w base spare held N 137 k137 g137 :=
  opens_iso (fun y => ⟨y.1, y.2.1, y.2.2⟩) (fun _ => rfl) (opens_struct Try.underlying137 (by kernel_rfl) (fun _ _ => (opensF_cons rfl (by kernel_rfl) (opens_string Try.underlying9) (opensF_cons rfl (by kernel_rfl) (opens_int Try.underlying3) (opensF_last rfl (by kernel_rfl) (opens_bool Try.underlying4))))))
theorem opens_T139 {H : Type} {enc : TypeId × Value → H} {w : World} {base : Nat} {spare : Nat → Bool} {held : Bool} {N : Nat} : Opens enc Try.prog w base spare held N 139 k139 g139 :=
  opens_iso (fun y => ⟨y.1, y.2.1, y.2.2⟩) (fun _ => rfl) (opens_struct Try.underlying139 (by kernel_rfl) (fun _ _ => (opensF_cons rfl (by kernel_rfl) (opens_int Try.underlying3) (opensF_cons rfl (by kernel_rfl) (opens_string Try.underlying9) (opensF_last rfl (by kernel_rfl) (opens_int Try.underlying3))))))
theorem opens_T45 {H : Type} {enc : TypeId × Value → H} {w : World} {base : Nat} {spare : Nat → Bool} {held : Bool} {N : Nat} : Opens enc Try.prog w base spare held N 45 k45 g45 :=
  opens_iso (fun y => ⟨y.1, y.2.1, y.2.2.1, y.2.2.2.1, y.2.2.2.2.1, y.2.2.2.2.2.1, y.2.2.2.2.2.2⟩) (fun _ => rfl) (opens_struct Try.underlying45 (by kernel_rfl) (fun _ _ => (opensF_cons rfl (by kernel_rfl) (opens_string Try.underlying9) (opensF_cons rfl (by kernel_rfl) (opens_int Try.underlying3) (opensF_cons rfl (by kernel_rfl) (opens_slice Try.underlying39 (by kernel_rfl) (by kernel_rfl) (fun m_ hm_ => opens_T113)) (opensF_cons rfl (by kernel_rfl) (opens_slice Try.underlying40 (by kernel_rfl) (by kernel_rfl) (fun m_ hm_ => opens_T116)) (opensF_cons rfl (by kernel_rfl) (opens_slice Try.underlying41 (by kernel_rfl) (by kernel_rfl) (fun m_ hm_ => opens_T108)) (opensF_cons rfl (by kernel_rfl) (opens_slice Try.underlying42 (by kernel_rfl) (by kernel_rfl) (fun m_ hm_ => opens_T137)) (opensF_last rfl (by kernel_rfl) (opens_slice Try.underlying43 (by kernel_rfl) (by kernel_rfl) (fun m_ hm_ => opens_T139)))))))))))
set_option maxHeartbeats 4000000 in
set_option maxRecDepth 100000 in
theorem lifted (os : Os) (started : os.Started) (H : Type) (enc : TypeId × Value → H) :
    ReturnsInHanded {} Try.checked os 4 .any (Rows.boundLeftSpec.pre6 enc Try.prog Try.f4 Rows.boundLeftRow.domain false) (Rows.boundLeftSpec.post enc Try.prog Try.f4 false true false false) := by
  refine returnsInHanded_of_change_sized (C := Try.checked) own started (by kernel_rfl) Try.func4
    (ChangeSpec.witness6 (enc := enc) (C := Try.checked) false ⟨#[], #[.agg #[.int .i64 0, .slice none 0 0, .slice none 0 0, .slice none 0 0], .int .u32 0, .int .u16 0], []⟩ 8 (by kernel_rfl) (by kernel_rfl) (by kernel_rfl) (by kernel_rfl)) ?_
  intro W base args ds gs before hval0 hW hcnd hsz0 _
  have hsz : (DataW.weightsEach Try.prog (Try.f4.params.toList ++ Rows.boundLeftSpec.plain.varTypes Try.prog) (ds ++ gs)).all (· ≤ reachBytes) = true := hsz0
  have hval : ∀ (j : Nat) t v, Try.f4.params[j]? = some t → args[j]? = some v → Value.okWide Try.prog W .any base t v := hval0
  have hW' := hW
  obtain ⟨p, q, hA0, hV, rfl, hfz, hnd⟩ := hW
  have hA : DataW.TrodAll enc Try.prog W 0 (fun _ => true) true Try.f4.params.toList args.toList ds p := hA0
  rw [Try.params4] at hA hval hsz
  obtain ⟨v0, vs0, d0, ds0, p0, q0, hargs, rfl, rfl, h0, r0⟩ := trodAll_cons hA
  obtain ⟨v1, vs1, d1, ds1, p1, q1, rfl, rfl, rfl, h1, r1⟩ := trodAll_cons r0
  obtain ⟨v2, vs2, d2, ds2, p2, q2, rfl, rfl, rfl, h2, r2⟩ := trodAll_cons r1
  obtain ⟨rfl, rfl, rfl⟩ := trodAll_nil r2
  obtain rfl : args = #[v0, v1, v2] := by cases args; simp_all
  obtain ⟨rfl, rfl⟩ := trodVars_none hV
  have k0 := h0
  have lt0 : ∀ x ∈ p0, x.block < W.heap.size := by obtain ⟨m, hm⟩ := k0; exact DataW.trod_lt m _ _ _ hm
  obtain ⟨cs0, rfl, hz0⟩ := okWide_struct Try.underlying35 (hval 0 35 v0 rfl rfl)
  obtain ⟨fu0, hf0⟩ := h0
  obtain ⟨y0, hK0, hG0⟩ := (opens_struct Try.underlying35 (by kernel_rfl) (fun _ _ => (opensF_cons rfl (by kernel_rfl) (opens_int Try.underlying3) (opensF_cons rfl (by kernel_rfl) (opens_slice Try.underlying31 (by kernel_rfl) (by kernel_rfl) (fun m_ hm_ => opens_T101)) (opensF_cons rfl (by kernel_rfl) (opens_slice Try.underlying32 (by kernel_rfl) (by kernel_rfl) (fun m_ hm_ => opens_T103)) (opensF_last rfl (by kernel_rfl) (opens_slice Try.underlying33 (by kernel_rfl) (by kernel_rfl) (fun m_ hm_ => opens_T45))))))) : Opens enc Try.prog W _ _ _ fu0 35 (Kd.pair (Kd.int .i64) (Kd.pair (Kd.slice 101 k101) (Kd.pair (Kd.slice 103 k103) (Kd.slice 45 k45)))) _) fu0 (Nat.le_refl _) _ _ hf0 (lite_of hsz (j := 0) rfl rfl)
  obtain ⟨_, _, hcs0, rfl, ⟨_, _, rfl, ⟨A0_1, c0_1, rfl, hl0_1, hC0_1⟩, ⟨_, _, rfl, ⟨A0_2, c0_2, rfl, hl0_2, hC0_2⟩, ⟨A0_3, c0_3, rfl, hl0_3, hC0_3⟩⟩⟩⟩ := hK0
  obtain ⟨hG0_0, hG0_1, hG0_2, hG0_3⟩ := hG0
  obtain rfl : cs0 = #[.int .i64 y0.1, .slice A0_1 y0.2.1.length c0_1, .slice A0_2 y0.2.2.1.length c0_2, .slice A0_3 y0.2.2.2.length c0_3] := by cases cs0; simpa [Value.cells] using hcs0
  obtain ⟨a1, rfl, rfl, rfl, w1⟩ := open_int Try.underlying36 (hval 1 36 v1 rfl rfl) h1
  obtain ⟨a2, rfl, rfl, rfl, w2⟩ := open_int Try.underlying37 (hval 2 37 v2 rfl rfl) h2
  obtain ⟨k, hk⟩ := Pure.BoundLeft (y0.1) (y0.2.1) (y0.2.2.1) (y0.2.2.2) a1 a2 hG0_0 hG0_1 hG0_2 hG0_3 w1 w2
  clear hA0 hval0 hsz0 hsz
  refine (bastillelaw33_BoundLeft.calls k (y0.1) _ _ (y0.2.1) _ _ (y0.2.2.1) _ _ (y0.2.2.2) a1 a2 true W hC0_1 hl0_1 hC0_2 hl0_2 hC0_3 hl0_3 hk).mono fun e W' ⟨he, bel0⟩ => ?_
  have bel := bel0
  subst he
  exact ⟨_, rfl, _, _, _, [], _, [], hW', trodAll_mk1 (shut_bool Try.underlying4 _), (trodAll_cons_mk (Below.trod laidOut (by kernel_rfl) (of_decide_eq_true (by kernel_rfl)) k0 bel lt0) (trodAll_cons_mk (shut_int Try.underlying36 w1) (trodAll_cons_mk (shut_int Try.underlying37 w2) trodAll_mk0))), rfl, bel.frame _, fun h => by cases h⟩
theorem over : Rows.boundLeftRow.holds Try.pinned (OpenSpec.ofChange Rows.boundLeftSpec) :=
  OpenClaim.holds_of_wide 4 Try.f4 rfl rfl rfl rfl rfl rfl rfl ⟨rfl, rfl, rfl, rfl, rfl⟩ rfl rfl rfl rfl rfl (by kernel_rfl) Try.func4 (by kernel_rfl)
    (of_decide_eq_true (by kernel_rfl)) (by unfold Func.isWrapper; first | (rw [if_pos (by decide +kernel)]; kernel_rfl) | (rw [if_neg (by decide +kernel)]; exact ⟨rfl, rfl⟩))
    (fun os started H enc _ => lifted os started H enc)
theorem proved : Rows.BoundLeftSaid := over
#print axioms proved
end Go.Proofs.Ytealjhngfhlpaaa.boundLeft
namespace Go.Proofs.Ytealjhngfhlpaaa
/-- The row, under a short name, for the claim. -/
theorem boundLeft_holds : Rows.BoundLeftSaid := boundLeft.proved
end Go.Proofs.Ytealjhngfhlpaaa
