-- Written by drive.py of this work: the kit's print.py with contracts of this work laid in.
import Derived.Test.YtiibnfnjfmcggaaRows
import Derived.Test.YtiibnfnjfmcggaaPCodecFieldsg
import Derived.Test.YtiibnfnjfmcggaaPureCodecFields
import Derived.Test.YtiibnfnjfmcggaaOpens
import Derived.WalkKit
import Derived.ProofKit
import Derived.OpenShut
import Derived.ShutString
import Derived.ChangeOld
import Derived.Below
import Derived.SizedLaws
namespace Go.Proofs.Ytiibnfnjfmcggaa.codecFields
open Go.ChangeShapes Go.WideShapes Go.ChangeAt Go.RowKit Go.Proofs.Ytiibnfnjfmcggaa.PCodecFields Go.Proofs.Ytiibnfnjfmcggaa.Opens Go.Proofs.YtiibnfnjfmcggaaW.PrintWords
open Go.ChangeMaps (open_string shut_string)
set_option linter.unusedVariables false
set_option linter.unusedSimpArgs false
theorem own : ownKnob Try.prog.godebug = none := by kernel_rfl
theorem laidOut : laidOutB Try.prog = true := by kernel_rfl
theorem opens_T43 {H : Type} {enc : TypeId × Value → H} {w : World} {base : Nat} {spare : Nat → Bool} {held : Bool} (N : Nat) : Opens enc Try.prog w base spare held N 43 k43 g43 := by
  induction N using Nat.strongRecOn with
  | _ N ih =>
  refine opens_map (opens_struct Try.underlying43 (by kernel_rfl) (fun n_ hn_ => (opensF_cons rfl (by kernel_rfl) (opens_int Try.underlying3) (opensF_cons rfl (by kernel_rfl) (opens_int Try.underlying3) (opensF_cons rfl (by kernel_rfl) (opens_slice Try.underlying23 (by kernel_rfl) (fun m_ hm_ => (opens_int Try.underlying5))) (opensF_last rfl (by kernel_rfl) (opens_slice Try.underlying41 (by kernel_rfl) (fun m_ hm_ => (ih m_ (by omega)))))))))) ?_
  rintro ⟨y0, y1, y2, y3⟩ cs ⟨_, _, rfl, rfl, ⟨_, _, rfl, rfl, ⟨_, _, rfl, ⟨A2, c2, rfl, l2, h2⟩, ⟨A3, c3, rfl, l3, h3⟩⟩⟩⟩ ⟨q0, q1, ⟨q2, r2⟩, ⟨q3, r3⟩⟩
  exact ⟨⟨y0, y1, y2, y3⟩, k43_mk w ⟨y0, y1, y2, y3⟩ l2 h2 l3 h3, g43.mk ⟨y0, y1, y2, y3⟩ q0 q1 q2 r2 q3 r3⟩
set_option maxHeartbeats 4000000 in
set_option maxRecDepth 100000 in
theorem lifted (os : Os) (started : os.Started) (H : Type) (enc : TypeId × Value → H) :
    ReturnsInHanded {} Try.checked os 6 .any (Rows.codecFieldsSpec.pre6 enc Try.prog Try.f6 Rows.codecFieldsRow.domain false) (Rows.codecFieldsSpec.post enc Try.prog Try.f6 false true false false) := by
  refine returnsInHanded_of_change_sized (C := Try.checked) own started (by kernel_rfl) Try.func6
    (ChangeSpec.witness6 (enc := enc) (C := Try.checked) false ⟨#[], #[.agg #[.int .i64 0, .int .i64 0, .slice none 0 0, .slice none 0 0], .agg #[.int .i64 0, .int .i64 0, .slice none 0 0, .slice none 0 0], .slice none 0 0], []⟩ 8 (by kernel_rfl) (by kernel_rfl) (by kernel_rfl) (by kernel_rfl)) ?_
  intro W base args ds gs before hval0 hW hcnd hsz0 _
  have hsz : (DataW.weightsEach Try.prog (Try.f6.params.toList ++ Rows.codecFieldsSpec.plain.varTypes Try.prog) (ds ++ gs)).all (· ≤ reachBytes) = true := hsz0
  have hval : ∀ (j : Nat) t v, Try.f6.params[j]? = some t → args[j]? = some v → Value.okWide Try.prog W .any base t v := hval0
  have hW' := hW
  obtain ⟨p, q, hA0, hV, rfl, hfz, hnd⟩ := hW
  have hA : DataW.TrodAll enc Try.prog W 0 (fun _ => true) true Try.f6.params.toList args.toList ds p := hA0
  rw [Try.params6] at hA hval hsz
  obtain ⟨v0, vs0, d0, ds0, p0, q0, hargs, rfl, rfl, h0, r0⟩ := trodAll_cons hA
  obtain ⟨v1, vs1, d1, ds1, p1, q1, rfl, rfl, rfl, h1, r1⟩ := trodAll_cons r0
  obtain ⟨v2, vs2, d2, ds2, p2, q2, rfl, rfl, rfl, h2, r2⟩ := trodAll_cons r1
  obtain ⟨rfl, rfl, rfl⟩ := trodAll_nil r2
  obtain rfl : args = #[v0, v1, v2] := by cases args; simp_all
  obtain ⟨rfl, rfl⟩ := trodVars_none hV
  have k0 := h0
  have lt0 : ∀ x ∈ p0, x.block < W.heap.size := by obtain ⟨m, hm⟩ := k0; exact DataW.trod_lt m _ _ _ hm
  obtain ⟨cs0, rfl, hz0⟩ := okWide_struct Try.underlying43 (hval 0 43 v0 rfl rfl)
  obtain ⟨fu0, hf0⟩ := h0
  obtain ⟨y0, hK0, hG0⟩ := (opens_struct Try.underlying43 (by kernel_rfl) (fun _ _ => (opensF_cons rfl (by kernel_rfl) (opens_int Try.underlying3) (opensF_cons rfl (by kernel_rfl) (opens_int Try.underlying3) (opensF_cons rfl (by kernel_rfl) (opens_slice Try.underlying23 (by kernel_rfl) (fun m_ hm_ => (opens_int Try.underlying5))) (opensF_last rfl (by kernel_rfl) (opens_slice Try.underlying41 (by kernel_rfl) (fun m_ hm_ => (opens_T43 _)))))))) : Opens enc Try.prog W _ _ _ fu0 43 (Kd.pair (Kd.int .i64) (Kd.pair (Kd.int .i64) (Kd.pair (Kd.slice 5 (Kd.int .u8)) (Kd.slice 43 k43)))) _) fu0 (Nat.le_refl _) _ _ hf0
  obtain ⟨_, _, hcs0, rfl, ⟨_, _, rfl, rfl, ⟨_, _, rfl, ⟨A0_2, c0_2, rfl, hl0_2, hC0_2⟩, ⟨A0_3, c0_3, rfl, hl0_3, hC0_3⟩⟩⟩⟩ := hK0
  obtain ⟨hG0_0, hG0_1, hG0_2, hG0_3⟩ := hG0
  obtain rfl : cs0 = #[.int .i64 y0.1, .int .i64 y0.2.1, .slice A0_2 y0.2.2.1.length c0_2, .slice A0_3 y0.2.2.2.length c0_3] := by cases cs0; simpa [Value.cells] using hcs0
  have k1 := h1
  have lt1 : ∀ x ∈ p1, x.block < W.heap.size := by obtain ⟨m, hm⟩ := k1; exact DataW.trod_lt m _ _ _ hm
  obtain ⟨cs1, rfl, hz1⟩ := okWide_struct Try.underlying43 (hval 1 43 v1 rfl rfl)
  obtain ⟨fu1, hf1⟩ := h1
  obtain ⟨y1, hK1, hG1⟩ := (opens_struct Try.underlying43 (by kernel_rfl) (fun _ _ => (opensF_cons rfl (by kernel_rfl) (opens_int Try.underlying3) (opensF_cons rfl (by kernel_rfl) (opens_int Try.underlying3) (opensF_cons rfl (by kernel_rfl) (opens_slice Try.underlying23 (by kernel_rfl) (fun m_ hm_ => (opens_int Try.underlying5))) (opensF_last rfl (by kernel_rfl) (opens_slice Try.underlying41 (by kernel_rfl) (fun m_ hm_ => (opens_T43 _)))))))) : Opens enc Try.prog W _ _ _ fu1 43 (Kd.pair (Kd.int .i64) (Kd.pair (Kd.int .i64) (Kd.pair (Kd.slice 5 (Kd.int .u8)) (Kd.slice 43 k43)))) _) fu1 (Nat.le_refl _) _ _ hf1
  obtain ⟨_, _, hcs1, rfl, ⟨_, _, rfl, rfl, ⟨_, _, rfl, ⟨A1_2, c1_2, rfl, hl1_2, hC1_2⟩, ⟨A1_3, c1_3, rfl, hl1_3, hC1_3⟩⟩⟩⟩ := hK1
  obtain ⟨hG1_0, hG1_1, hG1_2, hG1_3⟩ := hG1
  obtain rfl : cs1 = #[.int .i64 y1.1, .int .i64 y1.2.1, .slice A1_2 y1.2.2.1.length c1_2, .slice A1_3 y1.2.2.2.length c1_3] := by cases cs1; simpa [Value.cells] using hcs1
  have k2 := h2
  have lt2 : ∀ x ∈ p2, x.block < W.heap.size := by obtain ⟨m, hm⟩ := k2; exact DataW.trod_lt m _ _ _ hm
  obtain ⟨a2, len2, cap2, rfl⟩ := okWide_slice Try.underlying50 (hval 2 50 v2 rfl rfl)
  obtain ⟨fu2, hf2⟩ := h2
  obtain ⟨y2, ⟨A2, c2, hcs2, hl2, hC2⟩, hG2⟩ := ((opens_slice Try.underlying50 (by kernel_rfl) (fun m_ hm_ => (opens_int Try.underlying3))) : Opens enc Try.prog W _ _ _ fu2 50 (Kd.slice 3 (Kd.int .i64)) _) fu2 (Nat.le_refl _) _ _ hf2
  simp [Value.cells] at hcs2
  obtain ⟨rfl, rfl, rfl⟩ := hcs2
  obtain ⟨k, hk⟩ := Pure.CodecFields (y0.1) (y0.2.1) (y0.2.2.1) (y0.2.2.2) (y1.1) (y1.2.1) (y1.2.2.1) (y1.2.2.2) y2 hG0_0 hG0_1 hG0_2 hG0_3 hG1_0 hG1_1 hG1_2 hG1_3 hG2
  clear hA0 hval0 hsz0 hsz
  refine (bastillelaw02_CodecFields.calls k (y0.1) (y0.2.1) _ _ (y0.2.2.1) _ _ (y0.2.2.2) (y1.1) (y1.2.1) _ _ (y1.2.2.1) _ _ (y1.2.2.2) _ _ y2 true W hC0_2 hl0_2 hC0_3 hl0_3 hC1_2 hl1_2 hC1_3 hl1_3 hC2 hl2 hk).mono fun e W' ⟨he, bel0⟩ => ?_
  have bel := bel0
  subst he
  exact ⟨_, rfl, _, _, _, [], _, [], hW', trodAll_mk1 (shut_bool Try.underlying4 _), (trodAll_cons_mk (Below.trod laidOut (by kernel_rfl) (of_decide_eq_true (by kernel_rfl)) k0 bel lt0) (trodAll_cons_mk (Below.trod laidOut (by kernel_rfl) (of_decide_eq_true (by kernel_rfl)) k1 bel lt1) (trodAll_cons_mk (Below.trod laidOut (by kernel_rfl) (of_decide_eq_true (by kernel_rfl)) k2 bel lt2) trodAll_mk0))), rfl, bel.frame _, fun h => by cases h⟩
theorem over : Rows.codecFieldsRow.holds Try.pinned (OpenSpec.ofChange Rows.codecFieldsSpec) :=
  OpenClaim.holds_of_wide 6 Try.f6 rfl rfl rfl rfl rfl rfl rfl ⟨rfl, rfl, rfl, rfl, rfl⟩ rfl rfl rfl rfl rfl (by kernel_rfl) Try.func6 (by kernel_rfl)
    (of_decide_eq_true (by kernel_rfl)) (by unfold Func.isWrapper; first | (rw [if_pos (by decide +kernel)]; kernel_rfl) | (rw [if_neg (by decide +kernel)]; exact ⟨rfl, rfl⟩))
    (fun os started H enc _ => lifted os started H enc)
theorem proved : Rows.CodecFieldsSaid := over
#print axioms proved
end Go.Proofs.Ytiibnfnjfmcggaa.codecFields
namespace Go.Proofs.Ytiibnfnjfmcggaa
/-- The row, under a short name, for the claim. -/
theorem codecFields_holds : Rows.CodecFieldsSaid := codecFields.proved
end Go.Proofs.Ytiibnfnjfmcggaa
