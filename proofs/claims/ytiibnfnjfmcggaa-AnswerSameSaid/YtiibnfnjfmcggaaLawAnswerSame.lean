-- Written by drive.py of this work: the kit's print.py with contracts of this work laid in.
import Derived.Test.YtiibnfnjfmcggaaRows
import Derived.Test.YtiibnfnjfmcggaaPAnswerSameg
import Derived.Test.YtiibnfnjfmcggaaPureAnswerSame
import Derived.Test.YtiibnfnjfmcggaaOpens
import Derived.WalkKit
import Derived.ProofKit
import Derived.OpenShut
import Derived.ShutString
import Derived.ChangeOld
import Derived.Below
import Derived.SizedLaws
namespace Go.Proofs.Ytiibnfnjfmcggaa.answerSame
open Go.ChangeShapes Go.WideShapes Go.ChangeAt Go.RowKit Go.Proofs.Ytiibnfnjfmcggaa.PAnswerSame Go.Proofs.Ytiibnfnjfmcggaa.Opens Go.Proofs.YtiibnfnjfmcggaaW.PrintWords
open Go.ChangeMaps (open_string shut_string)
set_option linter.unusedVariables false
set_option linter.unusedSimpArgs false
theorem own : ownKnob Try.prog.godebug = none := by kernel_rfl
theorem laidOut : laidOutB Try.prog = true := by kernel_rfl
theorem opens_T62 {H : Type} {enc : TypeId × Value → H} {w : World} {base : Nat} {spare : Nat → Bool} {held : Bool} {N : Nat} : Opens enc Try.prog w base spare held N 62 k62 g62 :=
  opens_iso (fun y => ⟨y.1, y.2⟩) (fun _ => rfl) (opens_struct Try.underlying62 (by kernel_rfl) (fun _ _ => (opensF_cons rfl (by kernel_rfl) (opens_string Try.underlying9) (opensF_last rfl (by kernel_rfl) (opens_int Try.underlying3)))))
theorem opens_T64 {H : Type} {enc : TypeId × Value → H} {w : World} {base : Nat} {spare : Nat → Bool} {held : Bool} {N : Nat} : Opens enc Try.prog w base spare held N 64 k64 g64 :=
  opens_iso (fun y => ⟨y.1, y.2.1, y.2.2.1, y.2.2.2⟩) (fun _ => rfl) (opens_struct Try.underlying64 (by kernel_rfl) (fun _ _ => (opensF_cons rfl (by kernel_rfl) (opens_int Try.underlying3) (opensF_cons rfl (by kernel_rfl) (opens_int Try.underlying3) (opensF_cons rfl (by kernel_rfl) (opens_bool Try.underlying4) (opensF_last rfl (by kernel_rfl) (opens_string Try.underlying9)))))))
set_option maxHeartbeats 4000000 in
set_option maxRecDepth 100000 in
theorem lifted (os : Os) (started : os.Started) (H : Type) (enc : TypeId × Value → H) :
    ReturnsInHanded {} Try.checked os 7 .any (Rows.answerSameSpec.pre6 enc Try.prog Try.f7 Rows.answerSameRow.domain false) (Rows.answerSameSpec.post enc Try.prog Try.f7 false true false false) := by
  refine returnsInHanded_of_change_sized (C := Try.checked) own started (by kernel_rfl) Try.func7
    (ChangeSpec.witness6 (enc := enc) (C := Try.checked) false ⟨#[], #[.agg #[.int .i64 0, .int .i64 0, .string ByteArray.empty, .slice none 0 0, .slice none 0 0, .slice none 0 0, .slice none 0 0], .agg #[.int .i64 0, .int .i64 0, .string ByteArray.empty, .slice none 0 0, .slice none 0 0, .slice none 0 0, .slice none 0 0]], []⟩ 8 (by kernel_rfl) (by kernel_rfl) (by kernel_rfl) (by kernel_rfl)) ?_
  intro W base args ds gs before hval0 hW hcnd hsz0 _
  have hsz : (DataW.weightsEach Try.prog (Try.f7.params.toList ++ Rows.answerSameSpec.plain.varTypes Try.prog) (ds ++ gs)).all (· ≤ reachBytes) = true := hsz0
  have hval : ∀ (j : Nat) t v, Try.f7.params[j]? = some t → args[j]? = some v → Value.okWide Try.prog W .any base t v := hval0
  have hW' := hW
  obtain ⟨p, q, hA0, hV, rfl, hfz, hnd⟩ := hW
  have hA : DataW.TrodAll enc Try.prog W 0 (fun _ => true) true Try.f7.params.toList args.toList ds p := hA0
  rw [Try.params7] at hA hval hsz
  obtain ⟨v0, vs0, d0, ds0, p0, q0, hargs, rfl, rfl, h0, r0⟩ := trodAll_cons hA
  obtain ⟨v1, vs1, d1, ds1, p1, q1, rfl, rfl, rfl, h1, r1⟩ := trodAll_cons r0
  obtain ⟨rfl, rfl, rfl⟩ := trodAll_nil r1
  obtain rfl : args = #[v0, v1] := by cases args; simp_all
  obtain ⟨rfl, rfl⟩ := trodVars_none hV
  have k0 := h0
  have lt0 : ∀ x ∈ p0, x.block < W.heap.size := by obtain ⟨m, hm⟩ := k0; exact DataW.trod_lt m _ _ _ hm
  obtain ⟨cs0, rfl, hz0⟩ := okWide_struct Try.underlying28 (hval 0 28 v0 rfl rfl)
  obtain ⟨fu0, hf0⟩ := h0
  obtain ⟨y0, hK0, hG0⟩ := (opens_struct Try.underlying28 (by kernel_rfl) (fun _ _ => (opensF_cons rfl (by kernel_rfl) (opens_int Try.underlying22) (opensF_cons rfl (by kernel_rfl) (opens_int Try.underlying3) (opensF_cons rfl (by kernel_rfl) (opens_string Try.underlying9) (opensF_cons rfl (by kernel_rfl) (opens_slice Try.underlying23 (by kernel_rfl) (fun m_ hm_ => (opens_int Try.underlying5))) (opensF_cons rfl (by kernel_rfl) (opens_slice Try.underlying24 (by kernel_rfl) (fun m_ hm_ => (opens_string Try.underlying9))) (opensF_cons rfl (by kernel_rfl) (opens_slice Try.underlying25 (by kernel_rfl) (fun m_ hm_ => opens_T62)) (opensF_last rfl (by kernel_rfl) (opens_slice Try.underlying26 (by kernel_rfl) (fun m_ hm_ => opens_T64)))))))))) : Opens enc Try.prog W _ _ _ fu0 28 (Kd.pair (Kd.int .i64) (Kd.pair (Kd.int .i64) (Kd.pair Kd.string (Kd.pair (Kd.slice 5 (Kd.int .u8)) (Kd.pair (Kd.slice 9 Kd.string) (Kd.pair (Kd.slice 62 k62) (Kd.slice 64 k64))))))) _) fu0 (Nat.le_refl _) _ _ hf0
  obtain ⟨_, _, hcs0, rfl, ⟨_, _, rfl, rfl, ⟨_, _, rfl, rfl, ⟨_, _, rfl, ⟨A0_3, c0_3, rfl, hl0_3, hC0_3⟩, ⟨_, _, rfl, ⟨A0_4, c0_4, rfl, hl0_4, hC0_4⟩, ⟨_, _, rfl, ⟨A0_5, c0_5, rfl, hl0_5, hC0_5⟩, ⟨A0_6, c0_6, rfl, hl0_6, hC0_6⟩⟩⟩⟩⟩⟩⟩ := hK0
  obtain ⟨hG0_0, hG0_1, hG0_2, hG0_3, hG0_4, hG0_5, hG0_6⟩ := hG0
  obtain rfl : cs0 = #[.int .i64 y0.1, .int .i64 y0.2.1, .string y0.2.2.1, .slice A0_3 y0.2.2.2.1.length c0_3, .slice A0_4 y0.2.2.2.2.1.length c0_4, .slice A0_5 y0.2.2.2.2.2.1.length c0_5, .slice A0_6 y0.2.2.2.2.2.2.length c0_6] := by cases cs0; simpa [Value.cells] using hcs0
  have k1 := h1
  have lt1 : ∀ x ∈ p1, x.block < W.heap.size := by obtain ⟨m, hm⟩ := k1; exact DataW.trod_lt m _ _ _ hm
  obtain ⟨cs1, rfl, hz1⟩ := okWide_struct Try.underlying28 (hval 1 28 v1 rfl rfl)
  obtain ⟨fu1, hf1⟩ := h1
  obtain ⟨y1, hK1, hG1⟩ := (opens_struct Try.underlying28 (by kernel_rfl) (fun _ _ => (opensF_cons rfl (by kernel_rfl) (opens_int Try.underlying22) (opensF_cons rfl (by kernel_rfl) (opens_int Try.underlying3) (opensF_cons rfl (by kernel_rfl) (opens_string Try.underlying9) (opensF_cons rfl (by kernel_rfl) (opens_slice Try.underlying23 (by kernel_rfl) (fun m_ hm_ => (opens_int Try.underlying5))) (opensF_cons rfl (by kernel_rfl) (opens_slice Try.underlying24 (by kernel_rfl) (fun m_ hm_ => (opens_string Try.underlying9))) (opensF_cons rfl (by kernel_rfl) (opens_slice Try.underlying25 (by kernel_rfl) (fun m_ hm_ => opens_T62)) (opensF_last rfl (by kernel_rfl) (opens_slice Try.underlying26 (by kernel_rfl) (fun m_ hm_ => opens_T64)))))))))) : Opens enc Try.prog W _ _ _ fu1 28 (Kd.pair (Kd.int .i64) (Kd.pair (Kd.int .i64) (Kd.pair Kd.string (Kd.pair (Kd.slice 5 (Kd.int .u8)) (Kd.pair (Kd.slice 9 Kd.string) (Kd.pair (Kd.slice 62 k62) (Kd.slice 64 k64))))))) _) fu1 (Nat.le_refl _) _ _ hf1
  obtain ⟨_, _, hcs1, rfl, ⟨_, _, rfl, rfl, ⟨_, _, rfl, rfl, ⟨_, _, rfl, ⟨A1_3, c1_3, rfl, hl1_3, hC1_3⟩, ⟨_, _, rfl, ⟨A1_4, c1_4, rfl, hl1_4, hC1_4⟩, ⟨_, _, rfl, ⟨A1_5, c1_5, rfl, hl1_5, hC1_5⟩, ⟨A1_6, c1_6, rfl, hl1_6, hC1_6⟩⟩⟩⟩⟩⟩⟩ := hK1
  obtain ⟨hG1_0, hG1_1, hG1_2, hG1_3, hG1_4, hG1_5, hG1_6⟩ := hG1
  obtain rfl : cs1 = #[.int .i64 y1.1, .int .i64 y1.2.1, .string y1.2.2.1, .slice A1_3 y1.2.2.2.1.length c1_3, .slice A1_4 y1.2.2.2.2.1.length c1_4, .slice A1_5 y1.2.2.2.2.2.1.length c1_5, .slice A1_6 y1.2.2.2.2.2.2.length c1_6] := by cases cs1; simpa [Value.cells] using hcs1
  obtain ⟨k, hk⟩ := Pure.AnswerSame (y0.1) (y0.2.1) (y0.2.2.1) (y0.2.2.2.1) (y0.2.2.2.2.1) (y0.2.2.2.2.2.1) (y0.2.2.2.2.2.2) (y1.1) (y1.2.1) (y1.2.2.1) (y1.2.2.2.1) (y1.2.2.2.2.1) (y1.2.2.2.2.2.1) (y1.2.2.2.2.2.2) hG0_0 hG0_1 hG0_2 hG0_3 hG0_4 hG0_5 hG0_6 hG1_0 hG1_1 hG1_2 hG1_3 hG1_4 hG1_5 hG1_6
  clear hA0 hval0 hsz0 hsz
  refine (bastillelaw31_AnswerSame.calls k (y0.1) (y0.2.1) (y0.2.2.1) _ _ (y0.2.2.2.1) _ _ (y0.2.2.2.2.1) _ _ (y0.2.2.2.2.2.1) _ _ (y0.2.2.2.2.2.2) (y1.1) (y1.2.1) (y1.2.2.1) _ _ (y1.2.2.2.1) _ _ (y1.2.2.2.2.1) _ _ (y1.2.2.2.2.2.1) _ _ (y1.2.2.2.2.2.2) true W hC0_3 hl0_3 hC0_4 hl0_4 hC0_5 hl0_5 hC0_6 hl0_6 hC1_3 hl1_3 hC1_4 hl1_4 hC1_5 hl1_5 hC1_6 hl1_6 hk).mono fun e W' ⟨he, bel0⟩ => ?_
  have bel := bel0
  subst he
  exact ⟨_, rfl, _, _, _, [], _, [], hW', trodAll_mk1 (shut_bool Try.underlying4 _), (trodAll_cons_mk (Below.trod laidOut (by kernel_rfl) (of_decide_eq_true (by kernel_rfl)) k0 bel lt0) (trodAll_cons_mk (Below.trod laidOut (by kernel_rfl) (of_decide_eq_true (by kernel_rfl)) k1 bel lt1) trodAll_mk0)), rfl, bel.frame _, fun h => by cases h⟩
theorem over : Rows.answerSameRow.holds Try.pinned (OpenSpec.ofChange Rows.answerSameSpec) :=
  OpenClaim.holds_of_wide 7 Try.f7 rfl rfl rfl rfl rfl rfl rfl ⟨rfl, rfl, rfl, rfl, rfl⟩ rfl rfl rfl rfl rfl (by kernel_rfl) Try.func7 (by kernel_rfl)
    (of_decide_eq_true (by kernel_rfl)) (by unfold Func.isWrapper; first | (rw [if_pos (by decide +kernel)]; kernel_rfl) | (rw [if_neg (by decide +kernel)]; exact ⟨rfl, rfl⟩))
    (fun os started H enc _ => lifted os started H enc)
theorem proved : Rows.AnswerSameSaid := over
#print axioms proved
end Go.Proofs.Ytiibnfnjfmcggaa.answerSame
namespace Go.Proofs.Ytiibnfnjfmcggaa
/-- The row, under a short name, for the claim. -/
theorem answerSame_holds : Rows.AnswerSameSaid := answerSame.proved
end Go.Proofs.Ytiibnfnjfmcggaa
