/- What can be read as data of a type is the cells of a value of its kind: by kinds, from the leaves up; no program in sight. -/
import Derived.Test.YtiibnfnjfmcggaaDoorTCallReadsWords
import Derived.WalkKit
import Derived.ChangeArms
import Derived.DataReads
import Derived.Deep.Slices
import Derived.SizedLaws
namespace Go.Proofs.YtiibnfnjfmcggaaDoor.Opens
open Go.RowKit Go.ChangeShapes Go.WideShapes Go.Proofs.YtiibnfnjfmcggaaDoorW.PrintWords
set_option linter.unusedVariables false
set_option linter.unusedSimpArgs false
/-! What can be read as data of a type is the cells of a value of its kind: by kinds, from the leaves up. -/
section
variable {H : Type} {P : Program}
def Opens {α : Type} (enc : TypeId × Value → H) (P : Program) (w : World) (base : Nat) (spare : Nat → Bool) (held : Bool) (N : Nat) (t : TypeId) (d : Kd α) (G : α → Prop) : Prop :=
 ∀ fuel, fuel ≤ N → ∀ cs x, DataW.trod enc P w base spare held fuel t cs = some x → ∃ y, d.K w y cs ∧ G y
def OpensF {α : Type} (enc : TypeId × Value → H) (P : Program) (w : World) (base : Nat) (spare : Nat → Bool) (held : Bool) (N : Nat) (fs : List Field) (o : Nat) (d : Kd α) (G : α → Prop) : Prop :=
 ∀ n, n ≤ N → ∀ cs : List Value, (∀ f ∈ fs, ∃ x, DataW.trod enc P w base spare held n f.type ((cs.drop f.offset).take (P.cellsOf f.type)) = some x) → cs.length = o + d.sz → ∃ y, d.K w y (cs.drop o) ∧ G y
variable {enc : TypeId × Value → H} {w : World} {base : Nat} {spare : Nat → Bool} {held : Bool} {N : Nat} {t : TypeId}
theorem opens_int {k : IntKind} (ht : P.underlying t = some (.int k)) : Opens enc P w base spare held N t (Kd.int k) (fun n => (Lit.int k n).wf = true) := by
 intro fuel _ cs x h
 cases fuel with
 | zero => simp [DataW.trod] at h
 | succ n =>
  unfold DataW.trod at h
  rw [ht] at h
  split at h <;> simp_all
  exact ⟨_, rfl, by simp_all⟩
theorem opens_bool (ht : P.underlying t = some .bool) : Opens enc P w base spare held N t Kd.bool (fun _ => True) := by
 intro fuel _ cs x h
 cases fuel with
 | zero => simp [DataW.trod] at h
 | succ n =>
  unfold DataW.trod at h
  rw [ht] at h
  split at h <;> simp_all
  rename_i b
  cases b
  ·exact .inl rfl
  ·exact .inr rfl
theorem opens_string (ht : P.underlying t = some .string) : Opens enc P w base spare held N t Kd.string (fun s => s.size ≤ maxLen) := by
 intro fuel _ cs x h
 cases fuel with
 | zero => simp [DataW.trod] at h
 | succ n =>
  unfold DataW.trod at h
  rw [ht] at h
  split at h <;> simp_all
  exact ⟨_, rfl, by simp_all⟩
theorem list_of {α : Type} {p : Nat → α → Prop} : ∀ n, (∀ i, i < n → ∃ y, p i y) → ∃ l : List α, l.length = n ∧ ∀ i y, l[i]? = some y → p i y
 | 0, _ => ⟨[], rfl, fun i y h => by simp at h⟩
 | n + 1, h => by
  obtain ⟨l, h1, h2⟩ := list_of n (fun i hi => h i (by omega))
  obtain ⟨y, hy⟩ := h n (by omega)
  refine ⟨l ++ [y], by simp [h1], fun i z hz => ?_⟩
  rcases Nat.lt_or_ge i l.length with hi | hi
  ·rw [List.getElem?_append_left hi] at hz
   exact h2 i z hz
  ·have hi' : i = n := by
    have := (List.getElem?_eq_some_iff.1 hz).1
    simp [h1] at this
    omega
   subst hi'
   rw [List.getElem?_append_right hi, h1, Nat.sub_self] at hz
   cases hz
   exact hy
theorem opens_slice {α : Type} {d : Kd α} {G : α → Prop} {e : TypeId} (ht : P.underlying t = some (.slice e)) (hsz : P.cellsOf e = d.sz) (he : ∀ n, n + 1 ≤ N → Opens enc P w base spare held n e d G) :
  Opens enc P w base spare held N t (Kd.slice e d) (fun l => l.length ≤ maxLen ∧ ∀ x ∈ l, G x) := by
 intro fuel hN cs x h
 rcases DataW.trod_slice ht h with ⟨rfl, _⟩ | ⟨a, len, cap, elems, rest, n, rfl, rfl, _, hb, hl, hm, hlen, hel, _, _⟩
 ·refine ⟨[], ⟨none, 0, rfl, Nat.le_refl _, rfl, by simp, fun h => absurd h (by simp)⟩, by simp [maxLen], by simp⟩
 ·obtain ⟨l, hll, hp⟩ := list_of (p := fun i y => ∃ cs', w.cells? base (a.add (i * P.cellsOf e)) (P.cellsOf e) = some cs' ∧ d.K w y cs' ∧ G y) len (fun i hi => by
   have h1 := hel i hi
   rw [List.getElem?_eq_getElem (by omega)] at h1
   obtain ⟨cs', hc, ht'⟩ := Option.bind_eq_some_iff.1 h1
   obtain ⟨y, hK, hG⟩ := he n hN n (Nat.le_refl _) cs' _ ht'
   exact ⟨y, cs', hc, hK, hG⟩)
  subst hll
  refine ⟨l, ⟨some a, cap, rfl, hl, rfl, by unfold maxLen at hm; omega, fun _ => ⟨a, rfl, fun j p hj => ?_⟩⟩, by omega, fun z hz => ?_⟩
  ·obtain ⟨cs', hc, hK, _⟩ := hp j p hj
   obtain ⟨_, hcl, hat⟩ := World.cells?_some hc
   rw [hsz] at hat hcl
   refine ⟨cs', hcl, hK, fun i u hu => ?_⟩
   have hi : i < d.sz := by
    have := (List.getElem?_eq_some_iff.1 hu).1
    omega
   have h2 := hat i hi
   rw [Go.Deep.add_add, hu] at h2
   exact h2
  ·obtain ⟨i, hi⟩ := List.getElem?_of_mem hz
   obtain ⟨_, _, _, hG⟩ := hp i z hi
   exact hG
theorem opensF_last {α : Type} {d : Kd α} {G : α → Prop} {f : Field} {o : Nat} (hf : f.offset = o) (hs : P.cellsOf f.type = d.sz) (h : Opens enc P w base spare held N f.type d G) : OpensF enc P w base spare held N [f] o d G := by
 intro n hn cs ha hl
 obtain ⟨x, hx⟩ := ha f (by simp)
 rw [hf, hs, List.take_of_length_le (by simp; omega)] at hx
 exact h n hn _ x hx
theorem opensF_cons {α β : Type} {d : Kd α} {d2 : Kd β} {G : α → Prop} {G2 : β → Prop} {f : Field} {fs : List Field} {o : Nat} (hf : f.offset = o) (hs : P.cellsOf f.type = d.sz) (h : Opens enc P w base spare held N f.type d G)
  (h2 : OpensF enc P w base spare held N fs (o + d.sz) d2 G2) : OpensF enc P w base spare held N (f :: fs) o (Kd.pair d d2) (fun y => G y.1 ∧ G2 y.2) := by
 intro n hn cs ha hl
 have hl' : cs.length = o + (d.sz + d2.sz) := hl
 obtain ⟨x, hx⟩ := ha f (by simp)
 rw [hf, hs] at hx
 obtain ⟨y, hK, hG⟩ := h n hn _ x hx
 obtain ⟨y2, hK2, hG2⟩ := h2 n hn cs (fun g hg => ha g (by simp [hg])) (by omega)
 refine ⟨(y, y2), ⟨_, _, ?_, hK, hK2⟩, hG, hG2⟩
 rw [← List.drop_drop, List.take_append_drop]
theorem opens_struct {α : Type} {d : Kd α} {G : α → Prop} {fs : Array Field} (ht : P.underlying t = some (.struct fs)) (hs : P.cellsOf t = d.sz) (h : ∀ n, n + 1 ≤ N → OpensF enc P w base spare held n fs.toList 0 d G) : Opens enc P w base spare held N t d G := by
 intro fuel hN cs x hx
 obtain ⟨xs, n, rfl, _, hl, hlen, hg⟩ := DataW.trod_struct ht hx
 have := h n hN n (Nat.le_refl _) cs (fun f hf => by
  obtain ⟨i, hi⟩ := List.getElem?_of_mem hf
  have hi' : fs[i]? = some f := by simpa using hi
  have h1 := hg i f hi'
  have h2 : i < fs.size := (Array.getElem?_eq_some_iff.1 hi').1
  rw [List.getElem?_eq_getElem (by omega)] at h1
  exact ⟨_, h1⟩) (by omega)
 simpa using this
theorem opens_iso {α β : Type} {d : Kd α} {G : α → Prop} {f : β → α} (g : α → β) (hfg : ∀ y, f (g y) = y) (h : Opens enc P w base spare held N t d G) : Opens enc P w base spare held N t (Kd.iso d f) (fun x => G (f x)) := by
 intro fuel hN cs x hx
 obtain ⟨y, hK, hG⟩ := h fuel hN cs x hx
 exact ⟨g y, by show d.K w (f (g y)) cs; rw [hfg]; exact hK, by show G (f (g y)); rw [hfg]; exact hG⟩
theorem opens_map {α β : Type} {d : Kd α} {d' : Kd β} {G : α → Prop} {G' : β → Prop} (h : Opens enc P w base spare held N t d G) (f : ∀ y cs, d.K w y cs → G y → ∃ x, d'.K w x cs ∧ G' x) : Opens enc P w base spare held N t d' G' := by
 intro fuel hN cs x hx
 obtain ⟨y, hK, hG⟩ := h fuel hN cs x hx
 exact f y cs hK hG
end
end Go.Proofs.YtiibnfnjfmcggaaDoor.Opens
