import Derived.Test.YtdgmlakgnbmbbaaBase
import Derived.ChangeShapes
import Derived.ChangeArms
import Derived.DataReads
namespace Go.Proofs.Ytdgmlakgnbmbbaa.Open
open Go.RowKit Go.ChangeShapes Go.WideShapes Go.Proofs.YtdgmlakgnbmbbaaW.PrintWords Go.Proofs.Ytdgmlakgnbmbbaa.Base
/-- At fuel n whatever reads as type t has the cells of a value of kind d, and that value meets G. -/
def OpensN {α : Type} (P : Program) (W : World) (n : Nat) (t : TypeId) (d : Kd α) (G : α → Prop) : Prop :=
  ∀ (H : Type) (enc : TypeId × Value → H) (cs : List Value) (y : DataW H × List MemPlace), DataW.trod enc P W 0 (fun _ => true) true n t cs = some y → ∃ x, d.K W x cs ∧ G x
/-- .. at every fuel. -/
def Opens {α : Type} (P : Program) (W : World) (t : TypeId) (d : Kd α) (G : α → Prop) : Prop := ∀ n, OpensN P W n t d G
section
variable {α β : Type} {P : Program} {W : World} {n : Nat} {t e : TypeId} {d : Kd α} {d' : Kd β} {G : α → Prop} {G' : β → Prop}
theorem opensN_zero : OpensN P W 0 t d G := by
  intro H enc cs y h
  simp [DataW.trod] at h
theorem opens_int (ht : P.underlying t = some (.int .i64)) : Opens P W t (Kd.int .i64) gInt := by
  intro n H enc cs y h
  obtain ⟨m, rfl, _, hw⟩ := DataW.trod_int ht h
  exact ⟨m, rfl, gInt_wf hw⟩
theorem opens_bool (ht : P.underlying t = some .bool) : Opens P W t Kd.bool (fun _ => True) := by
  intro n H enc cs y h
  obtain ⟨b, rfl, _⟩ := DataW.trod_bool ht h
  exact ⟨b, rfl, trivial⟩
theorem opens_string (ht : P.underlying t = some .string) : Opens P W t Kd.string gStr := by
  intro n H enc cs y h
  obtain ⟨s, rfl, _, hw⟩ := DataW.trod_string ht h
  exact ⟨s, rfl, gStr_le hw⟩
theorem cells?_get {w : World} {base : Nat} {a : Addr} {m : Nat} {cs : List Value} (h : w.cells? base a m = some cs) : cs.length = m ∧ ∀ i u, cs[i]? = some u → w.cell? (a.add i) = some u := by
  obtain ⟨_, h1, h2⟩ := World.cells?_some h
  refine ⟨h1, fun i u hu => ?_⟩
  have hi := (List.getElem?_eq_some_iff.1 hu).1
  rw [h2 i (by omega), hu]
theorem add_twice (a : Addr) (i j : Nat) : (a.add i).add j = a.add (i + j) := by
  unfold Addr.add
  by_cases hi : i = 0
  · subst hi
    simp
  · by_cases hj : j = 0
    · subst hj
      simp [hi]
    · simp [hi, hj, Nat.add_assoc]
theorem opensN_slice (e' : Nat) (ht : P.underlying t = some (.slice e)) (hs : d.sz = P.cellsOf e) (h0 : OpensN P W n e d G) : OpensN P W (n + 1) t (Kd.slice e' d) (gL G) := by
  intro H enc cs y h
  rcases DataW.trod_slice ht h with ⟨rfl, _⟩ | ⟨a, len, cap, elems, rest, m, hm, rfl, _, _, hl, hc, hlen, hel, _, _⟩
  · exact ⟨[], ⟨none, 0, rfl, Nat.le_refl _, rfl, Nat.zero_le _, fun hp => absurd hp (Nat.lt_irrefl 0)⟩, by simp, fun x hx => by simp at hx⟩
  · obtain rfl : n = m := by omega
    have each : ∀ i, i < len → ∃ x c, c.length = d.sz ∧ d.K W x c ∧ G x ∧ ∀ j u, c[j]? = some u → W.cell? (a.add (i * d.sz + j)) = some u := by
      intro i hi
      have h1 := hel i hi
      rw [List.getElem?_eq_getElem (by omega), Option.bind_eq_some_iff] at h1
      obtain ⟨c, hcs, hy⟩ := h1
      obtain ⟨hcl, hcc⟩ := cells?_get hcs
      obtain ⟨x, hK, hG⟩ := h0 H enc c _ hy
      refine ⟨x, c, by rw [hcl, hs], hK, hG, fun j u hu => ?_⟩
      have h2 := hcc j u hu
      rw [hs]
      rw [add_twice] at h2
      exact h2
    have build : ∀ m, m ≤ len → ∃ xs : List α, xs.length = m ∧ ∀ i x, xs[i]? = some x → G x ∧ ∃ c, c.length = d.sz ∧ d.K W x c ∧ ∀ j u, c[j]? = some u → W.cell? (a.add (i * d.sz + j)) = some u := by
      intro m
      induction m with
      | zero => exact fun _ => ⟨[], rfl, fun i x hx => by simp at hx⟩
      | succ m ih =>
        intro hm
        obtain ⟨xs, hxl, hxs⟩ := ih (by omega)
        obtain ⟨x, c, hcl, hK, hG, hcc⟩ := each m (by omega)
        refine ⟨xs ++ [x], by simp [hxl], fun i z hz => ?_⟩
        rcases Nat.lt_or_ge i xs.length with hi | hi
        · rw [List.getElem?_append_left hi] at hz
          exact hxs i z hz
        · rw [List.getElem?_append_right hi] at hz
          obtain rfl : i = m := by
            have := (List.getElem?_eq_some_iff.1 hz).1
            simp at this
            omega
          rw [hxl, Nat.sub_self] at hz
          simp at hz
          subst hz
          exact ⟨hG, c, hcl, hK, hcc⟩
    obtain ⟨xs, hxl, hxs⟩ := build len (Nat.le_refl _)
    have hc' : cap ≤ 9223372036854775807 := hc
    refine ⟨xs, ⟨some a, cap, by rw [hxl], by omega, rfl, by omega, fun _ => ⟨a, rfl, fun i x hx => ?_⟩⟩, by omega, fun x hx => ?_⟩
    · obtain ⟨_, c, h1, h2, h3⟩ := hxs i x hx
      exact ⟨c, h1, h2, h3⟩
    · obtain ⟨i, hi⟩ := List.getElem?_of_mem hx
      exact (hxs i x hi).1
theorem opens_slice (e' : Nat) (ht : P.underlying t = some (.slice e)) (hs : d.sz = P.cellsOf e) (h0 : Opens P W e d G) : Opens P W t (Kd.slice e' d) (gL G) := by
  intro n
  cases n with
  | zero => exact opensN_zero
  | succ n => exact opensN_slice e' ht hs (h0 n)
/-- The cells from 'off' on, told field by field. -/
def OpensF (P : Program) (W : World) (n : Nat) (fs : List Field) (off : Nat) (d : Kd α) (G : α → Prop) : Prop :=
  ∀ (H : Type) (enc : TypeId × Value → H) (cs : List Value), (∀ f ∈ fs, ∃ y, DataW.trod enc P W 0 (fun _ => true) true n f.type ((cs.drop f.offset).take (P.cellsOf f.type)) = some y) → ∃ x, d.K W x ((cs.drop off).take d.sz) ∧ G x
theorem opensF_last {f : Field} {off : Nat} (ho : f.offset = off) (hs : d.sz = P.cellsOf f.type) (h : OpensN P W n f.type d G) : OpensF P W n [f] off d G := by
  intro H enc cs hf
  obtain ⟨y, hy⟩ := hf f (by simp)
  obtain ⟨x, hK, hG⟩ := h H enc _ y hy
  exact ⟨x, by rw [hs, ← ho]; exact hK, hG⟩
theorem opensF_cons {f : Field} {fs : List Field} {off : Nat} (ho : f.offset = off) (hs : d.sz = P.cellsOf f.type) (h : OpensN P W n f.type d G) (h' : OpensF P W n fs (off + d.sz) d' G') :
    OpensF P W n (f :: fs) off (Kd.pair d d') (fun x => G x.1 ∧ G' x.2) := by
  intro H enc cs hf
  obtain ⟨y, hy⟩ := hf f (by simp)
  obtain ⟨x, hK, hG⟩ := h H enc _ y hy
  obtain ⟨x', hK', hG'⟩ := h' H enc cs (fun f' hf' => hf f' (by simp [hf']))
  refine ⟨(x, x'), ⟨(cs.drop off).take d.sz, (cs.drop (off + d.sz)).take d'.sz, ?_, by rw [hs, ← ho]; exact hK, hK'⟩, hG, hG'⟩
  show (cs.drop off).take (d.sz + d'.sz) = _
  rw [List.take_add, List.drop_drop]
theorem opensN_struct {fs : Array Field} (ht : P.underlying t = some (.struct fs)) (hs : d.sz = P.cellsOf t) (f : β → α) (g : α → β) (hg : ∀ x, f (g x) = x) (h : OpensF P W n fs.toList 0 d G) (hG : ∀ x, G x → G' (g x)) : OpensN P W (n + 1) t (Kd.iso d f) G' := by
  intro H enc cs y hy
  obtain ⟨xs, m, hm, _, hl, _, hf⟩ := DataW.trod_struct ht hy
  obtain rfl : n = m := by omega
  obtain ⟨x, hK, hGx⟩ := h H enc cs (fun f hf' => by
    obtain ⟨i, hi⟩ := List.getElem?_of_mem hf'
    have hlt : i < xs.length := by
      have := (List.getElem?_eq_some_iff.1 hi).1
      simp at this
      omega
    exact ⟨_, (hf i f (by simpa using hi)).trans (List.getElem?_eq_getElem hlt)⟩)
  refine ⟨g x, ?_, hG x hGx⟩
  show d.K W (f (g x)) cs
  rw [hg]
  rw [List.drop_zero, List.take_of_length_le (by omega)] at hK
  exact hK
theorem opens_struct {fs : Array Field} (ht : P.underlying t = some (.struct fs)) (hs : d.sz = P.cellsOf t) (f : β → α) (g : α → β) (hg : ∀ x, f (g x) = x) (h : ∀ n, OpensF P W n fs.toList 0 d G) (hG : ∀ x, G x → G' (g x)) : Opens P W t (Kd.iso d f) G' := by
  intro n
  cases n with
  | zero => exact opensN_zero
  | succ n => exact opensN_struct ht hs f g hg (h n) hG
theorem Opens.mono {G' : α → Prop} (h : Opens P W t d G) (hG : ∀ x, G x → G' x) : Opens P W t d G' := by
  intro n H enc cs y hy
  obtain ⟨x, hK, hx⟩ := h n H enc cs y hy
  exact ⟨x, hK, hG x hx⟩
/-- A slice among the arguments. -/
theorem Opens.arg_slice {H : Type} {enc : TypeId × Value → H} {A : Option Addr} {len cap : Nat} {D : DataW H} {ps : List MemPlace} {e' : Nat} {G : List α → Prop} (h : Opens P W t (Kd.slice e' d) G) (hr : DataW.Trod enc P W 0 (fun _ => true) true t (.slice A len cap) D ps) :
    ∃ xs : List α, len = xs.length ∧ xs.length ≤ cap ∧ d.C W A xs.length xs ∧ G xs := by
  obtain ⟨fuel, hf⟩ := hr
  obtain ⟨xs, ⟨A', c, he, hl, hC⟩, hG⟩ := h fuel H enc _ _ hf
  simp [Value.cells] at he
  obtain ⟨rfl, h1, rfl⟩ := he
  exact ⟨xs, h1, hl, hC, hG⟩
/-- A struct among the arguments. -/
theorem Opens.arg_struct {H : Type} {enc : TypeId × Value → H} {cs : Array Value} {D : DataW H} {ps : List MemPlace} (h : Opens P W t d G) (hr : DataW.Trod enc P W 0 (fun _ => true) true t (.agg cs) D ps) :
    ∃ x : α, d.K W x cs.toList ∧ G x := by
  obtain ⟨fuel, hf⟩ := hr
  exact h fuel H enc _ _ hf
end

end Go.Proofs.Ytdgmlakgnbmbbaa.Open
