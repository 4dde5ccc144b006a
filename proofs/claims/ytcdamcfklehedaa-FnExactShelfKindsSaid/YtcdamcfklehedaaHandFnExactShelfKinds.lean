/- The law FnExactShelfKinds answers true, for every shelf within the bounds of the reading: its functions are walked, and what they write is told cell by cell. -/
import Derived.Test.YtcdamcfklehedaaOFnExactShelfKindsx0
import Derived.Test.YtcdamcfklehedaaOFnExactShelfKindsx1
import Derived.Test.YtcdamcfklehedaaOFnExactShelfKindsx2
import Derived.Test.YtcdamcfklehedaaOFnExactShelfKindsx3
import Derived.Test.YtcdamcfklehedaaPureFnExactShelfKinds
namespace Go.Proofs.Ytcdamcfklehedaa.Hand
open Go.RowKit Go.Proofs.YtcdamcfklehedaaW.PrintWords Go.Proofs.YtcdamcfklehedaaW.PrintLast Go.Proofs.YtcdamcfklehedaaW.PrintMore Go.Proofs.Ytcdamcfklehedaa Go.Proofs.Ytcdamcfklehedaa.Pure Go.Proofs.Ytcdamcfklehedaa.Base
set_option linter.unusedVariables false
set_option linter.unusedSimpArgs false
/-! Rows that are written in place: rows seen through a shorter room, rows inside rows, nothing shared between them. -/
def cutV : Value → Nat → Value
  | .slice A n _, c => .slice A n c
  | v, _ => v
@[go_sem] theorem cutV_slice (A : Option Addr) (n c d : Nat) : cutV (.slice A n c) d = .slice A n d := rfl
section
variable {α β : Type} {d : Kd α} {e g n c base : Nat} {ok ok' oki : Nat → Prop} {w w1 W : World} {v : Value} {xs : List α}
/-- A row of the call's own, its elements apart, seen through a room of its own. -/
def sl {α : Type} (e : Nat) (d : Kd α) : Kd (List α) where
  sz := 1
  E := e :: d.E
  K := fun w xs cs => ∃ A c, cs = [.slice A xs.length c] ∧ xs.length ≤ c ∧ d.C w A xs.length xs
  M := fun w base ok xs cs => ∃ v c, cs = [cutV v c] ∧ xs.length ≤ c ∧ Kd.S d e w base ok v xs
  K_len := by
    rintro w x cs ⟨A, c, rfl, _⟩
    rfl
  K_one := by
    rintro w x cs ⟨A, c, rfl, _⟩ u hu
    rw [List.mem_singleton.1 hu]
    rfl
  K_below := by
    rintro w w1 x cs hb ⟨A, c, rfl, hl, hr⟩
    exact ⟨A, c, rfl, hl, Kd.C_below hr hb⟩
  K_of_M := by
    rintro w base ok x cs ⟨v, c, rfl, hl, h⟩
    obtain ⟨A, c', rfl, _, hr⟩ := Kd.S_reads h
    exact ⟨A, c, rfl, hl, hr⟩
  M_mono := by
    rintro w base ok ok' x cs hok ⟨v, c, rfl, hl, h⟩
    exact ⟨v, c, rfl, hl, Kd.S_mono h hok⟩
  M_bound := by
    rintro w base ok x cs ⟨v, c, rfl, hl, h⟩
    exact ⟨v, c, rfl, hl, Kd.S_bound h⟩
  M_move := by
    rintro w w1 base ok x cs hm ⟨v, c, rfl, hl, h⟩
    exact ⟨v, c, rfl, hl, Kd.S_move h hm⟩
  M_lower := by
    rintro w base base' ok x cs hb ⟨v, c, rfl, hl, h⟩
    exact ⟨v, c, rfl, hl, Kd.S_lower h hb⟩
/-- Two in line that lead to nothing in common. -/
def pr {α β : Type} (a : Kd α) (b : Kd β) : Kd (α × β) where
  sz := a.sz + b.sz
  E := a.E ++ b.E
  K := fun w x cs => ∃ c0 c1, cs = c0 ++ c1 ∧ a.K w x.1 c0 ∧ b.K w x.2 c1
  M := fun w base ok x cs => ∃ c0 c1, cs = c0 ++ c1 ∧ ∃ p : Nat → Prop, a.M w base (fun k => ok k ∧ p k) x.1 c0 ∧ b.M w base (fun k => ok k ∧ ¬ p k) x.2 c1
  K_len := by
    rintro w x cs ⟨c0, c1, rfl, h0, h1⟩
    rw [List.length_append, a.K_len h0, b.K_len h1]
  K_one := by
    rintro w x cs ⟨c0, c1, rfl, h0, h1⟩ u hu
    rcases List.mem_append.1 hu with hu | hu
    · exact a.K_one h0 u hu
    · exact b.K_one h1 u hu
  K_below := by
    rintro w w1 x cs hb ⟨c0, c1, rfl, h0, h1⟩
    exact ⟨c0, c1, rfl, a.K_below hb h0, b.K_below hb h1⟩
  K_of_M := by
    rintro w base ok x cs ⟨c0, c1, rfl, p, h0, h1⟩
    exact ⟨c0, c1, rfl, a.K_of_M h0, b.K_of_M h1⟩
  M_mono := by
    rintro w base ok ok' x cs hok ⟨c0, c1, rfl, p, h0, h1⟩
    exact ⟨c0, c1, rfl, p, a.M_mono (fun k hk => ⟨hok k hk.1, hk.2⟩) h0, b.M_mono (fun k hk => ⟨hok k hk.1, hk.2⟩) h1⟩
  M_bound := by
    rintro w base ok x cs ⟨c0, c1, rfl, p, h0, h1⟩
    refine ⟨c0, c1, rfl, p, a.M_mono ?_ (a.M_bound h0), b.M_mono ?_ (b.M_bound h1)⟩
    · rintro k ⟨⟨h2, hp⟩, h3, h4, q, hq, hc⟩
      exact ⟨⟨h2, h3, h4, q, List.mem_append_left _ hq, hc⟩, hp⟩
    · rintro k ⟨⟨h2, hp⟩, h3, h4, q, hq, hc⟩
      exact ⟨⟨h2, h3, h4, q, List.mem_append_right _ hq, hc⟩, hp⟩
  M_move := by
    rintro w w1 base ok x cs hm ⟨c0, c1, rfl, p, h0, h1⟩
    exact ⟨c0, c1, rfl, p, a.M_move (fun k hk => hm k hk.1) h0, b.M_move (fun k hk => hm k hk.1) h1⟩
  M_lower := by
    rintro w base base' ok x cs hb ⟨c0, c1, rfl, p, h0, h1⟩
    exact ⟨c0, c1, rfl, p, a.M_lower hb h0, b.M_lower hb h1⟩
theorem S_imp {d d' : Kd α} (hs : d.sz = d'.sz) (hM : ∀ w base ok x cs, d.M w base ok x cs → d'.M w base ok x cs) (h : Kd.S d e w base ok v xs) : Kd.S d' e w base ok v xs := by
  obtain ⟨f, h0, inner, ho, hr⟩ := h
  refine ⟨f, h0, inner, ?_, ?_, fun j p hj => hM _ _ _ _ _ ?_⟩
  · have : (Kd.tag f d).sz = (Kd.tag f d').sz := hs
    rw [← this]; exact ho
  · have : (Kd.tag f d).sz = (Kd.tag f d').sz := hs
    rw [← this]; exact hr.1
  · have := hr.2 j p hj
    have e2 : (Kd.tag f d).sz = (Kd.tag f d').sz := hs
    rw [e2] at this; exact this
/-- Elements that lead to nothing: any row of them is one whose elements are apart. -/
theorem S_flat (hE : d.E = []) (h : d.R e w base ok v xs) : Kd.S d e w base ok v xs := by
  obtain ⟨h0, inner, ho, hr⟩ := h
  refine Kd.S_bare ⟨h0, inner, ho, hr.imp_ (fun p c hp => d.M_mono (fun k hk => ?_) (d.M_bound hp))⟩
  obtain ⟨_, _, _, q, hq, _⟩ := hk
  rw [hE] at hq
  cases hq
/-- Element i, to be written: its cells (in the block g), and how it is put back. -/
theorem S_take_ {cap : Nat} (h : Kd.S d e W base ok (.slice (some ⟨g, 0, none⟩) n cap) xs) (z : α) (i : Nat) (h1 : i < n) :
    ∃ (oki : Nat → Prop) (c : List Value), d.M W base oki (xs.getD i z) c ∧ (∀ j u, c[j]? = some u → W.cell? ⟨g, i * d.sz + j, none⟩ = some u ∧ W.frozen? ⟨g, i * d.sz + j, none⟩ = false) ∧ (∀ k, oki k → ok k ∧ k ≠ g) ∧ ok g ∧ Kd.H d e W base ok (.slice (some ⟨g, 0, none⟩) n cap) xs i oki c := by
  obtain ⟨oki, c, hcl, hM, hcc, hfr, hoki, hH⟩ := Kd.S_elem h z (i : Int) (by omega) (by omega)
  simp only [Int.toNat_natCast] at hcc hM hfr
  refine ⟨oki, c, hM, fun j u hu => ⟨hcc j u hu, hfr j⟩, hoki, ?_, hH⟩
  obtain ⟨f, hf⟩ := h
  exact hf.1 g rfl
end
/-! What is marked: the cells of a nested structure that hold numbers and texts, in order. -/
section
abbrev Slot := Nat × Nat × Bool
/-- The cells of an element, in line: a number, a text, a row of elements. -/
inductive Ty where
  | nil | int (t : Ty) | str (t : Ty) | row (e t : Ty)
def Ty.sz : Ty → Nat
  | .nil => 0
  | .int t => t.sz + 1
  | .str t => t.sz + 1
  | .row _ t => t.sz + 1
def RowOf (P : Nat → Nat → List Slot → Prop) (sz : Nat) (v : Value) (s : List Slot) : Prop :=
  (∃ c, v = .slice none 0 c ∧ s = []) ∨ ∃ g n c, v = .slice (some ⟨g, 0, none⟩) n c ∧ n ≤ c ∧ n ≤ maxLen ∧ ∃ ss : List (List Slot), ss.length = n ∧ s = ss.flatten ∧ ∀ j t, ss[j]? = some t → P g (j * sz) t
def Cel (w : World) : Ty → Nat → Nat → List Slot → Prop
  | .nil, _, _, sl => sl = []
  | .int t, g, o, sl => (∃ i, w.cell? ⟨g, o, none⟩ = some (.int .i64 i)) ∧ w.frozen? ⟨g, o, none⟩ = false ∧ ∃ r, sl = (g, o, false) :: r ∧ Cel w t g (o + 1) r
  | .str t, g, o, sl => (∃ s, w.cell? ⟨g, o, none⟩ = some (.string s)) ∧ w.frozen? ⟨g, o, none⟩ = false ∧ ∃ r, sl = (g, o, true) :: r ∧ Cel w t g (o + 1) r
  | .row e t, g, o, sl => ∃ v s r, w.cell? ⟨g, o, none⟩ = some v ∧ RowOf (Cel w e) e.sz v s ∧ sl = s ++ r ∧ Cel w t g (o + 1) r
theorem RowOf.imp {P Q : Nat → Nat → List Slot → Prop} {sz : Nat} {v : Value} {s : List Slot} (h : RowOf P sz v s) (hi : ∀ g o t, P g o t → Q g o t) : RowOf Q sz v s := by
  rcases h with h | ⟨g, n, c, hv, h1, h2, ss, h3, h4, h5⟩
  · exact .inl h
  · exact .inr ⟨g, n, c, hv, h1, h2, ss, h3, h4, fun j t hj => hi _ _ _ (h5 j t hj)⟩
theorem RowOf.slice {P : Nat → Nat → List Slot → Prop} {sz : Nat} {v : Value} {s : List Slot} (h : RowOf P sz v s) : ∃ A n c, v = .slice A n c := by
  rcases h with ⟨c, h, _⟩ | ⟨g, n, c, hv, _⟩
  · exact ⟨_, _, _, h⟩
  · exact ⟨_, _, _, hv⟩
/-- What was a slice, a text, a number is one still: a slice the same. -/
structure TP (w w' : World) : Prop where
  env : w'.os = w.os ∧ w'.tape = w.tape ∧ w'.output = w.output
  size : w.heap.size ≤ w'.heap.size
  sl : ∀ a A n c, w.cell? a = some (.slice A n c) → w'.cell? a = some (.slice A n c)
  str : ∀ a s, w.cell? a = some (.string s) → ∃ s', w'.cell? a = some (.string s')
  int : ∀ a i, w.cell? a = some (.int .i64 i) → ∃ i', w'.cell? a = some (.int .i64 i')
  fz : ∀ a, a.block < w.heap.size → w.frozen? a = false → w'.frozen? a = false
theorem TP.refl (w : World) : TP w w := ⟨⟨rfl, rfl, rfl⟩, Nat.le_refl _, fun _ _ _ _ h => h, fun _ s h => ⟨s, h⟩, fun _ i h => ⟨i, h⟩, fun _ _ h => h⟩
theorem TP.of_below {w w' : World} (h : Below w.heap.size w w') : TP w w' :=
  ⟨⟨h.os, h.tape, h.output⟩, h.size, fun a _ _ _ hc => (h.cell (World.block_lt_of_cell? w a hc)).trans hc, fun a s hc => ⟨s, (h.cell (World.block_lt_of_cell? w a hc)).trans hc⟩, fun a i hc => ⟨i, (h.cell (World.block_lt_of_cell? w a hc)).trans hc⟩,
    fun a ha hf => (h.frozen ha).trans hf⟩
theorem Cel.tp {w w' : World} (h : TP w w') : ∀ (t : Ty) (g o : Nat) (sl : List Slot), Cel w t g o sl → Cel w' t g o sl
  | .nil, _, _, _, hc => hc
  | .int t, g, o, _, ⟨⟨_, hc⟩, hf, r, hr, ht⟩ => ⟨h.int _ _ hc, h.fz _ (World.block_lt_of_cell? w _ hc) hf, r, hr, Cel.tp h t g (o + 1) r ht⟩
  | .str t, g, o, _, ⟨⟨_, hc⟩, hf, r, hr, ht⟩ => ⟨h.str _ _ hc, h.fz _ (World.block_lt_of_cell? w _ hc) hf, r, hr, Cel.tp h t g (o + 1) r ht⟩
  | .row e t, g, o, _, ⟨v, s, r, hc, hv, hr, ht⟩ => ⟨v, s, r, by
      obtain ⟨A, n, c, rfl⟩ := hv.slice
      exact h.sl _ _ _ _ hc, hv.imp (Cel.tp h e), hr, Cel.tp h t g (o + 1) r ht⟩
theorem RowOf.tp {w w' : World} (h : TP w w') {e : Ty} {v : Value} {s : List Slot} (hr : RowOf (Cel w e) e.sz v s) : RowOf (Cel w' e) e.sz v s := hr.imp (Cel.tp h e)
/-- The value of a mark. -/
def mkv (t : Bool) (k : Nat) : Value := if t then .string (mtx k) else .int .i64 (k : Int)
/-- From w to w' the cells of sl were written, in order, with the marks from a on. -/
structure Marked (w w' : World) (sl : List Slot) (a : Nat) : Prop where
  tp : TP w w'
  far : ∀ b, b < w.heap.size → (∀ p ∈ sl, p.1 ≠ b) → w'.heap[b]? = w.heap[b]?
  off : ∀ b o, b < w.heap.size → (∀ p ∈ sl, ¬ (p.1 = b ∧ p.2.1 = o)) → w'.cell? ⟨b, o, none⟩ = w.cell? ⟨b, o, none⟩
  at_ : (sl.map fun p => (p.1, p.2.1)).Nodup → ∀ j p, sl[j]? = some p → w'.cell? ⟨p.1, p.2.1, none⟩ = some (mkv p.2.2 (a + j))
theorem Marked.nil {w w' : World} (h : Below w.heap.size w w') (a : Nat) : Marked w w' [] a :=
  ⟨TP.of_below h, fun b hb _ => h.block b hb, fun b o hb _ => h.cell (p := ⟨b, o, none⟩) hb, fun _ j p hj => by simp at hj⟩
theorem TP.trans {w w1 w2 : World} (h : TP w w1) (k : TP w1 w2) : TP w w2 :=
  ⟨⟨k.env.1.trans h.env.1, k.env.2.1.trans h.env.2.1, k.env.2.2.trans h.env.2.2⟩, Nat.le_trans h.size k.size, fun a A n c hc => k.sl _ _ _ _ (h.sl _ _ _ _ hc), fun a s hc => by obtain ⟨s', hs⟩ := h.str _ _ hc; exact k.str _ _ hs, fun a i hc => by obtain ⟨s', hs⟩ := h.int _ _ hc; exact k.int _ _ hs,
    fun a ha hf => k.fz _ (Nat.lt_of_lt_of_le ha h.size) (h.fz _ ha hf)⟩
def likes (u v : Value) : Prop := (∃ s s', u = .string s ∧ v = .string s') ∨ ∃ i i', u = .int .i64 i ∧ v = .int .i64 i'
theorem TP.set (w : World) (a : Addr) {u v : Value} (hc : w.cell? a = some u) (hl : likes u v) : TP w (w.setCell a v) := by
  have hs : (w.setCell a v).cell? a = some v := World.cell?_setCell_same _ _ _ hc
  refine ⟨⟨rfl, rfl, rfl⟩, by simp, fun b A n c hb => ?_, fun b s hb => ?_, fun b i hb => ?_, fun b hb hf => by simpa using hf⟩
  · by_cases e : a = b
    · subst e
      rw [hc] at hb
      rcases hl with ⟨s, s', rfl, _⟩ | ⟨i, i', rfl, _⟩ <;> cases hb
    · rw [World.cell?_setCell_other _ _ _ _ e]; exact hb
  · by_cases e : a = b
    · subst e
      rw [hc] at hb
      rcases hl with ⟨s, s', rfl, rfl⟩ | ⟨i, i', rfl, _⟩
      · exact ⟨_, hs⟩
      · cases hb
    · exact ⟨s, by rw [World.cell?_setCell_other _ _ _ _ e]; exact hb⟩
  · by_cases e : a = b
    · subst e
      rw [hc] at hb
      rcases hl with ⟨s, s', rfl, rfl⟩ | ⟨i, i', rfl, rfl⟩
      · cases hb
      · exact ⟨_, hs⟩
    · exact ⟨i, by rw [World.cell?_setCell_other _ _ _ _ e]; exact hb⟩
theorem likes_mkv {t : Bool} {u : Value} (k : Nat) (h : (t = true ∧ ∃ s, u = .string s) ∨ (t = false ∧ ∃ i, u = .int .i64 i)) : likes u (mkv t k) := by
  rcases h with ⟨rfl, s, rfl⟩ | ⟨rfl, i, rfl⟩
  · exact .inl ⟨_, _, rfl, rfl⟩
  · exact .inr ⟨_, _, rfl, rfl⟩
/-- One cell is written. -/
theorem Marked.one (w : World) {g o : Nat} {t : Bool} {u : Value} (k : Nat) (hc : w.cell? ⟨g, o, none⟩ = some u) (h : (t = true ∧ ∃ s, u = .string s) ∨ (t = false ∧ ∃ i, u = .int .i64 i)) : Marked w (w.setCell ⟨g, o, none⟩ (mkv t k)) [(g, o, t)] k where
  tp := TP.set w _ hc (likes_mkv k h)
  far := fun b hb hn => Below.heap_setCell w _ _ b (fun e => hn _ (List.mem_singleton.2 rfl) e.symm)
  off := fun b o' hb hn => World.cell?_setCell_other _ _ _ _ (fun e => by
    injection e with e1 e2
    exact hn _ (List.mem_singleton.2 rfl) ⟨e1, e2⟩)
  at_ := fun _ j p hj => by
    cases j with
    | zero =>
      obtain rfl : (g, o, t) = p := by simpa using hj
      exact World.cell?_setCell_same _ _ _ hc
    | succ j => simp at hj
theorem Marked.then {w w1 w2 : World} {s1 s2 : List Slot} {a : Nat} (h : Marked w w1 s1 a) (k : Marked w1 w2 s2 (a + s1.length)) : Marked w w2 (s1 ++ s2) a where
  tp := h.tp.trans k.tp
  far := fun b hb hn => (k.far b (Nat.lt_of_lt_of_le hb h.tp.size) (fun p hp => hn p (List.mem_append_right _ hp))).trans (h.far b hb (fun p hp => hn p (List.mem_append_left _ hp)))
  off := fun b o hb hn => (k.off b o (Nat.lt_of_lt_of_le hb h.tp.size) (fun p hp => hn p (List.mem_append_right _ hp))).trans (h.off b o hb (fun p hp => hn p (List.mem_append_left _ hp)))
  at_ := fun hnd j p hj => by
    rw [List.map_append, List.nodup_append] at hnd
    obtain ⟨hn1, hn2, hne⟩ := hnd
    rcases Nat.lt_or_ge j s1.length with hlt | hge
    · rw [List.getElem?_append_left hlt] at hj
      have hp := List.mem_of_getElem? hj
      have h1 := h.at_ hn1 j p hj
      rw [k.off _ _ (World.block_lt_of_cell? w1 _ h1) (fun q hq e => hne (p.1, p.2.1) (List.mem_map.2 ⟨p, hp, rfl⟩) (q.1, q.2.1) (List.mem_map.2 ⟨q, hq, rfl⟩) (by rw [e.1, e.2]))]
      exact h1
    · rw [List.getElem?_append_right hge] at hj
      have := k.at_ hn2 _ p hj
      rw [show a + s1.length + (j - s1.length) = a + j by omega] at this
      exact this
theorem Marked.below {w w1 w2 : World} {s : List Slot} {a : Nat} (h : Marked w w1 s a) (k : Below w1.heap.size w1 w2) : Marked w w2 s a := by
  have := Marked.then h (Marked.nil k (a + s.length))
  rwa [List.append_nil] at this
theorem Marked.more {w wr w2 : World} {s s2 : List Slot} {a K : Nat} (h : Marked w wr s a) (hK : K = a + s.length) (k : Marked wr w2 s2 K) : Marked w w2 (s ++ s2) a := by
  subst hK
  exact Marked.then h k
/-- A number's cell, a text's cell is written. -/
theorem Marked.putI {w wr : World} {s : List Slot} {a K g o : Nat} {z : Int} (ki : Int) (h : Marked w wr s a) (hK : K = a + s.length) (hki : ki = (K : Int)) (hc : w.cell? ⟨g, o, none⟩ = some (.int .i64 z)) : Marked w (wr.setCell ⟨g, o, none⟩ (.int .i64 ki)) (s ++ [(g, o, false)]) a := by
  subst hki
  obtain ⟨z', hz⟩ := h.tp.int _ _ hc
  exact Marked.more h hK (Marked.one _ (t := false) _ hz (.inr ⟨rfl, _, rfl⟩))
theorem Marked.putS {w wr : World} {s : List Slot} {a K g o : Nat} {z : ByteArray} (h : Marked w wr s a) (hK : K = a + s.length) (hc : w.cell? ⟨g, o, none⟩ = some (.string z)) : Marked w (wr.setCell ⟨g, o, none⟩ (.string (mtx K))) (s ++ [(g, o, true)]) a := by
  obtain ⟨z', hz⟩ := h.tp.str _ _ hc
  exact Marked.more h hK (Marked.one _ (t := true) _ hz (.inl ⟨rfl, _, rfl⟩))
theorem TP.fz' {w w' : World} (h : TP w w') {a : Addr} {v : Value} (hc : w.cell? a = some v) (hf : w.frozen? a = false) : w'.frozen? a = false := h.fz _ (World.block_lt_of_cell? w _ hc) hf
/-- What lies below the blocks that are marked stays. -/
theorem Marked.below_of {B : Nat} {w0 w w' : World} {s : List Slot} {a : Nat} (h : Marked w w' s a) (hs : ∀ p ∈ s, B ≤ p.1) (hb : Below B w0 w) (hB : B ≤ w.heap.size) : Below B w0 w' :=
  ⟨h.tp.env.1.trans hb.os, h.tp.env.2.1.trans hb.tape, h.tp.env.2.2.trans hb.output, Nat.le_trans hb.size h.tp.size, fun k hk => (h.far k (by omega) (fun p hp e => by have := hs p hp; omega)).trans (hb.block k hk)⟩
theorem Marked.kept {w w' : World} {s : List Slot} {a : Nat} (h : Marked w w' s a) : Kept w w' (fun k => ∃ p ∈ s, p.1 = k) := ⟨h.tp.size, fun i hi hn => h.far i hi (fun p hp e => hn ⟨p, hp, e⟩)⟩
/-- The blocks of what is marked are there. -/
theorem Cel.mem {w : World} : ∀ (t : Ty) (g o : Nat) (sl : List Slot), Cel w t g o sl → ∀ p ∈ sl, ∃ v, w.cell? ⟨p.1, p.2.1, none⟩ = some v
  | .nil, _, _, _, hc, p, hp => by
    obtain rfl : _ = [] := hc
    cases hp
  | .int t, g, o, _, ⟨⟨_, hc⟩, hf, r, rfl, ht⟩, p, hp => by
    rcases List.mem_cons.1 hp with rfl | hp
    · exact ⟨_, hc⟩
    · exact Cel.mem t _ _ r ht p hp
  | .str t, g, o, _, ⟨⟨_, hc⟩, hf, r, rfl, ht⟩, p, hp => by
    rcases List.mem_cons.1 hp with rfl | hp
    · exact ⟨_, hc⟩
    · exact Cel.mem t _ _ r ht p hp
  | .row e t, g, o, _, ⟨v, s, r, hc, hv, rfl, ht⟩, p, hp => by
    rcases List.mem_append.1 hp with hp | hp
    · rcases hv with ⟨_, _, rfl⟩ | ⟨g', n, c, _, _, _, ss, _, rfl, h5⟩
      · cases hp
      · obtain ⟨l, hl, hpl⟩ := List.mem_flatten.1 hp
        obtain ⟨j, hj⟩ := List.getElem?_of_mem hl
        exact Cel.mem e _ _ l (h5 j l hj) p hpl
    · exact Cel.mem t _ _ r ht p hp
theorem RowOf.mem {w : World} {e : Ty} {v : Value} {s : List Slot} (hr : RowOf (Cel w e) e.sz v s) (p : Slot) (hp : p ∈ s) : p.1 < w.heap.size := by
  rcases hr with ⟨_, _, rfl⟩ | ⟨g', n, c, _, _, _, ss, _, rfl, h5⟩
  · cases hp
  · obtain ⟨l, hl, hpl⟩ := List.mem_flatten.1 hp
    obtain ⟨j, hj⟩ := List.getElem?_of_mem hl
    obtain ⟨v, hc⟩ := Cel.mem e _ _ l (h5 j l hj) p hpl
    exact World.block_lt_of_cell? w _ hc
theorem RowOf.all {P : Nat → Nat → List Slot → Prop} {sz : Nat} {v : Value} {s : List Slot} (h : RowOf P sz v s) : ∃ (A : Option Addr) (n c : Nat) (ss : List (List Slot)), v = .slice A n c ∧ n ≤ c ∧ n ≤ maxLen ∧ ss.length = n ∧ s = ss.flatten ∧ ∀ j t, ss[j]? = some t → ∃ g, A = some ⟨g, 0, none⟩ ∧ P g (j * sz) t := by
  rcases h with ⟨c, rfl, rfl⟩ | ⟨g, n, c, rfl, h1, h2, ss, h3, rfl, h5⟩
  · exact ⟨none, 0, c, [], rfl, Nat.zero_le _, Nat.zero_le _, rfl, rfl, fun j t hj => by simp at hj⟩
  · exact ⟨_, n, c, ss, rfl, h1, h2, h3, rfl, fun j t hj => ⟨g, rfl, h5 j t hj⟩⟩
theorem take_flat {α : Type} {ss : List (List α)} {i : Nat} {t : List α} (h : ss[i]? = some t) : (ss.take (i + 1)).flatten = (ss.take i).flatten ++ t := by
  obtain ⟨hl, rfl⟩ := List.getElem?_eq_some_iff.1 h
  rw [List.take_succ_eq_append_getElem hl, List.flatten_append]
  simp
theorem mem_take_flat {α : Type} {ss : List (List α)} {i : Nat} {p : α} (h : p ∈ (ss.take i).flatten) : p ∈ ss.flatten := by
  obtain ⟨l, hl, hp⟩ := List.mem_flatten.1 h
  exact List.mem_flatten.2 ⟨l, List.mem_of_mem_take hl, hp⟩
theorem flat_le {α : Type} (ss : List (List α)) (i : Nat) : (ss.take i).flatten.length ≤ ss.flatten.length := by
  have := List.take_append_drop i ss
  have h2 : ss.flatten.length = (ss.take i).flatten.length + (ss.drop i).flatten.length := by
    rw [← List.length_append, ← List.flatten_append, this]
  omega
end
theorem mText_any (k : Nat) {ki : Int} (hki : ki = (k : Int)) (h1 : 1 ≤ k) (h2 : k ≤ 9000000) (w : World) : Calls Try.prog 60 #[.int .i64 ki] w fun e w' => e = .returned (.string (mtx k)) ∧ Below w.heap.size w w' := by
  subst hki
  obtain ⟨q, hq⟩ := markText_any k h1 (by omega)
  exact OFnExactShelfKinds.laws_markText.calls q _ _ w hq
abbrev tyInt : Ty := (.int .nil)
abbrev tyString : Ty := (.str .nil)
abbrev tyIns : Ty := (.str (.int (.int .nil)))
abbrev tyRecord : Ty := (.int (.row tyString .nil))
abbrev tyRecordS : Ty := (.row tyRecord .nil)
abbrev tyFunc : Ty := (.int (.row tyString (.row tyString (.row tyString (.row tyInt (.row tyIns .nil))))))
abbrev tyModule : Ty := (.row tyRecord (.row tyFunc (.row tyInt .nil)))
set_option maxHeartbeats 2000000 in
set_option maxRecDepth 100000 in
theorem markIntS_any (v : Value) (s : List Slot) (a : Nat) {ai : Int} (hai : ai = (a : Int)) (w : World) (hs : RowOf (Cel w tyInt) 1 v s) (h1 : 1 ≤ a) (hb : a + s.length ≤ 9000000) :
    Calls Try.prog 34 #[v, .int .i64 ai] w fun e w' => e = .returned (.int .i64 ((a + s.length : Nat) : Int)) ∧ Marked w w' s a := by
  subst hai
  obtain ⟨A, n, c, ss, rfl, hnc, hcm, hn, rfl, hel⟩ := hs.all
  have HEL := Aside0.mk hel
  have HN := Aside0.mk hn
  have HM := Aside0.mk (show Marked w w (ss.take 0).flatten a from Marked.nil (Below.refl _ _) a)
  have hnm : n ≤ 9223372036854775807 := by unfold maxLen at hcm; omega
  clear hel hn hs hcm hnc
  go_enter Try.func34, Try.ntmps34
  go_wp2
  go_loopw [1, 5] (fun v1 v5 wr => ∃ i K : Nat, i ≤ n ∧ v5 = .int .i64 i ∧ v1 = .int .i64 K ∧ 1 ≤ K ∧ K ≤ 9000000 ∧ Aside0 (K = a + (ss.take i).flatten.length) ∧ Aside0 (Marked w wr (ss.take i).flatten a)) (fun _ v5 _ => n - (intOf v5).toNat)
  case atStart => exact ⟨0, a, Nat.zero_le _, rfl, rfl, h1, by omega, ⟨by simp⟩, HM⟩
  case round =>
    clear HM
    obtain ⟨i, K0, hi, rfl, rfl, hK1, hK2, HK, HM⟩ := hrel
    by_cases hlt : i < n
    · have hsl := List.getElem?_eq_getElem (show i < ss.length by have := HN.out; omega)
      obtain ⟨g, hA, hc⟩ := HEL.out i _ hsl
      subst hA
      generalize ss[i]'(by have := HN.out; omega) = t at hsl hc
      have HS := Aside0.mk hsl
      rw [Nat.mul_one] at hc
      obtain ⟨⟨z0, hx0⟩, hf0, r0, ht0, hrn⟩ := hc
      obtain rfl : r0 = [] := hrn
      have HT := Aside0.mk (show t = [(g, i, false)] by rw [ht0]; first | done | simp)
      clear ht0 hsl
      have HX0 := Aside0.mk (show w.cell? ⟨g, i, none⟩ = some (.int .i64 z0) from hx0)
      have HF0 := Aside0.mk (show w.frozen? ⟨g, i, none⟩ = false from hf0)
      clear hx0 hf0
      have hle : K0 + (1) ≤ 9000000 := by
        have h1 := take_flat HS.out
        have h2 := flat_le ss (i + 1)
        have h3 := HK.out
        rw [h1, HT.out] at h2
        (try simp only [List.length_append, List.length_cons, List.length_nil, Nat.zero_add] at h2)
        omega
      obtain ⟨y0_, hx0⟩ := HM.out.tp.int _ _ HX0.out
      have hf0 := HM.out.tp.fz' HX0.out HF0.out
      go_wp2
      go_roundw
      case rel =>
        replace HM := Aside0.mk (Marked.putI (K := K0) ((K0 : Int)) HM.out (by have := HK.out; (try simp only [List.length_append, List.length_cons, List.length_nil] at this); (try simp only [List.length_append, List.length_cons, List.length_nil]); omega) (by omega) HX0.out)
        exact ⟨i + 1, K0 + 1, by omega, by go_num, by first | rfl | go_num, by omega, by omega, ⟨by rw [take_flat HS.out, HT.out]; have := HK.out; (try simp only [List.length_append, List.length_cons, List.length_nil] at this); (try simp only [List.length_append, List.length_cons, List.length_nil]); omega⟩, ⟨by rw [take_flat HS.out, HT.out]; have := HM.out; simpa only [List.append_assoc] using this⟩⟩
      case measure => simp [intOf]; omega
    · have hin : i = ss.length := by have := HN.out; omega
      have HL := Aside0.mk hin
      clear hin
      go_wp2
      go_ret
      have e := HK.out
      subst e
      rw [HL.out, List.take_length] at HM ⊢
      exact ⟨rfl, HM.out⟩
set_option maxHeartbeats 2000000 in
set_option maxRecDepth 100000 in
theorem markStringS_any (v : Value) (s : List Slot) (a : Nat) {ai : Int} (hai : ai = (a : Int)) (w : World) (hs : RowOf (Cel w tyString) 1 v s) (h1 : 1 ≤ a) (hb : a + s.length ≤ 9000000) :
    Calls Try.prog 41 #[v, .int .i64 ai] w fun e w' => e = .returned (.int .i64 ((a + s.length : Nat) : Int)) ∧ Marked w w' s a := by
  subst hai
  obtain ⟨A, n, c, ss, rfl, hnc, hcm, hn, rfl, hel⟩ := hs.all
  have HEL := Aside0.mk hel
  have HN := Aside0.mk hn
  have HM := Aside0.mk (show Marked w w (ss.take 0).flatten a from Marked.nil (Below.refl _ _) a)
  have hnm : n ≤ 9223372036854775807 := by unfold maxLen at hcm; omega
  clear hel hn hs hcm hnc
  go_enter Try.func41, Try.ntmps41
  go_wp2
  go_loopw [1, 5] (fun v1 v5 wr => ∃ i K : Nat, i ≤ n ∧ v5 = .int .i64 i ∧ v1 = .int .i64 K ∧ 1 ≤ K ∧ K ≤ 9000000 ∧ Aside0 (K = a + (ss.take i).flatten.length) ∧ Aside0 (Marked w wr (ss.take i).flatten a)) (fun _ v5 _ => n - (intOf v5).toNat)
  case atStart => exact ⟨0, a, Nat.zero_le _, rfl, rfl, h1, by omega, ⟨by simp⟩, HM⟩
  case round =>
    clear HM
    obtain ⟨i, K0, hi, rfl, rfl, hK1, hK2, HK, HM⟩ := hrel
    by_cases hlt : i < n
    · have hsl := List.getElem?_eq_getElem (show i < ss.length by have := HN.out; omega)
      obtain ⟨g, hA, hc⟩ := HEL.out i _ hsl
      subst hA
      generalize ss[i]'(by have := HN.out; omega) = t at hsl hc
      have HS := Aside0.mk hsl
      rw [Nat.mul_one] at hc
      obtain ⟨⟨z0, hx0⟩, hf0, r0, ht0, hrn⟩ := hc
      obtain rfl : r0 = [] := hrn
      have HT := Aside0.mk (show t = [(g, i, true)] by rw [ht0]; first | done | simp)
      clear ht0 hsl
      have HX0 := Aside0.mk (show w.cell? ⟨g, i, none⟩ = some (.string z0) from hx0)
      have HF0 := Aside0.mk (show w.frozen? ⟨g, i, none⟩ = false from hf0)
      clear hx0 hf0
      have hle : K0 + (1) ≤ 9000000 := by
        have h1 := take_flat HS.out
        have h2 := flat_le ss (i + 1)
        have h3 := HK.out
        rw [h1, HT.out] at h2
        (try simp only [List.length_append, List.length_cons, List.length_nil, Nat.zero_add] at h2)
        omega
      go_wp2_with fail
      refine (mText_any (K0) (by omega) (by omega) (by omega) _).mono ?_
      rintro e w1 ⟨rfl, hb⟩
      replace HM := Aside0.mk (HM.out.below hb)
      clear hb
      obtain ⟨y0_, hx0⟩ := HM.out.tp.str _ _ HX0.out
      have hf0 := HM.out.tp.fz' HX0.out HF0.out
      go_wp2
      go_roundw
      case rel =>
        replace HM := Aside0.mk (Marked.putS (K := K0) HM.out (by have := HK.out; (try simp only [List.length_append, List.length_cons, List.length_nil] at this); (try simp only [List.length_append, List.length_cons, List.length_nil]); omega) HX0.out)
        exact ⟨i + 1, K0 + 1, by omega, by go_num, by first | rfl | go_num, by omega, by omega, ⟨by rw [take_flat HS.out, HT.out]; have := HK.out; (try simp only [List.length_append, List.length_cons, List.length_nil] at this); (try simp only [List.length_append, List.length_cons, List.length_nil]); omega⟩, ⟨by rw [take_flat HS.out, HT.out]; have := HM.out; simpa only [List.append_assoc] using this⟩⟩
      case measure => simp [intOf]; omega
    · have hin : i = ss.length := by have := HN.out; omega
      have HL := Aside0.mk hin
      clear hin
      go_wp2
      go_ret
      have e := HK.out
      subst e
      rw [HL.out, List.take_length] at HM ⊢
      exact ⟨rfl, HM.out⟩
set_option maxHeartbeats 2000000 in
set_option maxRecDepth 100000 in
theorem markInsS_any (v : Value) (s : List Slot) (a : Nat) {ai : Int} (hai : ai = (a : Int)) (w : World) (hs : RowOf (Cel w tyIns) 3 v s) (h1 : 1 ≤ a) (hb : a + s.length ≤ 9000000) :
    Calls Try.prog 42 #[v, .int .i64 ai] w fun e w' => e = .returned (.int .i64 ((a + s.length : Nat) : Int)) ∧ Marked w w' s a := by
  subst hai
  obtain ⟨A, n, c, ss, rfl, hnc, hcm, hn, rfl, hel⟩ := hs.all
  have HEL := Aside0.mk hel
  have HN := Aside0.mk hn
  have HM := Aside0.mk (show Marked w w (ss.take 0).flatten a from Marked.nil (Below.refl _ _) a)
  have hnm : n ≤ 9223372036854775807 := by unfold maxLen at hcm; omega
  clear hel hn hs hcm hnc
  go_enter Try.func42, Try.ntmps42
  go_wp2
  go_loopw [1, 5] (fun v1 v5 wr => ∃ i K : Nat, i ≤ n ∧ v5 = .int .i64 i ∧ v1 = .int .i64 K ∧ 1 ≤ K ∧ K ≤ 9000000 ∧ Aside0 (K = a + (ss.take i).flatten.length) ∧ Aside0 (Marked w wr (ss.take i).flatten a)) (fun _ v5 _ => n - (intOf v5).toNat)
  case atStart => exact ⟨0, a, Nat.zero_le _, rfl, rfl, h1, by omega, ⟨by simp⟩, HM⟩
  case round =>
    clear HM
    obtain ⟨i, K0, hi, rfl, rfl, hK1, hK2, HK, HM⟩ := hrel
    by_cases hlt : i < n
    · have hsl := List.getElem?_eq_getElem (show i < ss.length by have := HN.out; omega)
      obtain ⟨g, hA, hc⟩ := HEL.out i _ hsl
      subst hA
      generalize ss[i]'(by have := HN.out; omega) = t at hsl hc
      have HS := Aside0.mk hsl
      obtain ⟨⟨z0, hx0⟩, hf0, r0, ht0, ⟨z1, hx1⟩, hf1, r1, ht1, ⟨z2, hx2⟩, hf2, r2, ht2, hrn⟩ := hc
      obtain rfl : r2 = [] := hrn
      subst ht2
      subst ht1
      have HT := Aside0.mk (show t = [(g, i * 3, true)] ++ [(g, i * 3 + 1, false)] ++ [(g, i * 3 + 2, false)] by rw [ht0]; first | done | simp)
      clear ht0 hsl
      have HX0 := Aside0.mk (show w.cell? ⟨g, i * 3, none⟩ = some (.string z0) from hx0)
      have HF0 := Aside0.mk (show w.frozen? ⟨g, i * 3, none⟩ = false from hf0)
      clear hx0 hf0
      have HX1 := Aside0.mk (show w.cell? ⟨g, i * 3 + 1, none⟩ = some (.int .i64 z1) from hx1)
      have HF1 := Aside0.mk (show w.frozen? ⟨g, i * 3 + 1, none⟩ = false from hf1)
      clear hx1 hf1
      have HX2 := Aside0.mk (show w.cell? ⟨g, i * 3 + 2, none⟩ = some (.int .i64 z2) from hx2)
      have HF2 := Aside0.mk (show w.frozen? ⟨g, i * 3 + 2, none⟩ = false from hf2)
      clear hx2 hf2
      have hle : K0 + (1 + 1 + 1) ≤ 9000000 := by
        have h1 := take_flat HS.out
        have h2 := flat_le ss (i + 1)
        have h3 := HK.out
        rw [h1, HT.out] at h2
        (try simp only [List.length_append, List.length_cons, List.length_nil, Nat.zero_add] at h2)
        omega
      go_wp2_with fail
      refine (mText_any (K0) (by omega) (by omega) (by omega) _).mono ?_
      rintro e w1 ⟨rfl, hb⟩
      replace HM := Aside0.mk (HM.out.below hb)
      clear hb
      obtain ⟨y0_, hx0⟩ := HM.out.tp.str _ _ HX0.out
      have hf0 := HM.out.tp.fz' HX0.out HF0.out
      obtain ⟨y1_, hx1⟩ := HM.out.tp.int _ _ HX1.out
      have hf1 := HM.out.tp.fz' HX1.out HF1.out
      obtain ⟨y2_, hx2⟩ := HM.out.tp.int _ _ HX2.out
      have hf2 := HM.out.tp.fz' HX2.out HF2.out
      go_wp2
      go_roundw
      case rel =>
        replace HM := Aside0.mk (Marked.putS (K := K0) HM.out (by have := HK.out; (try simp only [List.length_append, List.length_cons, List.length_nil] at this); (try simp only [List.length_append, List.length_cons, List.length_nil]); omega) HX0.out)
        replace HM := Aside0.mk (Marked.putI (K := K0 + 1) ((K0 : Int) + 1) HM.out (by have := HK.out; (try simp only [List.length_append, List.length_cons, List.length_nil] at this); (try simp only [List.length_append, List.length_cons, List.length_nil]); omega) (by omega) HX1.out)
        replace HM := Aside0.mk (Marked.putI (K := K0 + 2) ((K0 : Int) + 1 + 1) HM.out (by have := HK.out; (try simp only [List.length_append, List.length_cons, List.length_nil] at this); (try simp only [List.length_append, List.length_cons, List.length_nil]); omega) (by omega) HX2.out)
        exact ⟨i + 1, K0 + 3, by omega, by go_num, by first | rfl | go_num, by omega, by omega, ⟨by rw [take_flat HS.out, HT.out]; have := HK.out; (try simp only [List.length_append, List.length_cons, List.length_nil] at this); (try simp only [List.length_append, List.length_cons, List.length_nil]); omega⟩, ⟨by rw [take_flat HS.out, HT.out]; have := HM.out; simpa only [List.append_assoc] using this⟩⟩
      case measure => simp [intOf]; omega
    · have hin : i = ss.length := by have := HN.out; omega
      have HL := Aside0.mk hin
      clear hin
      go_wp2
      go_ret
      have e := HK.out
      subst e
      rw [HL.out, List.take_length] at HM ⊢
      exact ⟨rfl, HM.out⟩
set_option maxHeartbeats 2000000 in
set_option maxRecDepth 100000 in
theorem markRecordS_any (v : Value) (s : List Slot) (a : Nat) {ai : Int} (hai : ai = (a : Int)) (w : World) (hs : RowOf (Cel w tyRecord) 2 v s) (h1 : 1 ≤ a) (hb : a + s.length ≤ 9000000) :
    Calls Try.prog 32 #[v, .int .i64 ai] w fun e w' => e = .returned (.int .i64 ((a + s.length : Nat) : Int)) ∧ Marked w w' s a := by
  subst hai
  obtain ⟨A, n, c, ss, rfl, hnc, hcm, hn, rfl, hel⟩ := hs.all
  have HEL := Aside0.mk hel
  have HN := Aside0.mk hn
  have HM := Aside0.mk (show Marked w w (ss.take 0).flatten a from Marked.nil (Below.refl _ _) a)
  have hnm : n ≤ 9223372036854775807 := by unfold maxLen at hcm; omega
  clear hel hn hs hcm hnc
  go_enter Try.func32, Try.ntmps32
  go_wp2
  go_loopw [1, 5] (fun v1 v5 wr => ∃ i K : Nat, i ≤ n ∧ v5 = .int .i64 i ∧ v1 = .int .i64 K ∧ 1 ≤ K ∧ K ≤ 9000000 ∧ Aside0 (K = a + (ss.take i).flatten.length) ∧ Aside0 (Marked w wr (ss.take i).flatten a)) (fun _ v5 _ => n - (intOf v5).toNat)
  case atStart => exact ⟨0, a, Nat.zero_le _, rfl, rfl, h1, by omega, ⟨by simp⟩, HM⟩
  case round =>
    clear HM
    obtain ⟨i, K0, hi, rfl, rfl, hK1, hK2, HK, HM⟩ := hrel
    by_cases hlt : i < n
    · have hsl := List.getElem?_eq_getElem (show i < ss.length by have := HN.out; omega)
      obtain ⟨g, hA, hc⟩ := HEL.out i _ hsl
      subst hA
      generalize ss[i]'(by have := HN.out; omega) = t at hsl hc
      have HS := Aside0.mk hsl
      obtain ⟨⟨z0, hx0⟩, hf0, r0, ht0, v1, s1, r1, hx1, hv1, ht1, hrn⟩ := hc
      obtain rfl : r1 = [] := hrn
      subst ht1
      have HT := Aside0.mk (show t = [(g, i * 2, false)] ++ s1 by rw [ht0]; first | done | simp)
      clear ht0 hsl
      have HX0 := Aside0.mk (show w.cell? ⟨g, i * 2, none⟩ = some (.int .i64 z0) from hx0)
      have HF0 := Aside0.mk (show w.frozen? ⟨g, i * 2, none⟩ = false from hf0)
      clear hx0 hf0
      obtain ⟨A1, n1, c1, rfl⟩ := hv1.slice
      have HX1 := Aside0.mk (show w.cell? ⟨g, i * 2 + 1, none⟩ = some (.slice A1 n1 c1) from hx1)
      have HV1 := Aside0.mk hv1
      clear hx1 hv1
      have hle : K0 + (1 + s1.length) ≤ 9000000 := by
        have h1 := take_flat HS.out
        have h2 := flat_le ss (i + 1)
        have h3 := HK.out
        rw [h1, HT.out] at h2
        (try simp only [List.length_append, List.length_cons, List.length_nil, Nat.zero_add] at h2)
        omega
      obtain ⟨y0_, hx0⟩ := HM.out.tp.int _ _ HX0.out
      have hf0 := HM.out.tp.fz' HX0.out HF0.out
      have hx1 := HM.out.tp.sl _ _ _ _ HX1.out
      go_wp2_with fail
      replace HM := Aside0.mk (Marked.putI (K := K0) ((K0 : Int)) HM.out (by have := HK.out; (try simp only [List.length_append, List.length_cons, List.length_nil] at this); (try simp only [List.length_append, List.length_cons, List.length_nil]); omega) (by omega) HX0.out)
      clear hx0 hf0 hx1
      refine (markStringS_any _ s1 (K0 + 1) (by omega) _ (RowOf.tp HM.out.tp HV1.out) (by omega) (by omega)).mono ?_
      rintro e w1 ⟨rfl, hm⟩
      replace HM := Aside0.mk (Marked.more HM.out (K := K0 + 1) (by have := HK.out; (try simp only [List.length_append, List.length_cons, List.length_nil] at this); (try simp only [List.length_append, List.length_cons, List.length_nil]); omega) hm)
      obtain ⟨K1, hK1⟩ : ∃ K_ : Nat, K_ = K0 + 1 + s1.length := ⟨_, rfl⟩
      rw [← hK1]
      have HE1 := Aside0.mk hK1
      replace HK := Aside0.mk (show K1 = a + ((ss.take i).flatten ++ [(g, i * 2, false)] ++ s1).length by have := HK.out; (try simp only [List.length_append, List.length_cons, List.length_nil] at this); (try simp only [List.length_append, List.length_cons, List.length_nil]); omega)
      have lK1 : K1 ≤ 9000000 := by omega
      have mK1 : 1 ≤ K1 := by omega
      clear hK1 hm
      go_wp2
      go_roundw
      case rel =>
        exact ⟨i + 1, K1, by omega, by go_num, by first | rfl | go_num, by omega, by omega, ⟨by rw [take_flat HS.out, HT.out]; have := HK.out; (try simp only [List.length_append, List.length_cons, List.length_nil] at this); (try simp only [List.length_append, List.length_cons, List.length_nil]); omega⟩, ⟨by rw [take_flat HS.out, HT.out]; have := HM.out; simpa only [List.append_assoc] using this⟩⟩
      case measure => simp [intOf]; omega
    · have hin : i = ss.length := by have := HN.out; omega
      have HL := Aside0.mk hin
      clear hin
      go_wp2
      go_ret
      have e := HK.out
      subst e
      rw [HL.out, List.take_length] at HM ⊢
      exact ⟨rfl, HM.out⟩
set_option maxHeartbeats 2000000 in
set_option maxRecDepth 100000 in
theorem markRecordSS_any (v : Value) (s : List Slot) (a : Nat) {ai : Int} (hai : ai = (a : Int)) (w : World) (hs : RowOf (Cel w tyRecordS) 1 v s) (h1 : 1 ≤ a) (hb : a + s.length ≤ 9000000) :
    Calls Try.prog 15 #[v, .int .i64 ai] w fun e w' => e = .returned (.int .i64 ((a + s.length : Nat) : Int)) ∧ Marked w w' s a := by
  subst hai
  obtain ⟨A, n, c, ss, rfl, hnc, hcm, hn, rfl, hel⟩ := hs.all
  have HEL := Aside0.mk hel
  have HN := Aside0.mk hn
  have HM := Aside0.mk (show Marked w w (ss.take 0).flatten a from Marked.nil (Below.refl _ _) a)
  have hnm : n ≤ 9223372036854775807 := by unfold maxLen at hcm; omega
  clear hel hn hs hcm hnc
  go_enter Try.func15, Try.ntmps15
  go_wp2
  go_loopw [1, 5] (fun v1 v5 wr => ∃ i K : Nat, i ≤ n ∧ v5 = .int .i64 i ∧ v1 = .int .i64 K ∧ 1 ≤ K ∧ K ≤ 9000000 ∧ Aside0 (K = a + (ss.take i).flatten.length) ∧ Aside0 (Marked w wr (ss.take i).flatten a)) (fun _ v5 _ => n - (intOf v5).toNat)
  case atStart => exact ⟨0, a, Nat.zero_le _, rfl, rfl, h1, by omega, ⟨by simp⟩, HM⟩
  case round =>
    clear HM
    obtain ⟨i, K0, hi, rfl, rfl, hK1, hK2, HK, HM⟩ := hrel
    by_cases hlt : i < n
    · have hsl := List.getElem?_eq_getElem (show i < ss.length by have := HN.out; omega)
      obtain ⟨g, hA, hc⟩ := HEL.out i _ hsl
      subst hA
      generalize ss[i]'(by have := HN.out; omega) = t at hsl hc
      have HS := Aside0.mk hsl
      rw [Nat.mul_one] at hc
      obtain ⟨v0, s0, r0, hx0, hv0, ht0, hrn⟩ := hc
      obtain rfl : r0 = [] := hrn
      have HT := Aside0.mk (show t = s0 by rw [ht0]; first | done | simp)
      clear ht0 hsl
      obtain ⟨A0, n0, c0, rfl⟩ := hv0.slice
      have HX0 := Aside0.mk (show w.cell? ⟨g, i, none⟩ = some (.slice A0 n0 c0) from hx0)
      have HV0 := Aside0.mk hv0
      clear hx0 hv0
      have hle : K0 + (s0.length) ≤ 9000000 := by
        have h1 := take_flat HS.out
        have h2 := flat_le ss (i + 1)
        have h3 := HK.out
        rw [h1, HT.out] at h2
        (try simp only [List.length_append, List.length_cons, List.length_nil, Nat.zero_add] at h2)
        omega
      have hx0 := HM.out.tp.sl _ _ _ _ HX0.out
      go_wp2_with fail
      clear hx0
      refine (markRecordS_any _ s0 (K0) (by omega) _ (RowOf.tp HM.out.tp HV0.out) (by omega) (by omega)).mono ?_
      rintro e w1 ⟨rfl, hm⟩
      replace HM := Aside0.mk (Marked.more HM.out (K := K0) (by have := HK.out; (try simp only [List.length_append, List.length_cons, List.length_nil] at this); (try simp only [List.length_append, List.length_cons, List.length_nil]); omega) hm)
      obtain ⟨K1, hK1⟩ : ∃ K_ : Nat, K_ = K0 + s0.length := ⟨_, rfl⟩
      rw [← hK1]
      have HE1 := Aside0.mk hK1
      replace HK := Aside0.mk (show K1 = a + ((ss.take i).flatten ++ s0).length by have := HK.out; (try simp only [List.length_append, List.length_cons, List.length_nil] at this); (try simp only [List.length_append, List.length_cons, List.length_nil]); omega)
      have lK1 : K1 ≤ 9000000 := by omega
      have mK1 : 1 ≤ K1 := by omega
      clear hK1 hm
      go_wp2
      go_roundw
      case rel =>
        exact ⟨i + 1, K1, by omega, by go_num, by first | rfl | go_num, by omega, by omega, ⟨by rw [take_flat HS.out, HT.out]; have := HK.out; (try simp only [List.length_append, List.length_cons, List.length_nil] at this); (try simp only [List.length_append, List.length_cons, List.length_nil]); omega⟩, ⟨by rw [take_flat HS.out, HT.out]; have := HM.out; simpa only [List.append_assoc] using this⟩⟩
      case measure => simp [intOf]; omega
    · have hin : i = ss.length := by have := HN.out; omega
      have HL := Aside0.mk hin
      clear hin
      go_wp2
      go_ret
      have e := HK.out
      subst e
      rw [HL.out, List.take_length] at HM ⊢
      exact ⟨rfl, HM.out⟩
set_option maxHeartbeats 2000000 in
set_option maxRecDepth 100000 in
theorem markFuncS_any (v : Value) (s : List Slot) (a : Nat) {ai : Int} (hai : ai = (a : Int)) (w : World) (hs : RowOf (Cel w tyFunc) 6 v s) (h1 : 1 ≤ a) (hb : a + s.length ≤ 9000000) :
    Calls Try.prog 33 #[v, .int .i64 ai] w fun e w' => e = .returned (.int .i64 ((a + s.length : Nat) : Int)) ∧ Marked w w' s a := by
  subst hai
  obtain ⟨A, n, c, ss, rfl, hnc, hcm, hn, rfl, hel⟩ := hs.all
  have HEL := Aside0.mk hel
  have HN := Aside0.mk hn
  have HM := Aside0.mk (show Marked w w (ss.take 0).flatten a from Marked.nil (Below.refl _ _) a)
  have hnm : n ≤ 9223372036854775807 := by unfold maxLen at hcm; omega
  clear hel hn hs hcm hnc
  go_enter Try.func33, Try.ntmps33
  go_wp2
  go_loopw [1, 5] (fun v1 v5 wr => ∃ i K : Nat, i ≤ n ∧ v5 = .int .i64 i ∧ v1 = .int .i64 K ∧ 1 ≤ K ∧ K ≤ 9000000 ∧ Aside0 (K = a + (ss.take i).flatten.length) ∧ Aside0 (Marked w wr (ss.take i).flatten a)) (fun _ v5 _ => n - (intOf v5).toNat)
  case atStart => exact ⟨0, a, Nat.zero_le _, rfl, rfl, h1, by omega, ⟨by simp⟩, HM⟩
  case round =>
    clear HM
    obtain ⟨i, K0, hi, rfl, rfl, hK1, hK2, HK, HM⟩ := hrel
    by_cases hlt : i < n
    · have hsl := List.getElem?_eq_getElem (show i < ss.length by have := HN.out; omega)
      obtain ⟨g, hA, hc⟩ := HEL.out i _ hsl
      subst hA
      generalize ss[i]'(by have := HN.out; omega) = t at hsl hc
      have HS := Aside0.mk hsl
      obtain ⟨⟨z0, hx0⟩, hf0, r0, ht0, v1, s1, r1, hx1, hv1, ht1, v2, s2, r2, hx2, hv2, ht2, v3, s3, r3, hx3, hv3, ht3, v4, s4, r4, hx4, hv4, ht4, v5, s5, r5, hx5, hv5, ht5, hrn⟩ := hc
      obtain rfl : r5 = [] := hrn
      subst ht5
      subst ht4
      subst ht3
      subst ht2
      subst ht1
      have HT := Aside0.mk (show t = [(g, i * 6, false)] ++ s1 ++ s2 ++ s3 ++ s4 ++ s5 by rw [ht0]; first | done | simp)
      clear ht0 hsl
      have HX0 := Aside0.mk (show w.cell? ⟨g, i * 6, none⟩ = some (.int .i64 z0) from hx0)
      have HF0 := Aside0.mk (show w.frozen? ⟨g, i * 6, none⟩ = false from hf0)
      clear hx0 hf0
      obtain ⟨A1, n1, c1, rfl⟩ := hv1.slice
      have HX1 := Aside0.mk (show w.cell? ⟨g, i * 6 + 1, none⟩ = some (.slice A1 n1 c1) from hx1)
      have HV1 := Aside0.mk hv1
      clear hx1 hv1
      obtain ⟨A2, n2, c2, rfl⟩ := hv2.slice
      have HX2 := Aside0.mk (show w.cell? ⟨g, i * 6 + 2, none⟩ = some (.slice A2 n2 c2) from hx2)
      have HV2 := Aside0.mk hv2
      clear hx2 hv2
      obtain ⟨A3, n3, c3, rfl⟩ := hv3.slice
      have HX3 := Aside0.mk (show w.cell? ⟨g, i * 6 + 3, none⟩ = some (.slice A3 n3 c3) from hx3)
      have HV3 := Aside0.mk hv3
      clear hx3 hv3
      obtain ⟨A4, n4, c4, rfl⟩ := hv4.slice
      have HX4 := Aside0.mk (show w.cell? ⟨g, i * 6 + 4, none⟩ = some (.slice A4 n4 c4) from hx4)
      have HV4 := Aside0.mk hv4
      clear hx4 hv4
      obtain ⟨A5, n5, c5, rfl⟩ := hv5.slice
      have HX5 := Aside0.mk (show w.cell? ⟨g, i * 6 + 5, none⟩ = some (.slice A5 n5 c5) from hx5)
      have HV5 := Aside0.mk hv5
      clear hx5 hv5
      have hle : K0 + (1 + s1.length + s2.length + s3.length + s4.length + s5.length) ≤ 9000000 := by
        have h1 := take_flat HS.out
        have h2 := flat_le ss (i + 1)
        have h3 := HK.out
        rw [h1, HT.out] at h2
        (try simp only [List.length_append, List.length_cons, List.length_nil, Nat.zero_add] at h2)
        omega
      obtain ⟨y0_, hx0⟩ := HM.out.tp.int _ _ HX0.out
      have hf0 := HM.out.tp.fz' HX0.out HF0.out
      have hx1 := HM.out.tp.sl _ _ _ _ HX1.out
      go_wp2_with fail
      replace HM := Aside0.mk (Marked.putI (K := K0) ((K0 : Int)) HM.out (by have := HK.out; (try simp only [List.length_append, List.length_cons, List.length_nil] at this); (try simp only [List.length_append, List.length_cons, List.length_nil]); omega) (by omega) HX0.out)
      clear hx0 hf0 hx1
      refine (markStringS_any _ s1 (K0 + 1) (by omega) _ (RowOf.tp HM.out.tp HV1.out) (by omega) (by omega)).mono ?_
      rintro e w1 ⟨rfl, hm⟩
      replace HM := Aside0.mk (Marked.more HM.out (K := K0 + 1) (by have := HK.out; (try simp only [List.length_append, List.length_cons, List.length_nil] at this); (try simp only [List.length_append, List.length_cons, List.length_nil]); omega) hm)
      obtain ⟨K1, hK1⟩ : ∃ K_ : Nat, K_ = K0 + 1 + s1.length := ⟨_, rfl⟩
      rw [← hK1]
      have HE1 := Aside0.mk hK1
      replace HK := Aside0.mk (show K1 = a + ((ss.take i).flatten ++ [(g, i * 6, false)] ++ s1).length by have := HK.out; (try simp only [List.length_append, List.length_cons, List.length_nil] at this); (try simp only [List.length_append, List.length_cons, List.length_nil]); omega)
      have lK1 : K1 ≤ 9000000 := by omega
      have mK1 : 1 ≤ K1 := by omega
      clear hK1 hm
      replace hle : K1 + (s2.length + s3.length + s4.length + s5.length) ≤ 9000000 := by have := HE1.out; omega
      have hx2 := HM.out.tp.sl _ _ _ _ HX2.out
      go_wp2_with fail
      clear hx2
      refine (markStringS_any _ s2 (K1) (by omega) _ (RowOf.tp HM.out.tp HV2.out) (by omega) (by omega)).mono ?_
      rintro e w2 ⟨rfl, hm⟩
      replace HM := Aside0.mk (Marked.more HM.out (K := K1) (by have := HK.out; (try simp only [List.length_append, List.length_cons, List.length_nil] at this); (try simp only [List.length_append, List.length_cons, List.length_nil]); omega) hm)
      obtain ⟨K2, hK2⟩ : ∃ K_ : Nat, K_ = K1 + s2.length := ⟨_, rfl⟩
      rw [← hK2]
      have HE2 := Aside0.mk hK2
      replace HK := Aside0.mk (show K2 = a + ((ss.take i).flatten ++ [(g, i * 6, false)] ++ s1 ++ s2).length by have := HK.out; (try simp only [List.length_append, List.length_cons, List.length_nil] at this); (try simp only [List.length_append, List.length_cons, List.length_nil]); omega)
      have lK2 : K2 ≤ 9000000 := by omega
      have mK2 : 1 ≤ K2 := by omega
      clear hK2 hm
      replace hle : K2 + (s3.length + s4.length + s5.length) ≤ 9000000 := by have := HE2.out; omega
      have hx3 := HM.out.tp.sl _ _ _ _ HX3.out
      go_wp2_with fail
      clear hx3
      refine (markStringS_any _ s3 (K2) (by omega) _ (RowOf.tp HM.out.tp HV3.out) (by omega) (by omega)).mono ?_
      rintro e w3 ⟨rfl, hm⟩
      replace HM := Aside0.mk (Marked.more HM.out (K := K2) (by have := HK.out; (try simp only [List.length_append, List.length_cons, List.length_nil] at this); (try simp only [List.length_append, List.length_cons, List.length_nil]); omega) hm)
      obtain ⟨K3, hK3⟩ : ∃ K_ : Nat, K_ = K2 + s3.length := ⟨_, rfl⟩
      rw [← hK3]
      have HE3 := Aside0.mk hK3
      replace HK := Aside0.mk (show K3 = a + ((ss.take i).flatten ++ [(g, i * 6, false)] ++ s1 ++ s2 ++ s3).length by have := HK.out; (try simp only [List.length_append, List.length_cons, List.length_nil] at this); (try simp only [List.length_append, List.length_cons, List.length_nil]); omega)
      have lK3 : K3 ≤ 9000000 := by omega
      have mK3 : 1 ≤ K3 := by omega
      clear hK3 hm
      replace hle : K3 + (s4.length + s5.length) ≤ 9000000 := by have := HE3.out; omega
      have hx4 := HM.out.tp.sl _ _ _ _ HX4.out
      go_wp2_with fail
      clear hx4
      refine (markIntS_any _ s4 (K3) (by omega) _ (RowOf.tp HM.out.tp HV4.out) (by omega) (by omega)).mono ?_
      rintro e w4 ⟨rfl, hm⟩
      replace HM := Aside0.mk (Marked.more HM.out (K := K3) (by have := HK.out; (try simp only [List.length_append, List.length_cons, List.length_nil] at this); (try simp only [List.length_append, List.length_cons, List.length_nil]); omega) hm)
      obtain ⟨K4, hK4⟩ : ∃ K_ : Nat, K_ = K3 + s4.length := ⟨_, rfl⟩
      rw [← hK4]
      have HE4 := Aside0.mk hK4
      replace HK := Aside0.mk (show K4 = a + ((ss.take i).flatten ++ [(g, i * 6, false)] ++ s1 ++ s2 ++ s3 ++ s4).length by have := HK.out; (try simp only [List.length_append, List.length_cons, List.length_nil] at this); (try simp only [List.length_append, List.length_cons, List.length_nil]); omega)
      have lK4 : K4 ≤ 9000000 := by omega
      have mK4 : 1 ≤ K4 := by omega
      clear hK4 hm
      replace hle : K4 + (s5.length) ≤ 9000000 := by have := HE4.out; omega
      have hx5 := HM.out.tp.sl _ _ _ _ HX5.out
      go_wp2_with fail
      clear hx5
      refine (markInsS_any _ s5 (K4) (by omega) _ (RowOf.tp HM.out.tp HV5.out) (by omega) (by omega)).mono ?_
      rintro e w5 ⟨rfl, hm⟩
      replace HM := Aside0.mk (Marked.more HM.out (K := K4) (by have := HK.out; (try simp only [List.length_append, List.length_cons, List.length_nil] at this); (try simp only [List.length_append, List.length_cons, List.length_nil]); omega) hm)
      obtain ⟨K5, hK5⟩ : ∃ K_ : Nat, K_ = K4 + s5.length := ⟨_, rfl⟩
      rw [← hK5]
      have HE5 := Aside0.mk hK5
      replace HK := Aside0.mk (show K5 = a + ((ss.take i).flatten ++ [(g, i * 6, false)] ++ s1 ++ s2 ++ s3 ++ s4 ++ s5).length by have := HK.out; (try simp only [List.length_append, List.length_cons, List.length_nil] at this); (try simp only [List.length_append, List.length_cons, List.length_nil]); omega)
      have lK5 : K5 ≤ 9000000 := by omega
      have mK5 : 1 ≤ K5 := by omega
      clear hK5 hm
      go_wp2
      go_roundw
      case rel =>
        exact ⟨i + 1, K5, by omega, by go_num, by first | rfl | go_num, by omega, by omega, ⟨by rw [take_flat HS.out, HT.out]; have := HK.out; (try simp only [List.length_append, List.length_cons, List.length_nil] at this); (try simp only [List.length_append, List.length_cons, List.length_nil]); omega⟩, ⟨by rw [take_flat HS.out, HT.out]; have := HM.out; simpa only [List.append_assoc] using this⟩⟩
      case measure => simp [intOf]; omega
    · have hin : i = ss.length := by have := HN.out; omega
      have HL := Aside0.mk hin
      clear hin
      go_wp2
      go_ret
      have e := HK.out
      subst e
      rw [HL.out, List.take_length] at HM ⊢
      exact ⟨rfl, HM.out⟩
set_option maxHeartbeats 2000000 in
set_option maxRecDepth 100000 in
theorem markModuleS_any (v : Value) (s : List Slot) (a : Nat) {ai : Int} (hai : ai = (a : Int)) (w : World) (hs : RowOf (Cel w tyModule) 3 v s) (h1 : 1 ≤ a) (hb : a + s.length ≤ 9000000) :
    Calls Try.prog 14 #[v, .int .i64 ai] w fun e w' => e = .returned (.int .i64 ((a + s.length : Nat) : Int)) ∧ Marked w w' s a := by
  subst hai
  obtain ⟨A, n, c, ss, rfl, hnc, hcm, hn, rfl, hel⟩ := hs.all
  have HEL := Aside0.mk hel
  have HN := Aside0.mk hn
  have HM := Aside0.mk (show Marked w w (ss.take 0).flatten a from Marked.nil (Below.refl _ _) a)
  have hnm : n ≤ 9223372036854775807 := by unfold maxLen at hcm; omega
  clear hel hn hs hcm hnc
  go_enter Try.func14, Try.ntmps14
  go_wp2
  go_loopw [1, 5] (fun v1 v5 wr => ∃ i K : Nat, i ≤ n ∧ v5 = .int .i64 i ∧ v1 = .int .i64 K ∧ 1 ≤ K ∧ K ≤ 9000000 ∧ Aside0 (K = a + (ss.take i).flatten.length) ∧ Aside0 (Marked w wr (ss.take i).flatten a)) (fun _ v5 _ => n - (intOf v5).toNat)
  case atStart => exact ⟨0, a, Nat.zero_le _, rfl, rfl, h1, by omega, ⟨by simp⟩, HM⟩
  case round =>
    clear HM
    obtain ⟨i, K0, hi, rfl, rfl, hK1, hK2, HK, HM⟩ := hrel
    by_cases hlt : i < n
    · have hsl := List.getElem?_eq_getElem (show i < ss.length by have := HN.out; omega)
      obtain ⟨g, hA, hc⟩ := HEL.out i _ hsl
      subst hA
      generalize ss[i]'(by have := HN.out; omega) = t at hsl hc
      have HS := Aside0.mk hsl
      obtain ⟨v0, s0, r0, hx0, hv0, ht0, v1, s1, r1, hx1, hv1, ht1, v2, s2, r2, hx2, hv2, ht2, hrn⟩ := hc
      obtain rfl : r2 = [] := hrn
      subst ht2
      subst ht1
      have HT := Aside0.mk (show t = s0 ++ s1 ++ s2 by rw [ht0]; first | done | simp)
      clear ht0 hsl
      obtain ⟨A0, n0, c0, rfl⟩ := hv0.slice
      have HX0 := Aside0.mk (show w.cell? ⟨g, i * 3, none⟩ = some (.slice A0 n0 c0) from hx0)
      have HV0 := Aside0.mk hv0
      clear hx0 hv0
      obtain ⟨A1, n1, c1, rfl⟩ := hv1.slice
      have HX1 := Aside0.mk (show w.cell? ⟨g, i * 3 + 1, none⟩ = some (.slice A1 n1 c1) from hx1)
      have HV1 := Aside0.mk hv1
      clear hx1 hv1
      obtain ⟨A2, n2, c2, rfl⟩ := hv2.slice
      have HX2 := Aside0.mk (show w.cell? ⟨g, i * 3 + 2, none⟩ = some (.slice A2 n2 c2) from hx2)
      have HV2 := Aside0.mk hv2
      clear hx2 hv2
      have hle : K0 + (s0.length + s1.length + s2.length) ≤ 9000000 := by
        have h1 := take_flat HS.out
        have h2 := flat_le ss (i + 1)
        have h3 := HK.out
        rw [h1, HT.out] at h2
        (try simp only [List.length_append, List.length_cons, List.length_nil, Nat.zero_add] at h2)
        omega
      have hx0 := HM.out.tp.sl _ _ _ _ HX0.out
      go_wp2_with fail
      clear hx0
      refine (markRecordS_any _ s0 (K0) (by omega) _ (RowOf.tp HM.out.tp HV0.out) (by omega) (by omega)).mono ?_
      rintro e w1 ⟨rfl, hm⟩
      replace HM := Aside0.mk (Marked.more HM.out (K := K0) (by have := HK.out; (try simp only [List.length_append, List.length_cons, List.length_nil] at this); (try simp only [List.length_append, List.length_cons, List.length_nil]); omega) hm)
      obtain ⟨K1, hK1⟩ : ∃ K_ : Nat, K_ = K0 + s0.length := ⟨_, rfl⟩
      rw [← hK1]
      have HE1 := Aside0.mk hK1
      replace HK := Aside0.mk (show K1 = a + ((ss.take i).flatten ++ s0).length by have := HK.out; (try simp only [List.length_append, List.length_cons, List.length_nil] at this); (try simp only [List.length_append, List.length_cons, List.length_nil]); omega)
      have lK1 : K1 ≤ 9000000 := by omega
      have mK1 : 1 ≤ K1 := by omega
      clear hK1 hm
      replace hle : K1 + (s1.length + s2.length) ≤ 9000000 := by have := HE1.out; omega
      have hx1 := HM.out.tp.sl _ _ _ _ HX1.out
      go_wp2_with fail
      clear hx1
      refine (markFuncS_any _ s1 (K1) (by omega) _ (RowOf.tp HM.out.tp HV1.out) (by omega) (by omega)).mono ?_
      rintro e w2 ⟨rfl, hm⟩
      replace HM := Aside0.mk (Marked.more HM.out (K := K1) (by have := HK.out; (try simp only [List.length_append, List.length_cons, List.length_nil] at this); (try simp only [List.length_append, List.length_cons, List.length_nil]); omega) hm)
      obtain ⟨K2, hK2⟩ : ∃ K_ : Nat, K_ = K1 + s1.length := ⟨_, rfl⟩
      rw [← hK2]
      have HE2 := Aside0.mk hK2
      replace HK := Aside0.mk (show K2 = a + ((ss.take i).flatten ++ s0 ++ s1).length by have := HK.out; (try simp only [List.length_append, List.length_cons, List.length_nil] at this); (try simp only [List.length_append, List.length_cons, List.length_nil]); omega)
      have lK2 : K2 ≤ 9000000 := by omega
      have mK2 : 1 ≤ K2 := by omega
      clear hK2 hm
      replace hle : K2 + (s2.length) ≤ 9000000 := by have := HE2.out; omega
      have hx2 := HM.out.tp.sl _ _ _ _ HX2.out
      go_wp2_with fail
      clear hx2
      refine (markIntS_any _ s2 (K2) (by omega) _ (RowOf.tp HM.out.tp HV2.out) (by omega) (by omega)).mono ?_
      rintro e w3 ⟨rfl, hm⟩
      replace HM := Aside0.mk (Marked.more HM.out (K := K2) (by have := HK.out; (try simp only [List.length_append, List.length_cons, List.length_nil] at this); (try simp only [List.length_append, List.length_cons, List.length_nil]); omega) hm)
      obtain ⟨K3, hK3⟩ : ∃ K_ : Nat, K_ = K2 + s2.length := ⟨_, rfl⟩
      rw [← hK3]
      have HE3 := Aside0.mk hK3
      replace HK := Aside0.mk (show K3 = a + ((ss.take i).flatten ++ s0 ++ s1 ++ s2).length by have := HK.out; (try simp only [List.length_append, List.length_cons, List.length_nil] at this); (try simp only [List.length_append, List.length_cons, List.length_nil]); omega)
      have lK3 : K3 ≤ 9000000 := by omega
      have mK3 : 1 ≤ K3 := by omega
      clear hK3 hm
      go_wp2
      go_roundw
      case rel =>
        exact ⟨i + 1, K3, by omega, by go_num, by first | rfl | go_num, by omega, by omega, ⟨by rw [take_flat HS.out, HT.out]; have := HK.out; (try simp only [List.length_append, List.length_cons, List.length_nil] at this); (try simp only [List.length_append, List.length_cons, List.length_nil]); omega⟩, ⟨by rw [take_flat HS.out, HT.out]; have := HM.out; simpa only [List.append_assoc] using this⟩⟩
      case measure => simp [intOf]; omega
    · have hin : i = ss.length := by have := HN.out; omega
      have HL := Aside0.mk hin
      clear hin
      go_wp2
      go_ret
      have e := HK.out
      subst e
      rw [HL.out, List.take_length] at HM ⊢
      exact ⟨rfl, HM.out⟩
section
def key (p : Slot) : Nat × Nat := (p.1, p.2.1)
/-- The elements of kind d are cells of the form t; D: what they lead to is apart. -/
structure Fits (D : Prop) {α : Type} (d : Kd α) (t : Ty) (cnt : α → Nat) : Prop where
  sz : d.sz = t.sz
  go : ∀ (w : World) (base : Nat) (ok : Nat → Prop) (x : α) (cs : List Value) (g o : Nat), d.M w base ok x cs → (∀ j u, cs[j]? = some u → w.cell? ⟨g, o + j, none⟩ = some u ∧ w.frozen? ⟨g, o + j, none⟩ = false) →
    ∃ sl, Cel w t g o sl ∧ (∀ p ∈ sl, (p.1 = g ∧ o ≤ p.2.1 ∧ p.2.1 < o + t.sz) ∨ (ok p.1 ∧ base ≤ p.1)) ∧ (D → ¬ ok g → (sl.map key).Nodup) ∧ sl.length = cnt x
theorem Fits.iso {D : Prop} {α β : Type} {d : Kd α} {t : Ty} {cnt : α → Nat} (h : Fits D d t cnt) (f : β → α) : Fits D (Kd.iso d f) t (fun x => cnt (f x)) := ⟨h.sz, fun w base ok x cs g o hM hc => h.go w base ok (f x) cs g o hM hc⟩
theorem fits_int {D : Prop} : Fits D (Kd.int .i64) (.int .nil) (fun _ => 1) := ⟨rfl, fun w base ok x cs g o hM hc => by
  obtain rfl : cs = [.int .i64 x] := hM
  obtain ⟨h1, h2⟩ := hc 0 _ rfl
  refine ⟨[(g, o, false)], ⟨⟨_, h1⟩, h2, [], rfl, rfl⟩, fun p hp => .inl ?_, fun _ _ => by simp, rfl⟩
  obtain rfl := List.mem_singleton.1 hp
  exact ⟨rfl, Nat.le_refl _, Nat.lt_succ_self _⟩⟩
theorem fits_str {D : Prop} : Fits D Kd.string (.str .nil) (fun _ => 1) := ⟨rfl, fun w base ok x cs g o hM hc => by
  obtain rfl : cs = [.string x] := hM
  obtain ⟨h1, h2⟩ := hc 0 _ rfl
  refine ⟨[(g, o, true)], ⟨⟨_, h1⟩, h2, [], rfl, rfl⟩, fun p hp => .inl ?_, fun _ _ => by simp, rfl⟩
  obtain rfl := List.mem_singleton.1 hp
  exact ⟨rfl, Nat.le_refl _, Nat.lt_succ_self _⟩⟩
/-- One cell, then the others. -/
theorem fits_cons {D : Prop} {base : Nat} {ok : Nat → Prop} {t : Ty} {g o : Nat} {b : Bool} {r : List Slot} (hin : ∀ p ∈ r, (p.1 = g ∧ o + 1 ≤ p.2.1 ∧ p.2.1 < o + 1 + t.sz) ∨ (ok p.1 ∧ base ≤ p.1)) (hnd : D → ¬ ok g → (r.map key).Nodup) :
    (∀ p ∈ (g, o, b) :: r, (p.1 = g ∧ o ≤ p.2.1 ∧ p.2.1 < o + (t.sz + 1)) ∨ (ok p.1 ∧ base ≤ p.1)) ∧ (D → ¬ ok g → (((g, o, b) :: r).map key).Nodup) := by
  refine ⟨fun p hp => ?_, fun hD hg => ?_⟩
  · rcases List.mem_cons.1 hp with rfl | hp
    · exact .inl ⟨rfl, Nat.le_refl _, by show o < _; omega⟩
    · rcases hin p hp with ⟨h1, h2, h3⟩ | h
      · exact .inl ⟨h1, by omega, by omega⟩
      · exact .inr h
  · rw [List.map_cons, List.nodup_cons]
    refine ⟨fun hm => ?_, hnd hD hg⟩
    obtain ⟨p, hp, he⟩ := List.mem_map.1 hm
    have e1 : p.1 = g := (Prod.mk.inj he).1
    have e2 : p.2.1 = o := (Prod.mk.inj he).2
    rcases hin p hp with ⟨_, h2, _⟩ | h
    · omega
    · exact hg (e1 ▸ h.1)
theorem tail_cells {w : World} {g o : Nat} {c : Value} {cs : List Value} (hc : ∀ j u, (c :: cs)[j]? = some u → w.cell? ⟨g, o + j, none⟩ = some u ∧ w.frozen? ⟨g, o + j, none⟩ = false) :
    ∀ j u, cs[j]? = some u → w.cell? ⟨g, o + 1 + j, none⟩ = some u ∧ w.frozen? ⟨g, o + 1 + j, none⟩ = false := fun j u hu => by
  have := hc (j + 1) u (by simpa using hu)
  rwa [show o + (j + 1) = o + 1 + j by omega] at this
theorem fits_int_pr {α : Type} {b : Kd α} {t : Ty} {cnt : α → Nat} (h : Fits True b t cnt) : Fits True (pr (Kd.int .i64) b) (.int t) (fun x => 1 + cnt x.2) := ⟨by show 1 + b.sz = t.sz + 1; rw [h.sz, Nat.add_comm], fun w base ok x cs g o hM hc => by
  obtain ⟨c0, c1, rfl, p, h0, h1⟩ := hM
  obtain rfl : c0 = [.int .i64 x.1] := h0
  obtain ⟨r, hr, hin, hnd, hct⟩ := h.go w base _ x.2 c1 g (o + 1) h1 (tail_cells hc)
  obtain ⟨hA, hB⟩ := fits_cons (b := false) (D := True) (ok := ok) (fun p hp => (hin p hp).imp id (fun h => ⟨h.1.1, h.2⟩)) (fun hD hg => hnd hD (fun hk => hg hk.1))
  exact ⟨_, ⟨⟨_, (hc 0 _ rfl).1⟩, (hc 0 _ rfl).2, r, rfl, hr⟩, hA, hB, by rw [List.length_cons, hct, Nat.add_comm]⟩⟩
theorem fits_str_pr {α : Type} {b : Kd α} {t : Ty} {cnt : α → Nat} (h : Fits True b t cnt) : Fits True (pr Kd.string b) (.str t) (fun x => 1 + cnt x.2) := ⟨by show 1 + b.sz = t.sz + 1; rw [h.sz, Nat.add_comm], fun w base ok x cs g o hM hc => by
  obtain ⟨c0, c1, rfl, p, h0, h1⟩ := hM
  obtain rfl : c0 = [.string x.1] := h0
  obtain ⟨r, hr, hin, hnd, hct⟩ := h.go w base _ x.2 c1 g (o + 1) h1 (tail_cells hc)
  obtain ⟨hA, hB⟩ := fits_cons (b := true) (D := True) (ok := ok) (fun p hp => (hin p hp).imp id (fun h => ⟨h.1.1, h.2⟩)) (fun hD hg => hnd hD (fun hk => hg hk.1))
  exact ⟨_, ⟨⟨_, (hc 0 _ rfl).1⟩, (hc 0 _ rfl).2, r, rfl, hr⟩, hA, hB, by rw [List.length_cons, hct, Nat.add_comm]⟩⟩
theorem fits_int_pair {α : Type} {b : Kd α} {t : Ty} {cnt : α → Nat} (h : Fits False b t cnt) : Fits False (Kd.pair (Kd.int .i64) b) (.int t) (fun x => 1 + cnt x.2) := ⟨by show 1 + b.sz = t.sz + 1; rw [h.sz, Nat.add_comm], fun w base ok x cs g o hM hc => by
  obtain ⟨c0, c1, rfl, h0, h1⟩ := hM
  obtain rfl : c0 = [.int .i64 x.1] := h0
  obtain ⟨r, hr, hin, hnd, hct⟩ := h.go w base _ x.2 c1 g (o + 1) h1 (tail_cells hc)
  obtain ⟨hA, _⟩ := fits_cons (b := false) (D := False) (ok := ok) hin (fun hD => hD.elim)
  exact ⟨_, ⟨⟨_, (hc 0 _ rfl).1⟩, (hc 0 _ rfl).2, r, rfl, hr⟩, hA, fun hD => hD.elim, by rw [List.length_cons, hct, Nat.add_comm]⟩⟩
theorem fits_str_pair {α : Type} {b : Kd α} {t : Ty} {cnt : α → Nat} (h : Fits False b t cnt) : Fits False (Kd.pair Kd.string b) (.str t) (fun x => 1 + cnt x.2) := ⟨by show 1 + b.sz = t.sz + 1; rw [h.sz, Nat.add_comm], fun w base ok x cs g o hM hc => by
  obtain ⟨c0, c1, rfl, h0, h1⟩ := hM
  obtain rfl : c0 = [.string x.1] := h0
  obtain ⟨r, hr, hin, hnd, hct⟩ := h.go w base _ x.2 c1 g (o + 1) h1 (tail_cells hc)
  obtain ⟨hA, _⟩ := fits_cons (b := true) (D := False) (ok := ok) hin (fun hD => hD.elim)
  exact ⟨_, ⟨⟨_, (hc 0 _ rfl).1⟩, (hc 0 _ rfl).2, r, rfl, hr⟩, hA, fun hD => hD.elim, by rw [List.length_cons, hct, Nat.add_comm]⟩⟩
theorem choose_list {α : Type} {P : Nat → α → Prop} : ∀ n, (∀ j, j < n → ∃ t, P j t) → ∃ ss : List α, ss.length = n ∧ ∀ j t, ss[j]? = some t → P j t
  | 0, _ => ⟨[], rfl, fun j t h => by simp at h⟩
  | n + 1, h => by
    obtain ⟨ss, hl, hs⟩ := choose_list n (fun j hj => h j (by omega))
    obtain ⟨t, ht⟩ := h n (Nat.lt_succ_self n)
    refine ⟨ss ++ [t], by simp [hl], fun j u hu => ?_⟩
    rcases Nat.lt_or_ge j n with hj | hj
    · rw [List.getElem?_append_left (by omega)] at hu
      exact hs j u hu
    · rw [List.getElem?_append_right (by omega), hl] at hu
      rcases Nat.eq_zero_or_pos (j - n) with h0 | h0
      · rw [h0] at hu
        obtain rfl : t = u := by simpa using hu
        rwa [show j = n by omega]
      · rw [List.getElem?_eq_none (by simp; omega)] at hu; cases hu
theorem nodup_flat {ss : List (List Slot)} (h1 : ∀ l ∈ ss, (l.map key).Nodup) (h2 : ∀ (i j : Nat) (s t : List Slot), i < j → ss[i]? = some s → ss[j]? = some t → ∀ p ∈ s, ∀ q ∈ t, key p ≠ key q) : (ss.flatten.map key).Nodup := by
  rw [List.map_flatten, List.nodup_iff_pairwise_ne, List.pairwise_flatten]
  refine ⟨fun l hl => ?_, ?_⟩
  · obtain ⟨m, hm, rfl⟩ := List.mem_map.1 hl
    exact List.nodup_iff_pairwise_ne.1 (h1 m hm)
  · rw [List.pairwise_map, List.pairwise_iff_getElem]
    intro i j hi hj hij x hx y hy
    obtain ⟨p, hp, rfl⟩ := List.mem_map.1 hx
    obtain ⟨q, hq, rfl⟩ := List.mem_map.1 hy
    exact h2 i j _ _ hij (List.getElem?_eq_getElem hi) (List.getElem?_eq_getElem hj) p hp q hq
/-- A row of the call's own, seen through some room: its cells. -/
theorem sum_flat {α : Type} {cnt : α → Nat} : ∀ (xs : List α) (ss : List (List Slot)), ss.length = xs.length → (∀ (j : Nat) (s : List Slot) (x : α), ss[j]? = some s → xs[j]? = some x → s.length = cnt x) → ss.flatten.length = (xs.map cnt).sum
  | [], ss, h, _ => by
    obtain rfl := List.eq_nil_of_length_eq_zero h
    rfl
  | x :: xs, [], h, _ => by simp at h
  | x :: xs, s :: ss, h, hs => by
    rw [List.flatten_cons, List.length_append, List.map_cons, List.sum_cons, sum_flat xs ss (by simpa using h) (fun j s x h1 h2 => hs (j + 1) s x (by simpa using h1) (by simpa using h2)), hs 0 s x rfl rfl]
theorem R_slots {α : Type} {d : Kd α} {t : Ty} {cnt : α → Nat} (hF : Fits False d t cnt) {e base : Nat} {ok : Nat → Prop} {w : World} {v : Value} {xs : List α} (h : d.R e w base ok v xs) (c : Nat) (hc : xs.length ≤ c) :
    ∃ s, RowOf (Cel w t) t.sz (cutV v c) s ∧ (∀ p ∈ s, ok p.1 ∧ base ≤ p.1) ∧ s.length = (xs.map cnt).sum := by
  obtain ⟨A, c0, rfl, hc0, hC⟩ := Kd.R_reads h
  rcases A with _ | ad
  · have h0 : xs.length = 0 := by
      rcases Nat.eq_zero_or_pos xs.length with h0 | h0
      · exact h0
      · obtain ⟨ad, he, _⟩ := hC.2.2 h0
        cases he
    exact ⟨[], .inl ⟨c, by rw [h0]; rfl, rfl⟩, (fun p hp => by cases hp), by rw [List.eq_nil_of_length_eq_zero h0]; rfl⟩
  · obtain ⟨g, rfl⟩ := Kd.R_head h
    have hbase : ok g ∧ base ≤ g := ⟨h.1 g rfl, Kd.R_base h g rfl⟩
    obtain ⟨ss, hl, hs⟩ := choose_list (P := fun j s => Cel w t g (j * t.sz) s ∧ (∀ p ∈ s, ok p.1 ∧ base ≤ p.1) ∧ ∀ x, xs[j]? = some x → s.length = cnt x) xs.length (fun j hj => by
      obtain ⟨cs, hcl, hM, hcc, hfr⟩ := Kd.R_elem h (xs[j]'hj) (j : Int) (by omega) (by omega)
      rw [Int.toNat_natCast] at hcc hM hfr
      rw [hF.sz] at hcc hfr
      obtain ⟨s, hs, hin, _, hct⟩ := hF.go w base _ _ cs g (j * t.sz) hM (fun i u hu => ⟨hcc i u hu, hfr i⟩)
      exact ⟨s, hs, fun p hp => (hin p hp).elim (fun h => h.1 ▸ hbase) (fun h => ⟨h.1.1, h.2⟩), fun x hx => by rw [hct, List.getD_eq_getElem?_getD, hx]; rfl⟩)
    refine ⟨ss.flatten, .inr ⟨g, xs.length, c, rfl, hc, hC.2.1, ss, hl, rfl, fun j s hj => (hs j s hj).1⟩, fun p hp => ?_, sum_flat xs ss hl (fun j s x h1 h2 => (hs j s h1).2.2 x h2)⟩
    obtain ⟨l, hl, hpl⟩ := List.mem_flatten.1 hp
    obtain ⟨j, hj⟩ := List.getElem?_of_mem hl
    exact (hs j l hj).2.1 p hpl
theorem S_slots {α : Type} {d : Kd α} {t : Ty} {cnt : α → Nat} (hF : Fits True d t cnt) {e base : Nat} {ok : Nat → Prop} {w : World} {v : Value} {xs : List α} (h : Kd.S d e w base ok v xs) (c : Nat) (hc : xs.length ≤ c) :
    ∃ s, RowOf (Cel w t) t.sz (cutV v c) s ∧ (∀ p ∈ s, ok p.1 ∧ base ≤ p.1) ∧ (s.map key).Nodup ∧ s.length = (xs.map cnt).sum := by
  obtain ⟨A, c0, rfl, hc0, hC⟩ := Kd.S_reads h
  rcases A with _ | ad
  · have h0 : xs.length = 0 := by
      rcases Nat.eq_zero_or_pos xs.length with h0 | h0
      · exact h0
      · obtain ⟨ad, he, _⟩ := hC.2.2 h0
        cases he
    exact ⟨[], .inl ⟨c, by rw [h0]; rfl, rfl⟩, (fun p hp => by cases hp), by simp, by rw [List.eq_nil_of_length_eq_zero h0]; rfl⟩
  · obtain ⟨g, rfl⟩ := Kd.R_head (Kd.S_R h)
    have hbase : ok g ∧ base ≤ g := ⟨(Kd.S_R h).1 g rfl, Kd.R_base (Kd.S_R h) g rfl⟩
    obtain ⟨f, hR⟩ := h
    have hzl : xs.zipIdx.length = xs.length := List.length_zipIdx
    obtain ⟨ss, hl, hs⟩ := choose_list (P := fun j s => Cel w t g (j * t.sz) s ∧ (∀ p ∈ s, (p.1 = g ∧ j * t.sz ≤ p.2.1 ∧ p.2.1 < j * t.sz + t.sz) ∨ (((ok p.1 ∧ p.1 ≠ g) ∧ f p.1 = j) ∧ base ≤ p.1)) ∧ (s.map key).Nodup ∧ ∀ x, xs[j]? = some x → s.length = cnt x) xs.length (fun j hj => by
      obtain ⟨cs, hcl, hM, hcc, hfr⟩ := Kd.R_elem hR (xs[j]'hj, j) (j : Int) (by omega) (by omega)
      rw [Int.toNat_natCast] at hcc hM hfr
      have hz : xs.zipIdx.getD j (xs[j]'hj, j) = (xs[j]'hj, j) := by
        rw [List.getD_eq_getElem?_getD, Kd.zip_at (List.getElem?_eq_getElem hj)]; rfl
      rw [hz] at hM
      have hsz : (Kd.tag f d).sz = t.sz := hF.sz
      rw [hsz] at hcc hfr
      obtain ⟨s, hs, hin, hnd, hct⟩ := hF.go w base _ _ cs g (j * t.sz) hM (fun i u hu => ⟨hcc i u hu, hfr i⟩)
      exact ⟨s, hs, fun p hp => (hin p hp).imp id (fun h => h), hnd trivial (fun hk => hk.1.2 rfl), fun x hx => by
        obtain ⟨_, rfl⟩ := List.getElem?_eq_some_iff.1 hx
        exact hct⟩)
    refine ⟨ss.flatten, .inr ⟨g, xs.length, c, rfl, hc, hC.2.1, ss, hl, rfl, fun j s hj => (hs j s hj).1⟩, fun p hp => ?_, nodup_flat (fun l hl => ?_) ?_, sum_flat xs ss hl (fun j s x h1 h2 => (hs j s h1).2.2.2 x h2)⟩
    · obtain ⟨l, hl, hpl⟩ := List.mem_flatten.1 hp
      obtain ⟨j, hj⟩ := List.getElem?_of_mem hl
      exact ((hs j l hj).2.1 p hpl).elim (fun h => h.1 ▸ hbase) (fun h => ⟨h.1.1.1, h.2⟩)
    · obtain ⟨j, hj⟩ := List.getElem?_of_mem hl
      exact (hs j l hj).2.2.1
    · intro i j s u hij hi hj p hp q hq he
      have e1 : p.1 = q.1 := (Prod.mk.inj he).1
      have e2 : p.2.1 = q.2.1 := (Prod.mk.inj he).2
      have hm : i * t.sz + t.sz ≤ j * t.sz := by rw [← Nat.succ_mul]; exact Nat.mul_le_mul_right _ hij
      rcases (hs i s hi).2.1 p hp with ⟨a1, a2, a3⟩ | ⟨⟨⟨a1, a2⟩, a3⟩, a4⟩ <;> rcases (hs j u hj).2.1 q hq with ⟨b1, b2, b3⟩ | ⟨⟨⟨b1, b2⟩, b3⟩, b4⟩
      · omega
      · exact b2 (e1 ▸ a1)
      · exact a2 (e1 ▸ b1)
      · rw [e1, b3] at a3; omega
theorem fits_row {α : Type} {d : Kd α} {e : Nat} {te : Ty} {cnt : α → Nat} (h : Fits True d te cnt) : Fits True (sl e d) (.row te .nil) (fun xs => (xs.map cnt).sum) := ⟨rfl, fun w base ok x cs g o hM hc => by
  obtain ⟨v, c, rfl, hl, hS⟩ := hM
  obtain ⟨s, hr, hin, hnd, hct⟩ := S_slots h hS c hl
  exact ⟨s ++ [], ⟨_, s, [], (hc 0 _ rfl).1, hr, rfl, rfl⟩, fun p hp => .inr (hin p (by simpa using hp)), (fun _ _ => by simpa using hnd), by simpa using hct⟩⟩
theorem fits_row_pr {α β : Type} {d : Kd α} {b : Kd β} {e : Nat} {te t : Ty} {cnt : α → Nat} {cn2 : β → Nat} (h : Fits True d te cnt) (hb : Fits True b t cn2) : Fits True (pr (sl e d) b) (.row te t) (fun x => (x.1.map cnt).sum + cn2 x.2) := ⟨by show 1 + b.sz = t.sz + 1; rw [hb.sz, Nat.add_comm], fun w base ok x cs g o hM hc => by
  obtain ⟨c0, c1, rfl, p, h0, h1⟩ := hM
  obtain ⟨v, c, rfl, hl, hS⟩ := h0
  obtain ⟨s, hr, hin, hnd, hct⟩ := S_slots h hS c hl
  obtain ⟨r, hr2, hin2, hnd2, hct2⟩ := hb.go w base _ x.2 c1 g (o + 1) h1 (tail_cells hc)
  refine ⟨s ++ r, ⟨_, s, r, (hc 0 _ rfl).1, hr, rfl, hr2⟩, fun q hq => ?_, fun hD hg => ?_, by rw [List.length_append, hct, hct2]⟩
  · rcases List.mem_append.1 hq with hq | hq
    · exact .inr ⟨(hin q hq).1.1, (hin q hq).2⟩
    · rcases hin2 q hq with ⟨a1, a2, a3⟩ | a
      · exact .inl ⟨a1, by omega, by show q.2.1 < o + (t.sz + 1); omega⟩
      · exact .inr ⟨a.1.1, a.2⟩
  · rw [List.map_append, List.nodup_append]
    refine ⟨hnd, hnd2 hD (fun hk => hg hk.1), fun a ha b hb he => ?_⟩
    obtain ⟨q, hq, rfl⟩ := List.mem_map.1 ha
    obtain ⟨q', hq', rfl⟩ := List.mem_map.1 hb
    have e1 : q.1 = q'.1 := (Prod.mk.inj he).1
    have a1 := (hin q hq).1
    rcases hin2 q' hq' with ⟨b1, _, _⟩ | b1
    · rw [e1, b1] at a1; exact hg a1.1
    · rw [e1] at a1; exact b1.1.2 a1.2⟩
theorem fits_slice {α : Type} {d : Kd α} {e : Nat} {te : Ty} {cnt : α → Nat} (h : Fits False d te cnt) : Fits False (Kd.slice e d) (.row te .nil) (fun xs => (xs.map cnt).sum) := ⟨rfl, fun w base ok x cs g o hM hc => by
  obtain ⟨v, rfl, hR⟩ := hM
  obtain ⟨A, c, rfl, hcl, _⟩ := Kd.R_reads hR
  obtain ⟨s, hr, hin, hct⟩ := R_slots h hR c hcl
  exact ⟨s ++ [], ⟨_, s, [], (hc 0 _ rfl).1, hr, rfl, rfl⟩, fun p hp => .inr (hin p (by simpa using hp)), fun hD => hD.elim, by simpa using hct⟩⟩
theorem fits_slice_pair {α β : Type} {d : Kd α} {b : Kd β} {e : Nat} {te t : Ty} {cnt : α → Nat} {cn2 : β → Nat} (h : Fits False d te cnt) (hb : Fits False b t cn2) : Fits False (Kd.pair (Kd.slice e d) b) (.row te t) (fun x => (x.1.map cnt).sum + cn2 x.2) := ⟨by show 1 + b.sz = t.sz + 1; rw [hb.sz, Nat.add_comm], fun w base ok x cs g o hM hc => by
  obtain ⟨c0, c1, rfl, h0, h1⟩ := hM
  obtain ⟨v, rfl, hR⟩ := h0
  obtain ⟨A, c, rfl, hcl, _⟩ := Kd.R_reads hR
  obtain ⟨s, hr, hin, hct⟩ := R_slots h hR c hcl
  obtain ⟨r, hr2, hin2, _, hct2⟩ := hb.go w base _ x.2 c1 g (o + 1) h1 (tail_cells hc)
  refine ⟨s ++ r, ⟨_, s, r, (hc 0 _ rfl).1, hr, rfl, hr2⟩, fun q hq => ?_, fun hD => hD.elim, by rw [List.length_append, hct, hct2]⟩
  rcases List.mem_append.1 hq with hq | hq
  · exact .inr (hin q hq)
  · rcases hin2 q hq with ⟨a1, a2, a3⟩ | a
    · exact .inl ⟨a1, by omega, by show q.2.1 < o + (t.sz + 1); omega⟩
    · exact .inr a⟩
end
section
/-- The cells of s hold the marks from a on. -/
def Held (w : World) (s : List Slot) (a : Nat) : Prop := ∀ j p, s[j]? = some p → w.cell? ⟨p.1, p.2.1, none⟩ = some (mkv p.2.2 (a + j))
theorem Held.below {w w' : World} {s : List Slot} {a : Nat} (h : Held w s a) (hb : Below w.heap.size w w') : Held w' s a := fun j p hj => by
  have := h j p hj
  exact (hb.cell (World.block_lt_of_cell? w _ this)).trans this
theorem Held.left {w : World} {s1 s2 : List Slot} {a : Nat} (h : Held w (s1 ++ s2) a) : Held w s1 a := fun j p hj => h j p (by
  rw [List.getElem?_append_left (List.getElem?_eq_some_iff.1 hj).1]; exact hj)
theorem Held.right {w : World} {s1 s2 : List Slot} {a : Nat} (h : Held w (s1 ++ s2) a) : Held w s2 (a + s1.length) := fun j p hj => by
  have := h (s1.length + j) p (by rw [List.getElem?_append_right (Nat.le_add_right _ _), Nat.add_sub_cancel_left]; exact hj)
  rwa [← Nat.add_assoc] at this
theorem Held.one {w : World} {g o : Nat} {t : Bool} {a : Nat} (h : Held w [(g, o, t)] a) : w.cell? ⟨g, o, none⟩ = some (mkv t a) := h 0 _ rfl
theorem Held.flat {w : World} {ss : List (List Slot)} {a i : Nat} {t : List Slot} (h : Held w ss.flatten a) (hi : ss[i]? = some t) : Held w t (a + (ss.take i).flatten.length) := by
  obtain ⟨hl, rfl⟩ := List.getElem?_eq_some_iff.1 hi
  have e : ss.flatten = (ss.take i).flatten ++ (ss[i] ++ (ss.drop (i + 1)).flatten) := by
    have e2 : ss.flatten = (ss.take i ++ ss.drop i).flatten := by rw [List.take_append_drop]
    rw [e2, List.flatten_append, List.drop_eq_getElem_cons hl, List.flatten_cons]
  rw [e] at h
  exact h.right.left
theorem Marked.held {w w' : World} {s : List Slot} {a : Nat} (h : Marked w w' s a) (hn : (s.map key).Nodup) : Held w' s a := h.at_ hn
end
set_option maxHeartbeats 2000000 in
set_option maxRecDepth 100000 in
theorem heldStringS_any (v : Value) (s : List Slot) (a : Nat) {ai : Int} (hai : ai = (a : Int)) (w : World) (hs : RowOf (Cel w tyString) 1 v s) (h1 : 1 ≤ a) (hb : a + s.length ≤ 9000000) (hh : Held w s a) :
    Calls Try.prog 43 #[v, .int .i64 ai] w fun e w' => e = .returned (.int .i64 ((a + s.length : Nat) : Int)) ∧ Below w.heap.size w w' := by
  subst hai
  obtain ⟨A, n, c, ss, rfl, hnc, hcm, hn, rfl, hel⟩ := hs.all
  have HEL := Aside0.mk hel
  have HN := Aside0.mk hn
  have HH := Aside0.mk hh
  have HB := Aside0.mk (Below.refl w.heap.size w)
  have hnm : n ≤ 9223372036854775807 := by unfold maxLen at hcm; omega
  clear hel hn hs hcm hnc hh
  go_enter Try.func43, Try.ntmps43
  go_wp2
  go_loopw [1, 5] (fun v1 v5 wr => ∃ i K : Nat, i ≤ n ∧ v5 = .int .i64 i ∧ v1 = .int .i64 K ∧ 1 ≤ K ∧ K ≤ 9000000 ∧ Aside0 (K = a + (ss.take i).flatten.length) ∧ Aside0 (Below w.heap.size w wr)) (fun _ v5 _ => n - (intOf v5).toNat)
  case atStart => exact ⟨0, a, Nat.zero_le _, rfl, rfl, h1, by omega, ⟨by simp⟩, HB⟩
  case round =>
    clear HB
    obtain ⟨i, K0, hi, rfl, rfl, hK1, hK2, HK, HB⟩ := hrel
    by_cases hlt : i < n
    · have hsl := List.getElem?_eq_getElem (show i < ss.length by have := HN.out; omega)
      obtain ⟨g, hA, hc⟩ := HEL.out i _ hsl
      subst hA
      generalize ss[i]'(by have := HN.out; omega) = t at hsl hc
      have HS := Aside0.mk hsl
      have hq := HH.out.flat hsl
      rw [Nat.mul_one] at hc
      obtain ⟨_, _, r0, ht0, hrn⟩ := hc
      obtain rfl : r0 = [] := hrn
      have HT := Aside0.mk (show t = [(g, i, true)] by rw [ht0]; first | done | simp)
      clear ht0 hsl
      rw [HT.out, ← HK.out] at hq
      have hx0 : w.cell? ⟨g, i, none⟩ = some (.string (mtx K0)) := hq.one
      have HX0 := Aside0.mk hx0
      clear hx0
      have hle : K0 + (1) ≤ 9000000 := by
        have h1 := take_flat HS.out
        have h2 := flat_le ss (i + 1)
        have h3 := HK.out
        rw [h1, HT.out] at h2
        (try simp only [List.length_append, List.length_cons, List.length_nil, Nat.zero_add] at h2)
        omega
      clear hq
      go_wp2_with fail
      have hx0 := (HB.out.cell (World.block_lt_of_cell? w _ HX0.out)).trans HX0.out
      replace HB := Aside0.mk (below_drew1 HB.out)
      refine start_ (n := 7) (S := fun w' => w'.cell? ⟨g, i, none⟩ = some (Value.string (mtx (K0)))) (ds := []) #[false,false,false,false,false,false,false] (by kernel_rfl) rfl rfl hx0 (fun hHeld => ?_)
      clear hx0
      generalize wr.drew = wd at HB hHeld ⊢
      refine Up.pn 0 (some 12) ?_
      refine Up.pn 1 (some 13) ?_
      refine Up.pn 2 (some 14) ?_
      refine Up.pn 4 (some 16) ?_
      refine take_ (i := 3) (N := some 15) (v := ?_) (a' := ?_) #[true,true,true,true,true,false,false] rfl rfl (by kernel_rfl) (fun _ _ _ h => h) (Or.inl ⟨by rfl, ?_⟩) hHeld ?_ ?_
      rotate_left
      · intro w' s0
        go_simp
        with_reducible rfl
      rotate_left
      · simp only [Act.put, List.setIfInBounds_toArray, List.set_cons_zero, List.set_cons_succ, i64_w, i32_w]
        rfl
      refine one_ (i := 5) (N := some 17) #[true,true,true,true,true,true,false] rfl rfl (by kernel_rfl) (by decide) (fun K hK => ?_)
      refine Up.go Try.func60 #[.int .i64 ((K0 : Int))] ?_
      refine (mText_any (K0) (by omega) (by omega) (by omega) _).mono ?_
      rintro e w8 ⟨rfl, hb⟩
      refine ⟨_, rfl, ?_⟩
      replace HB := Aside0.mk (below_step HB.out hb)
      clear hb
      refine hK.out _ _ ((HB.out.cell (World.block_lt_of_cell? w _ HX0.out)).trans HX0.out) (fun hHeld => ?_)
      clear hK K
      refine Up.nm 17 ?_
      refine Up.pn 6 (some 18) ?_
      refine done_ (by kernel_rfl) ?_
      go_wp2
      go_roundw
      case rel => exact ⟨i + 1, K0 + 1, by omega, by go_num, by first | rfl | go_num, by omega, by omega, ⟨by rw [take_flat HS.out, HT.out]; have := HK.out; (try simp only [List.length_append, List.length_cons, List.length_nil] at this); (try simp only [List.length_append, List.length_cons, List.length_nil]); omega⟩, HB⟩
      case measure => simp [intOf]; omega
    · have hin : i = ss.length := by have := HN.out; omega
      have HL := Aside0.mk hin
      clear hin
      go_wp2
      go_ret
      have e := HK.out
      subst e
      rw [HL.out, List.take_length]
      exact ⟨rfl, HB.out⟩
set_option maxHeartbeats 2000000 in
set_option maxRecDepth 100000 in
theorem heldRecordS_any (v : Value) (s : List Slot) (a : Nat) {ai : Int} (hai : ai = (a : Int)) (w : World) (hs : RowOf (Cel w tyRecord) 2 v s) (h1 : 1 ≤ a) (hb : a + s.length ≤ 9000000) (hh : Held w s a) :
    Calls Try.prog 35 #[v, .int .i64 ai] w fun e w' => e = .returned (.int .i64 ((a + s.length : Nat) : Int)) ∧ Below w.heap.size w w' := by
  subst hai
  obtain ⟨A, n, c, ss, rfl, hnc, hcm, hn, rfl, hel⟩ := hs.all
  have HEL := Aside0.mk hel
  have HN := Aside0.mk hn
  have HH := Aside0.mk hh
  have HB := Aside0.mk (Below.refl w.heap.size w)
  have hnm : n ≤ 9223372036854775807 := by unfold maxLen at hcm; omega
  clear hel hn hs hcm hnc hh
  go_enter Try.func35, Try.ntmps35
  go_wp2
  go_loopw [1, 5] (fun v1 v5 wr => ∃ i K : Nat, i ≤ n ∧ v5 = .int .i64 i ∧ v1 = .int .i64 K ∧ 1 ≤ K ∧ K ≤ 9000000 ∧ Aside0 (K = a + (ss.take i).flatten.length) ∧ Aside0 (Below w.heap.size w wr)) (fun _ v5 _ => n - (intOf v5).toNat)
  case atStart => exact ⟨0, a, Nat.zero_le _, rfl, rfl, h1, by omega, ⟨by simp⟩, HB⟩
  case round =>
    clear HB
    obtain ⟨i, K0, hi, rfl, rfl, hK1, hK2, HK, HB⟩ := hrel
    by_cases hlt : i < n
    · have hsl := List.getElem?_eq_getElem (show i < ss.length by have := HN.out; omega)
      obtain ⟨g, hA, hc⟩ := HEL.out i _ hsl
      subst hA
      generalize ss[i]'(by have := HN.out; omega) = t at hsl hc
      have HS := Aside0.mk hsl
      have hq := HH.out.flat hsl
      obtain ⟨_, _, r0, ht0, v1, s1, r1, hx1, hv1, ht1, hrn⟩ := hc
      obtain rfl : r1 = [] := hrn
      subst ht1
      have HT := Aside0.mk (show t = [(g, i * 2, false)] ++ s1 by rw [ht0]; first | done | simp)
      clear ht0 hsl
      rw [HT.out, ← HK.out] at hq
      have HH1 := Aside0.mk (show Held w s1 (K0 + 1) from by have := hq.right; simpa only [List.length_append, List.length_cons, List.length_nil, Nat.zero_add, Nat.add_assoc] using this)
      replace hq := hq.left
      have hx0 : w.cell? ⟨g, i * 2, none⟩ = some (.int .i64 (K0 : Int)) := hq.one
      have HX0 := Aside0.mk hx0
      clear hx0
      obtain ⟨A1, n1, c1, rfl⟩ := hv1.slice
      have HX1 := Aside0.mk (show w.cell? ⟨g, i * 2 + 1, none⟩ = some (.slice A1 n1 c1) from hx1)
      have HV1 := Aside0.mk hv1
      clear hx1 hv1
      have hle : K0 + (1 + s1.length) ≤ 9000000 := by
        have h1 := take_flat HS.out
        have h2 := flat_le ss (i + 1)
        have h3 := HK.out
        rw [h1, HT.out] at h2
        (try simp only [List.length_append, List.length_cons, List.length_nil, Nat.zero_add] at h2)
        omega
      clear hq
      have hx0 : _ = some (Value.int .i64 ((K0 : Int))) := (HB.out.cell (World.block_lt_of_cell? w _ HX0.out)).trans (HX0.out.trans (by rw [show ((K0 : Nat) : Int) = (K0 : Int) by omega]))
      have hx1 : _ = some (Value.slice A1 n1 c1) := (HB.out.cell (World.block_lt_of_cell? w _ HX1.out)).trans HX1.out
      go_wp2_with fail
      clear hx0 hx1
      refine (heldStringS_any _ s1 (K0 + 1) (by omega) _ (RowOf.tp (TP.of_below HB.out) HV1.out) (by omega) (by omega) (by have := HH1.out.below HB.out; exact this)).mono ?_
      rintro e w1 ⟨rfl, hb⟩
      replace HB := Aside0.mk (below_step HB.out hb)
      obtain ⟨K1, hK1⟩ : ∃ K_ : Nat, K_ = K0 + 1 + s1.length := ⟨_, rfl⟩
      rw [← hK1]
      have HE := Aside0.mk (show K1 = K0 + 1 + s1.length by omega)
      have lK1 : K1 ≤ 9000000 := by omega
      have mK1 : 1 ≤ K1 := by omega
      clear hK1 hb
      go_wp2
      go_roundw
      case rel => exact ⟨i + 1, K1, by omega, by go_num, by first | rfl | go_num, by omega, by omega, ⟨by rw [take_flat HS.out, HT.out]; have := HK.out; have h2 := HE.out; (try simp only [List.length_append, List.length_cons, List.length_nil] at this); (try simp only [List.length_append, List.length_cons, List.length_nil]); omega⟩, HB⟩
      case measure => simp [intOf]; omega
    · have hin : i = ss.length := by have := HN.out; omega
      have HL := Aside0.mk hin
      clear hin
      go_wp2
      go_ret
      have e := HK.out
      subst e
      rw [HL.out, List.take_length]
      exact ⟨rfl, HB.out⟩
set_option maxHeartbeats 2000000 in
set_option maxRecDepth 100000 in
theorem heldRecordSS_any (v : Value) (s : List Slot) (a : Nat) {ai : Int} (hai : ai = (a : Int)) (w : World) (hs : RowOf (Cel w tyRecordS) 1 v s) (h1 : 1 ≤ a) (hb : a + s.length ≤ 9000000) (hh : Held w s a) :
    Calls Try.prog 16 #[v, .int .i64 ai] w fun e w' => e = .returned (.int .i64 ((a + s.length : Nat) : Int)) ∧ Below w.heap.size w w' := by
  subst hai
  obtain ⟨A, n, c, ss, rfl, hnc, hcm, hn, rfl, hel⟩ := hs.all
  have HEL := Aside0.mk hel
  have HN := Aside0.mk hn
  have HH := Aside0.mk hh
  have HB := Aside0.mk (Below.refl w.heap.size w)
  have hnm : n ≤ 9223372036854775807 := by unfold maxLen at hcm; omega
  clear hel hn hs hcm hnc hh
  go_enter Try.func16, Try.ntmps16
  go_wp2
  go_loopw [1, 5] (fun v1 v5 wr => ∃ i K : Nat, i ≤ n ∧ v5 = .int .i64 i ∧ v1 = .int .i64 K ∧ 1 ≤ K ∧ K ≤ 9000000 ∧ Aside0 (K = a + (ss.take i).flatten.length) ∧ Aside0 (Below w.heap.size w wr)) (fun _ v5 _ => n - (intOf v5).toNat)
  case atStart => exact ⟨0, a, Nat.zero_le _, rfl, rfl, h1, by omega, ⟨by simp⟩, HB⟩
  case round =>
    clear HB
    obtain ⟨i, K0, hi, rfl, rfl, hK1, hK2, HK, HB⟩ := hrel
    by_cases hlt : i < n
    · have hsl := List.getElem?_eq_getElem (show i < ss.length by have := HN.out; omega)
      obtain ⟨g, hA, hc⟩ := HEL.out i _ hsl
      subst hA
      generalize ss[i]'(by have := HN.out; omega) = t at hsl hc
      have HS := Aside0.mk hsl
      have hq := HH.out.flat hsl
      rw [Nat.mul_one] at hc
      obtain ⟨v0, s0, r0, hx0, hv0, ht0, hrn⟩ := hc
      obtain rfl : r0 = [] := hrn
      have HT := Aside0.mk (show t = s0 by rw [ht0]; first | done | simp)
      clear ht0 hsl
      rw [HT.out, ← HK.out] at hq
      have HH0 := Aside0.mk (show Held w s0 (K0) from hq)
      obtain ⟨A0, n0, c0, rfl⟩ := hv0.slice
      have HX0 := Aside0.mk (show w.cell? ⟨g, i, none⟩ = some (.slice A0 n0 c0) from hx0)
      have HV0 := Aside0.mk hv0
      clear hx0 hv0
      have hle : K0 + (s0.length) ≤ 9000000 := by
        have h1 := take_flat HS.out
        have h2 := flat_le ss (i + 1)
        have h3 := HK.out
        rw [h1, HT.out] at h2
        (try simp only [List.length_append, List.length_cons, List.length_nil, Nat.zero_add] at h2)
        omega
      clear hq
      have hx0 : _ = some (Value.slice A0 n0 c0) := (HB.out.cell (World.block_lt_of_cell? w _ HX0.out)).trans HX0.out
      go_wp2_with fail
      clear hx0
      refine (heldRecordS_any _ s0 (K0) (by omega) _ (RowOf.tp (TP.of_below HB.out) HV0.out) (by omega) (by omega) (by have := HH0.out.below HB.out; exact this)).mono ?_
      rintro e w1 ⟨rfl, hb⟩
      replace HB := Aside0.mk (below_step HB.out hb)
      obtain ⟨K1, hK1⟩ : ∃ K_ : Nat, K_ = K0 + s0.length := ⟨_, rfl⟩
      rw [← hK1]
      have HE := Aside0.mk (show K1 = K0 + s0.length by omega)
      have lK1 : K1 ≤ 9000000 := by omega
      have mK1 : 1 ≤ K1 := by omega
      clear hK1 hb
      go_wp2
      go_roundw
      case rel => exact ⟨i + 1, K1, by omega, by go_num, by first | rfl | go_num, by omega, by omega, ⟨by rw [take_flat HS.out, HT.out]; have := HK.out; have h2 := HE.out; (try simp only [List.length_append, List.length_cons, List.length_nil] at this); (try simp only [List.length_append, List.length_cons, List.length_nil]); omega⟩, HB⟩
      case measure => simp [intOf]; omega
    · have hin : i = ss.length := by have := HN.out; omega
      have HL := Aside0.mk hin
      clear hin
      go_wp2
      go_ret
      have e := HK.out
      subst e
      rw [HL.out, List.take_length]
      exact ⟨rfl, HB.out⟩
theorem clip_str (A0 : Option Addr) (n c0 : Nat) (w : World) (hc : n ≤ c0) (hm : n ≤ 9223372036854775807) :
    Calls Try.prog 65 #[.slice A0 n c0] w fun e w' => e = .returned (.slice A0 n n) ∧ Below w.heap.size w w' := by
  obtain ⟨i0, hi0, _, hsz, _⟩ := info_parts OFnExactShelfKinds.info9
  have hcut : ∀ W : World, (Instr.slice 35 (.slice A0 n c0) none (some (.int .i64 (n : Int))) (some (.int .i64 (n : Int)))).run Try.prog W = .ok (.slice A0 n n) W := by
    intro W
    have ht := Try.underlying35
    have hel : Try.prog.elem 35 = 9 := by simp [Program.elem, ht]
    have hu : Try.prog.underlying 35 = some (.slice (Try.prog.elem 35)) := by rw [hel]; exact ht
    have ha : (A0.map fun x => x.add 0) = A0 := by cases A0 <;> simp [Addr.add]
    rw [run_slice_hm W 35 A0 n c0 hu .i64 .i64 n n (by omega) (by omega) (by omega), hel]
    simp [sizeOf, typeInfo, hi0, sliced, Result.andThen, ha]
  clear hc
  go_enter Try.func65, Try.ntmps65
  go_wp2
  go_ret
  exact ⟨rfl, Below.refl _ _⟩
set_option maxHeartbeats 2000000 in
set_option maxRecDepth 100000 in
theorem copyTexts_own (A0 : Option Addr) (c0 : Nat) (l0 : List ByteArray) (w : World) (hr0 : Kd.C Kd.string w A0 l0.length l0) (hc0 : l0.length ≤ c0) (hl : l0.length < 8796093022208) :
    Calls Try.prog 54 #[.slice A0 l0.length c0] w fun e w' => ∃ A c, e = .returned (.slice A l0.length l0.length) ∧ Kd.S Kd.string 9 w' w.heap.size (fun k => w.heap.size ≤ k) (.slice A l0.length c) l0 ∧ Below w.heap.size w w' := by
  have HR0 := Aside0.mk hr0
  have HB := Aside0.mk (Below.refl w.heap.size w)
  have HL := Aside0.mk hl
  clear hr0 hl
  go_enter Try.func54, Try.ntmps54
  go_wp2_with (first
    | ((with_reducible refine gate_dst (N := 3) rfl ?_); refine Kd.R_lit Kd.string _ 9 ?hg (N := 3) ?hd (xs := ([] : List ByteArray)) (inner := []) (ok := fun _ => True) (okp := fun _ => True) ?hr ?hp (fun _ hk => hk) trivial (Below.refl _ _) (Nat.le_refl _) (by simp) ?_; (case hd => rfl); (case hg => rfl); (case hr => first | (go_simp; done) | (go_simp; rfl)); (case hp => exact (Reps.none _ _)); intro v3 w4 ho hb hg_ hnew_; clear hg_ hnew_; have HO := Aside0.mk ho; replace HB := Aside0.mk hb; clear hb ho)
    | ((with_reducible refine gate_builtin (b := .append) (xs := #[.tmp 3, .tmp 4]) rfl ?_); at_builtin; refine Kd.R_append_rows Kd.string (w0 := w) w.heap.size rfl (.tmp 3) (.tmp 4) 35 9 (.string ⟨#[]⟩) 16 rfl Try.underlying35 OFnExactShelfKinds.info9 rfl (by decide) (by omega) v3 ([] : List ByteArray) l0 _ _ _ (fun k => w.heap.size ≤ k) (fun _ => False) rfl rfl ?aO ?aR (fun _ _ h => h) (fun _ h => h.elim) ?aF ?aB ?aS ?aL ?_
       ; (case aR => exact Kd.C_below HR0.out HB.out); (case aB => exact HB.out); (case aF => exact (fun k_ hk => (Nat.le_trans HB.out.size hk))); (case aO => exact Kd.R_mono (Kd.R_bound HO.out) (fun _ hk => hk.2.1)); (case aS => exact HB.out.size); (case aL => (have := HL.out; simp; omega)); intro v5 w6 ho hb hg hat; replace HB := Aside0.mk hb; replace HO := Aside0.mk ho; clear ho hb hg hat; obtain ⟨A5, c5, e5⟩ := Kd.R_slice HO.out; rw [List.nil_append] at e5 HO; subst e5)
    | (go_at_call 65; refine (clip_str A5 l0.length c5 _ (Kd.R_reads' HO.out).2.1 (by have := HL.out; omega)).mono ?_; rintro e w7 ⟨rfl, hb⟩; replace HO := Aside0.mk (Kd.R_below HO.out hb); replace HB := Aside0.mk (below_step HB.out hb); clear hb))
  go_ret
  exact ⟨A5, c5, rfl, S_flat rfl HO.out, HB.out⟩
theorem clip_rec (A0 : Option Addr) (n c0 : Nat) (w : World) (hc : n ≤ c0) (hm : n ≤ 9223372036854775807) :
    Calls Try.prog 55 #[.slice A0 n c0] w fun e w' => e = .returned (.slice A0 n n) ∧ Below w.heap.size w w' := by
  obtain ⟨i0, hi0, _, hsz, _⟩ := info_parts OFnExactShelfKinds.info60
  have hcut : ∀ W : World, (Instr.slice 52 (.slice A0 n c0) none (some (.int .i64 (n : Int))) (some (.int .i64 (n : Int)))).run Try.prog W = .ok (.slice A0 n n) W := by
    intro W
    have ht := Try.underlying52
    have hel : Try.prog.elem 52 = 60 := by simp [Program.elem, ht]
    have hu : Try.prog.underlying 52 = some (.slice (Try.prog.elem 52)) := by rw [hel]; exact ht
    have ha : (A0.map fun x => x.add 0) = A0 := by cases A0 <;> simp [Addr.add]
    rw [run_slice_hm W 52 A0 n c0 hu .i64 .i64 n n (by omega) (by omega) (by omega), hel]
    simp [sizeOf, typeInfo, hi0, sliced, Result.andThen, ha]
  clear hc
  go_enter Try.func55, Try.ntmps55
  go_wp2
  go_ret
  exact ⟨rfl, Below.refl _ _⟩
abbrev S60 := OFnExactShelfKinds.S60
abbrev k60 := OFnExactShelfKinds.k60
abbrev kRecD : Kd S60 := Kd.iso (pr (Kd.int .i64) (sl 9 Kd.string)) (fun x => (x.f0, x.f1))
theorem kRecD_mkM {w : World} {base : Nat} {ok : Nat → Prop} {x : S60} {v : Value} {c : Nat} (hl : x.f1.length ≤ c) (h : Kd.S Kd.string 9 w base ok v x.f1) : kRecD.M w base ok x [.int .i64 x.f0, cutV v c] :=
  ⟨[.int .i64 x.f0], [cutV v c], rfl, fun _ => False, rfl, v, c, rfl, hl, Kd.S_mono h (fun k hk => ⟨hk, fun h => h⟩)⟩
set_option maxHeartbeats 2000000 in
set_option maxRecDepth 100000 in
theorem copyRecords_own (A0 : Option Addr) (c0 : Nat) (l0 : List S60) (w : World) (hr0 : Kd.C k60 w A0 l0.length l0) (hc0 : l0.length ≤ c0) (hl : l0.length < 4398046511104) (hf : ∀ x ∈ l0, x.f1.length < 8796093022208) :
    Calls Try.prog 29 #[.slice A0 l0.length c0] w fun e w' => ∃ A c, e = .returned (.slice A l0.length l0.length) ∧ Kd.S kRecD 60 w' w.heap.size (fun k => w.heap.size ≤ k) (.slice A l0.length c) l0 ∧ Below w.heap.size w w' := by
  have HR0 := Aside0.mk hr0
  have HF := Aside0.mk hf
  have HB := Aside0.mk (Below.refl w.heap.size w)
  have HL := Aside0.mk hl
  have hlm : l0.length ≤ 9223372036854775807 := by omega
  have hu60 := Try.underlying60
  clear hr0 hl hf
  go_enter Try.func29, Try.ntmps29
  go_wp2_with (first
    | ((with_reducible refine gate_dst (N := 6) rfl ?_); refine Kd.S_lit kRecD _ 60 ?hg (N := 6) ?hd (xs := ([] : List S60)) (inner := []) (ok := fun k => w.heap.size ≤ k) (okp := fun _ => False) ?hr ?hp (fun _ hk => hk.elim) (Nat.le_refl _) (Below.refl _ _) (Nat.le_refl _) (by simp) ?_; (case hd => rfl); (case hg => rfl); (case hr => first | (go_simp; done) | (go_simp; rfl)); (case hp => exact (Reps.none _ _)); intro v3 w4 ho hb hg_ hnew_; clear hg_ hnew_; have HO := Aside0.mk ho; replace HB := Aside0.mk hb; clear hb ho))
  go_loopw [3, 9] (fun v3 v9 wr => ∃ i : Nat, i ≤ l0.length ∧ v9 = .int .i64 i ∧ Aside0 (Kd.S kRecD 60 wr w.heap.size (fun k => w.heap.size ≤ k) v3 (l0.take i)) ∧ Aside0 (Below w.heap.size w wr)) (fun _ v9 _ => l0.length - (intOf v9).toNat)
  case atStart => exact ⟨0, Nat.zero_le _, rfl, HO, HB⟩
  case round =>
    clear HO HB
    obtain ⟨i, hi, rfl, HO, HB⟩ := hrel
    by_cases hlt : i < l0.length
    · obtain ⟨ad, A1, c1, ea, hx0, hx1, hl1, hi1⟩ := OFnExactShelfKinds.at_T60 HR0.out (i : Int) (by omega) (by omega)
      have hrd : OFnExactShelfKinds.rd_T60 l0 (i : Int) = l0[i] := by simp [OFnExactShelfKinds.rd_T60, hlt]
      rw [hrd] at hx0 hx1 hl1 hi1
      have hff := HF.out l0[i] (List.getElem_mem hlt)
      have hts : l0.take (i + 1) = l0.take i ++ [l0[i]] := List.take_succ_eq_append_getElem hlt
      generalize l0[i] = x at hx0 hx1 hl1 hi1 hff hts
      have HTS := Aside0.mk hts
      cases ea
      rw [Int.toNat_natCast] at hx0 hx1
      have hx0 := (HB.out.cell (World.block_lt_of_cell? w _ hx0)).trans hx0
      have hx1 := (HB.out.cell (World.block_lt_of_cell? w _ hx1)).trans hx1
      have HC1 := Aside0.mk hi1
      have HL1 := Aside0.mk hl1
      have HFF := Aside0.mk hff
      clear hi1 hl1 hrd hff hts
      go_wp2_with fail
      obtain ⟨g, hg⟩ : ∃ g, g = wr.heap.size := ⟨_, rfl⟩
      obtain ⟨wb, hwb⟩ : ∃ W, W = wr.alloc (.cells #[.int .i64 x.f0, .slice A1 x.f1.length c1] 60) := ⟨_, rfl⟩
      rw [← hwb, ← hg]
      have hBb : Below wr.heap.size wr wb := by rw [hwb]; exact below_alloc (Below.refl _ _) _
      have BK := Aside0.mk (show wb.heap[g]? = some (.cells #[.int .i64 x.f0, .slice A1 x.f1.length c1] 60 (0, 0)) by rw [hwb, hg]; exact heap_alloc_new wr _)
      replace HO := Aside0.mk (Kd.S_mono (ok' := fun k => w.heap.size ≤ k ∧ k < g) (Kd.S_below (Kd.S_bound HO.out) hBb) (fun k hk => ⟨hk.1, by rw [hg]; exact hk.2.2.1⟩))
      have GW := Aside0.mk (show w.heap.size ≤ g by rw [hg]; exact HB.out.size)
      replace HB := Aside0.mk (below_step HB.out hBb)
      have GS := Aside0.mk (show g < wb.heap.size from blk_lt BK.out)
      clear hwb hg hBb hx0 hx1
      replace HO := Aside0.mk (Kd.S_drew HO.out)
      replace BK := Aside0.mk (blk_drew BK.out)
      replace HB := Aside0.mk (below_drew1 HB.out)
      replace GS := Aside0.mk (show g < wb.drew.heap.size from GS.out)
      refine start_ (n := 10) (S := fun w' => w'.cell? ⟨g, 0, none⟩ = some (.int .i64 x.f0) ∧ w'.cell? ⟨g, 1, none⟩ = some (.slice A1 x.f1.length c1)) (ds := []) #[false, false, false, false, false, false, false, false, false, false] (by kernel_rfl) rfl rfl ⟨Up.c0 BK, Up.c1 BK⟩ (fun hHeld => ?_)
      refine with_tabW OFnExactShelfKinds.impl_copyRecords.tab5 OFnExactShelfKinds.impl_copyRecords.bits5 (fun HT_ HW_ => ?_)
      generalize wb.drew = w12 at HO BK HB GS hHeld ⊢
      refine Up.pu 0 (some 13) HT_ ?_
      refine Up.pu 1 (some 14) HT_ ?_
      refine Up.pu 3 (some 16) HT_ ?_
      refine Up.tk 2 (some 15) HT_ HW_ hHeld ?_ (hy := by rintro w' ⟨s0, s1⟩; go_simp; with_reducible rfl)
      refine Up.tk 4 (some 17) HT_ HW_ hHeld ?_ (hy := by rintro w' ⟨s0, s1⟩; go_simp; with_reducible rfl)
      refine Up.on 5 (some 18) HT_ (fun K hK => ?_)
      refine Up.go Try.func54 #[.slice A1 x.f1.length c1] ?_
      with_reducible refine (copyTexts_own A1 c1 x.f1 _ (Kd.C_below HC1.out HB.out) HL1.out HFF.out).mono ?_
      rintro e w13 ⟨A2, c2, rfl, hs, hb⟩
      refine ⟨_, rfl, ?_⟩
      have GW2 := Aside0.mk (show g < w12.heap.size from GS.out)
      have HS := Aside0.mk (Kd.S_mono (ok' := fun k => g < k) hs (fun k hk => Nat.lt_of_lt_of_le GS.out hk))
      replace HS := Aside0.mk (Kd.S_lower HS.out (show w.heap.size ≤ w12.heap.size from HB.out.size))
      replace HO := Aside0.mk (Kd.S_below HO.out hb)
      replace BK := Aside0.mk (blk_below BK.out hb)
      replace HB := Aside0.mk (below_step HB.out hb)
      have hcl := (Kd.S_reads' hs).2.1
      clear hs hb GS GW2
      refine hK.out _ _ ⟨Up.c0 BK, Up.c1 BK⟩ (fun hHeld => ?_)
      clear hK K
      refine Up.nm 18 ?_
      refine Up.pu 6 (some 19) HT_ ?_
      refine Up.on 7 (some 20) HT_ (fun K hK => ?_)
      refine value_ (w1 := ?_) (v := ?_) (by rfl) rfl ?_ ?_
      rotate_left 2
      · go_simp
        constructor
        · rfl
        · rfl
      refine hK.out _ _ ⟨(blk_cell (blk_alloc BK.out _) 0).trans rfl, (blk_cell (blk_alloc BK.out _) 1).trans rfl⟩ (fun hHeld => ?_)
      clear hK K
      refine Up.nm 20 ?_
      refine Up.on 8 (some 21) HT_ (fun K hK => ?_)
      refine Kd.S_append_step kRecD (w0 := w) w.heap.size (by rfl) (.tmp 13) (.tmp 20) 52 60 (.agg #[(.int .i64 0), (.slice none 0 0)]) 32 rfl Try.underlying52 OFnExactShelfKinds.info60 rfl (by decide) (by omega) u3 (l0.take i) x [.int .i64 x.f0, .slice A2 x.f1.length x.f1.length] (fun k => w.heap.size ≤ k) (fun k => g < k) rfl rfl ?aP ?aX ?aF ?aO ?aB ?aS ?aL ?_
      case aP => exact kRecD_mkM (v := .slice A2 x.f1.length c2) (Nat.le_refl _) HS.out
      case aX => exact fun k hk => ⟨by have := GW.out; omega, fun he => by have := (HO.out.choose_spec.1 k he.symm).2; omega⟩
      case aF => exact fun k hk => Nat.le_trans HB.out.size hk
      case aO => exact Kd.S_mono HO.out (fun k hk => ⟨hk.1, fun h => by have := hk.2; omega⟩)
      case aB => exact HB.out
      case aS => exact HB.out.size
      case aL => have h1 := HL.out; have h2 := List.length_take_le i l0; omega
      intro v15 w15 ho hb hgr hat
      rw [← HTS.out] at ho
      replace BK := Aside0.mk (blk_grown BK.out hgr (fun he => by have := (HO.out.choose_spec.1 g he.symm).2; omega))
      replace HB := Aside0.mk hb
      replace HO := Aside0.mk ho
      clear ho hb hgr hat
      refine hK.out _ _ ⟨Up.c0 BK, Up.c1 BK⟩ (fun hHeld => ?_)
      clear hK K
      refine Up.nm 21 ?_
      refine Up.pu 9 (some 3) HT_ ?_
      refine done_ (done_of HT_.out (by kernel_rfl)) ?_
      try go_wp2
      go_roundw
      case rel => exact ⟨i + 1, by omega, by go_num, HO, HB⟩
      case measure => simp [intOf]; omega
    · have hie : i = l0.length := by omega
      have HI := Aside0.mk hie
      clear hie
      obtain ⟨A5, c5, e5⟩ := Kd.S_slice HO.out
      rw [HI.out, List.take_length] at e5
      replace HO := Aside0.mk (show Kd.S kRecD 60 wr w.heap.size (fun k => w.heap.size ≤ k) u3 l0 by have := HO.out; rwa [HI.out, List.take_length] at this)
      subst e5
      go_wp2_with (go_at_call 55; refine (clip_rec A5 l0.length c5 _ (Kd.S_reads' HO.out).2.1 hlm).mono ?_; rintro e w7 ⟨rfl, hb⟩; replace HO := Aside0.mk (Kd.S_below HO.out hb); replace HB := Aside0.mk (below_step HB.out hb); clear hb)
      go_ret
      exact ⟨A5, c5, rfl, HO.out, HB.out⟩
theorem clip_recs (A0 : Option Addr) (n c0 : Nat) (w : World) (hc : n ≤ c0) (hm : n ≤ 9223372036854775807) :
    Calls Try.prog 30 #[.slice A0 n c0] w fun e w' => e = .returned (.slice A0 n n) ∧ Below w.heap.size w w' := by
  obtain ⟨i0, hi0, _, hsz, _⟩ := info_parts OFnExactShelfKinds.info52
  have hcut : ∀ W : World, (Instr.slice 29 (.slice A0 n c0) none (some (.int .i64 (n : Int))) (some (.int .i64 (n : Int)))).run Try.prog W = .ok (.slice A0 n n) W := by
    intro W
    have ht := Try.underlying29
    have hel : Try.prog.elem 29 = 52 := by simp [Program.elem, ht]
    have hu : Try.prog.underlying 29 = some (.slice (Try.prog.elem 29)) := by rw [hel]; exact ht
    have ha : (A0.map fun x => x.add 0) = A0 := by cases A0 <;> simp [Addr.add]
    rw [run_slice_hm W 29 A0 n c0 hu .i64 .i64 n n (by omega) (by omega) (by omega), hel]
    simp [sizeOf, typeInfo, hi0, sliced, Result.andThen, ha]
  clear hc
  go_enter Try.func30, Try.ntmps30
  go_wp2
  go_ret
  exact ⟨rfl, Below.refl _ _⟩
abbrev S55 := OFnExactShelfKinds.S55
abbrev k55 := OFnExactShelfKinds.k55
set_option maxHeartbeats 2000000 in
set_option maxRecDepth 100000 in
theorem shelfKinds_own (A0 : Option Addr) (c0 : Nat) (l0 : List S55) (w : World) (hr0 : Kd.C k55 w A0 l0.length l0) (hc0 : l0.length ≤ c0) (hl : l0.length < 4398046511104) (hf : ∀ m ∈ l0, m.f0.length < 4398046511104 ∧ ∀ x ∈ m.f0, x.f1.length < 8796093022208) :
    Calls Try.prog 12 #[.slice A0 l0.length c0] w fun e w' => ∃ A c, e = .returned (.slice A l0.length l0.length) ∧ Kd.S (sl 60 kRecD) 52 w' w.heap.size (fun k => w.heap.size ≤ k) (.slice A l0.length c) (l0.map fun m => m.f0) ∧ Below w.heap.size w w' := by
  have HR0 := Aside0.mk hr0
  have HF := Aside0.mk hf
  have HB := Aside0.mk (Below.refl w.heap.size w)
  have HL := Aside0.mk hl
  have hlm : l0.length ≤ 9223372036854775807 := by omega
  have hu55 := Try.underlying55
  clear hr0 hl hf
  go_enter Try.func12, Try.ntmps12
  go_wp2_with (first
    | ((with_reducible refine gate_dst (N := 6) rfl ?_); refine Kd.S_lit (sl 60 kRecD) _ 52 ?hg (N := 6) ?hd (xs := ([] : List (List S60))) (inner := []) (ok := fun k => w.heap.size ≤ k) (okp := fun _ => False) ?hr ?hp (fun _ hk => hk.elim) (Nat.le_refl _) (Below.refl _ _) (Nat.le_refl _) (by simp) ?_; (case hd => rfl); (case hg => rfl); (case hr => first | (go_simp; done) | (go_simp; rfl)); (case hp => exact (Reps.none _ _)); intro v3 w4 ho hb hg_ hnew_; clear hg_ hnew_; have HO := Aside0.mk ho; replace HB := Aside0.mk hb; clear hb ho))
  go_loopw [3, 9] (fun v3 v9 wr => ∃ i : Nat, i ≤ l0.length ∧ v9 = .int .i64 i ∧ Aside0 (Kd.S (sl 60 kRecD) 52 wr w.heap.size (fun k => w.heap.size ≤ k) v3 ((l0.take i).map fun m => m.f0)) ∧ Aside0 (Below w.heap.size w wr)) (fun _ v9 _ => l0.length - (intOf v9).toNat)
  case atStart => exact ⟨0, Nat.zero_le _, rfl, HO, HB⟩
  case round =>
    clear HO HB
    obtain ⟨i, hi, rfl, HO, HB⟩ := hrel
    by_cases hlt : i < l0.length
    · obtain ⟨ad, A1, c1, A2, c2, A3, c3, ea, hx0, hx1, hx2, hl1, hi1, hl2, hi2, hl3, hi3⟩ := OFnExactShelfKinds.at_T55 HR0.out (i : Int) (by omega) (by omega)
      have hrd : OFnExactShelfKinds.rd_T55 l0 (i : Int) = l0[i] := by simp [OFnExactShelfKinds.rd_T55, hlt]
      rw [hrd] at hx0 hx1 hx2 hl1 hi1 hl2 hi2 hl3 hi3
      have hff := HF.out l0[i] (List.getElem_mem hlt)
      have hts : (l0.take (i + 1)).map (fun m => m.f0) = (l0.take i).map (fun m => m.f0) ++ [l0[i].f0] := by rw [List.take_succ_eq_append_getElem hlt, List.map_append]; rfl
      generalize l0[i] = x at hx0 hx1 hx2 hl1 hi1 hff hts
      have HTS := Aside0.mk hts
      cases ea
      rw [Int.toNat_natCast] at hx0 hx1 hx2
      have hx0 := (HB.out.cell (World.block_lt_of_cell? w _ hx0)).trans hx0
      have hx1 := (HB.out.cell (World.block_lt_of_cell? w _ hx1)).trans hx1
      have hx2 := (HB.out.cell (World.block_lt_of_cell? w _ hx2)).trans hx2
      have HC1 := Aside0.mk hi1
      have HL1 := Aside0.mk hl1
      have HFF := Aside0.mk hff
      clear hi1 hl1 hrd hff hts hl2 hi2 hl3 hi3
      go_wp2_with fail
      obtain ⟨wb, hwb⟩ : ∃ W : World, W.heap.size = wr.heap.size + 1 ∧ Below wr.heap.size wr W ∧ W = wr.alloc (.cells #[.slice A1 x.f0.length c1, .slice A2 x.f1.length c2, .slice A3 x.f2.length c3] 55) := ⟨_, World.size_alloc _ _, below_alloc (Below.refl _ _) _, rfl⟩
      obtain ⟨hsz, hBb, hwb⟩ := hwb
      rw [← hwb]
      replace HO := Aside0.mk (Kd.S_below HO.out hBb)
      replace HB := Aside0.mk (below_step HB.out hBb)
      clear hsz hBb hwb hx0 hx1 hx2
      refine (copyRecords_own A1 c1 x.f0 _ (Kd.C_below HC1.out HB.out) HL1.out HFF.out.1 HFF.out.2).mono ?_
      rintro e w13 ⟨A4, c4, rfl, hs, hb⟩
      have HN := Aside0.mk hb.size
      have HW := Aside0.mk (show w.heap.size ≤ wb.heap.size from HB.out.size)
      have HS := Aside0.mk (Kd.S_lower hs (show w.heap.size ≤ wb.heap.size from HB.out.size))
      replace HO := Aside0.mk (Kd.S_mono (ok' := fun k => w.heap.size ≤ k ∧ k < wb.heap.size) (Kd.S_below (Kd.S_bound HO.out) hb) (fun k hk => ⟨hk.1, hk.2.2.1⟩))
      replace HB := Aside0.mk (below_step HB.out hb)
      clear hs hb
      go_wp2_with (at_builtin
                   refine Kd.S_append (sl 60 kRecD) (w0 := w) w.heap.size rfl (.tmp 13) (.tmp 17) 29 52 (.slice none 0 0) 24 rfl Try.underlying29 OFnExactShelfKinds.info52 rfl (by decide) (by omega) u3 ((l0.take i).map fun m => m.f0) x.f0 [.slice A4 x.f0.length x.f0.length] (fun k => w.heap.size ≤ k) (fun k => wb.heap.size ≤ k) rfl rfl ?aP ?aX ?aF ?aO ?aB ?aS ?aL ?_
                   case aP => exact ⟨.slice A4 x.f0.length c4, x.f0.length, rfl, Nat.le_refl _, HS.out⟩
                   case aX => exact fun k hk => ⟨Nat.le_trans HW.out hk, fun he => by have := (HO.out.choose_spec.1 k he.symm).2; omega⟩
                   case aF => exact fun k hk => Nat.le_trans HB.out.size hk
                   case aO => exact Kd.S_mono HO.out (fun k hk => ⟨hk.1, fun h => by have := hk.2; omega⟩)
                   case aB => exact HB.out
                   case aS => exact HB.out.size
                   case aL =>
                     have h1 := HL.out
                     have h2 := List.length_take_le i l0
                     rw [List.length_map]
                     omega
                   intro v15 w15 ho hb hgr hat
                   rw [← HTS.out] at ho
                   replace HB := Aside0.mk hb
                   replace HO := Aside0.mk ho
                   clear ho hb hgr hat)
      go_roundw
      case rel => exact ⟨i + 1, by omega, by go_num, HO, HB⟩
      case measure => simp [intOf]; omega
    · have hie : i = l0.length := by omega
      have HI := Aside0.mk hie
      clear hie
      obtain ⟨A5, c5, e5⟩ := Kd.S_slice HO.out
      rw [HI.out, List.take_length, List.length_map] at e5
      replace HO := Aside0.mk (show Kd.S (sl 60 kRecD) 52 wr w.heap.size (fun k => w.heap.size ≤ k) u3 (l0.map fun m => m.f0) by have := HO.out; rwa [HI.out, List.take_length] at this)
      subst e5
      go_wp2_with (go_at_call 30; refine (clip_recs A5 l0.length c5 _ (Kd.S_reads' HO.out).2.1 hlm).mono ?_; rintro e w7 ⟨rfl, hb⟩; replace HO := Aside0.mk (Kd.S_below HO.out hb); replace HB := Aside0.mk (below_step HB.out hb); clear hb)
      go_ret
      exact ⟨A5, c5, rfl, HO.out, HB.out⟩
section
def cntRec (x : S60) : Nat := 1 + (x.f1.map fun _ => 1).sum
def cntIns (x : OFnExactShelfKinds.S83) : Nat := 1 + (1 + 1)
def cntFunc (x : OFnExactShelfKinds.S39) : Nat := 1 + ((x.f1.map fun _ => 1).sum + ((x.f2.map fun _ => 1).sum + ((x.f3.map fun _ => 1).sum + ((x.f4.map fun _ => 1).sum + (x.f5.map cntIns).sum))))
def cntMod (x : S55) : Nat := (x.f0.map cntRec).sum + ((x.f1.map cntFunc).sum + (x.f2.map fun _ => 1).sum)
theorem fits_kRecD : Fits True kRecD tyRecord cntRec := (fits_int_pr (fits_row fits_str)).iso _
theorem fits_k60 : Fits False k60 tyRecord cntRec := (fits_int_pair (fits_slice fits_str)).iso _
theorem fits_k83 : Fits False OFnExactShelfKinds.k83 tyIns cntIns := (fits_str_pair (fits_int_pair fits_int)).iso _
theorem fits_k39 : Fits False OFnExactShelfKinds.k39 tyFunc cntFunc := (fits_int_pair (fits_slice_pair fits_str (fits_slice_pair fits_str (fits_slice_pair fits_str (fits_slice_pair fits_int (fits_slice fits_k83)))))).iso _
theorem fits_k55 : Fits False k55 tyModule cntMod := (fits_slice_pair fits_k60 (fits_slice_pair fits_k39 (fits_slice fits_int))).iso _
theorem fits_recs : Fits True (sl 60 kRecD) tyRecordS (fun xs => (xs.map cntRec).sum) := fits_row fits_kRecD
end
abbrev S49 := OFnExactShelfKinds.S49
/-- What the law's functions come to, for one shelf. -/
structure KindsFacts (l0 : List S49) (M : List S55) : Prop where
  to_ : ∃ k, OFnExactShelfKinds.laws_toModuleS.f k l0 = some M
  spec : ∃ k, OFnExactShelfKinds.spec_ShelfKinds.f k M = some (M.map fun m => m.f0)
  eqK : ∃ k, OFnExactShelfKinds.laws_eqRecordSS.f k (M.map fun m => m.f0) (M.map fun m => m.f0) = some true
  eqM : ∃ k, OFnExactShelfKinds.laws_eqModuleS.f k M M = some true
  len : M.length < 4398046511104
  lens : ∀ m ∈ M, m.f0.length < 4398046511104 ∧ ∀ x ∈ m.f0, x.f1.length < 8796093022208
  cnt : (M.map cntMod).sum ≤ 8999998
theorem cnt_kinds (M : List S55) : ((M.map fun m => m.f0).map fun xs => (xs.map cntRec).sum).sum ≤ (M.map cntMod).sum := by
  induction M with
  | nil => exact Nat.le_refl _
  | cons m M ih => simp only [List.map_cons, List.sum_cons, cntMod] at ih ⊢; omega
theorem eqKinds_any {K : List (List S60)} {n : Nat} (hn : K.length = n) (hk : ∃ k, OFnExactShelfKinds.laws_eqRecordSS.f k K K = some true) (A A' : Option Addr) (c c' : Nat) (W : World) (h1 : (Kd.slice 60 k60).C W A n K) (h2 : n ≤ c) (h3 : (Kd.slice 60 k60).C W A' n K) (h4 : n ≤ c') :
    Calls Try.prog 13 #[.slice A n c, .slice A' n c'] W fun e w' => e = .returned (.bool true) ∧ Below W.heap.size W w' := by
  subst hn
  obtain ⟨k, hk⟩ := hk
  exact OFnExactShelfKinds.laws_eqRecordSS.calls k A c K A' c' K true W h1 h2 h3 h4 hk
theorem S_C {α : Type} {d : Kd α} {e base n c m : Nat} {ok : Nat → Prop} {w : World} {A : Option Addr} {xs : List α} (h : Kd.S d e w base ok (.slice A n c) xs) (hn : xs.length = m) : d.C w A m xs := by
  subst hn
  exact (Kd.S_reads' h).2.2
theorem g_C {K : List (List S60)} {base n c m : Nat} {ok : Nat → Prop} {w : World} {A : Option Addr} (h : Kd.S (sl 60 kRecD) 52 w base ok (.slice A n c) K) (hn : K.length = m) : (Kd.slice 60 k60).C w A m K := by
  have h2 : (sl 60 kRecD).C w A m K := S_C h hn
  exact h2
set_option maxHeartbeats 4000000 in
set_option maxRecDepth 100000 in
theorem law (A0 : Option Addr) (c0 : Nat) (l0 : List S49) (w : World) (hr0 : Kd.C OFnExactShelfKinds.k49 w A0 l0.length l0) (hc0 : l0.length ≤ c0) (L : Int) (hL : ∃ k, OFnExactShelfKinds.laws_szModuleS.f k l0 1048576 = some L) (hM : 0 ≤ L → ∃ M, KindsFacts l0 M) :
    Calls Try.prog 4 #[.slice A0 l0.length c0] w fun e w' => e = .returned (.bool true) ∧ Below w.heap.size w w' := by
  obtain ⟨k1, h1⟩ := hL
  have H1 := Aside0.mk h1
  have HR := Aside0.mk hr0
  have HB := Aside0.mk (Below.refl w.heap.size w)
  clear h1 hr0
  by_cases hneg : L < 0
  · go_enter Try.func4, Try.ntmps4
    go_wp2_with (go_at_call 6; refine (OFnExactShelfKinds.laws_szModuleS.calls k1 A0 c0 l0 1048576 L _ (Kd.C_below HR.out HB.out) hc0 H1.out).mono ?_; rintro e w1 ⟨rfl, hb⟩; replace HB := Aside0.mk (below_step HB.out hb); clear hb)
    go_ret
    exact ⟨rfl, HB.out⟩
  · obtain ⟨M, hM⟩ := hM (by omega)
    have hlenM := hM.len
    have HM := Aside0.mk hM
    have HMK := Aside0.mk (show (M.map fun m => m.f0).length = M.length from List.length_map _)
    clear hM
    go_enter Try.func4, Try.ntmps4
    go_wp2_with fail
    refine (OFnExactShelfKinds.laws_szModuleS.calls k1 A0 c0 l0 1048576 L _ (Kd.C_below HR.out HB.out) hc0 H1.out).mono ?_
    rintro e w1 ⟨rfl, hb⟩
    replace HB := Aside0.mk (below_step HB.out hb)
    clear hb
    -- w0
    go_wp2_with fail
    refine (OFnExactShelfKinds.laws_toModuleS.calls HM.out.to_.choose A0 c0 l0 M _ (Kd.C_below HR.out HB.out) hc0 HM.out.to_.choose_spec).mono ?_
    rintro e w2 ⟨v2, rfl, ho, hb⟩
    replace HB := Aside0.mk (below_step HB.out hb)
    obtain ⟨A2, c2, rfl, hc2, hC2⟩ := Kd.R_reads ho
    clear ho hb
    go_wp2_with fail
    refine (OFnExactShelfKinds.spec_ShelfKinds.calls HM.out.spec.choose A2 c2 M _ _ hC2 hc2 HM.out.spec.choose_spec).mono ?_
    rintro e w3 ⟨v3, rfl, ho, hb⟩
    replace HB := Aside0.mk (below_step HB.out hb)
    obtain ⟨A3, c3, rfl, hc3, hC3⟩ := Kd.R_reads ho
    rw [HMK.out] at hC3 hc3 ⊢
    have HW := Aside0.mk hC3
    have HBw := Aside0.mk (Below.refl w3.heap.size w3)
    clear ho hb hC2 hC3
    -- x0
    go_wp2_with fail
    refine (OFnExactShelfKinds.laws_toModuleS.calls HM.out.to_.choose A0 c0 l0 M _ (Kd.C_below HR.out HB.out) hc0 HM.out.to_.choose_spec).mono ?_
    rintro e w4 ⟨v4, rfl, ho, hb⟩
    have HL3 := Aside0.mk (show w.heap.size ≤ w3.heap.size from HB.out.size)
    replace HB := Aside0.mk (below_step HB.out hb)
    replace HBw := Aside0.mk (below_step HBw.out hb)
    obtain ⟨A4, c4, rfl, hc4, hC4⟩ := Kd.R_reads ho
    obtain ⟨s4, hs4, hin4, hct4⟩ := R_slots fits_k55 ho c4 hc4
    have HS4 := Aside0.mk (show RowOf (Cel w4 tyModule) 3 (.slice A4 M.length c4) s4 from hs4)
    have HI4 := Aside0.mk (show ∀ p ∈ s4, w3.heap.size ≤ p.1 ∧ p.1 < w4.heap.size from fun p hp => ⟨(hin4 p hp).2, RowOf.mem hs4 p hp⟩)
    have HT4 := Aside0.mk (show 1 + s4.length ≤ 9000000 by rw [hct4]; have := HM.out.cnt; omega)
    have HC4 := Aside0.mk hC4
    have HB4 := Aside0.mk (Below.refl w4.heap.size w4)
    clear ho hb hs4 hin4 hct4 hC4
    -- g0
    go_wp2_with fail
    refine (shelfKinds_own A4 c4 M _ (Kd.C_below HC4.out HB4.out) hc4 HM.out.len HM.out.lens).mono ?_
    rintro e w5 ⟨A5, c5, rfl, hs, hb⟩
    have HL4 := Aside0.mk (show w3.heap.size ≤ w4.heap.size from HBw.out.size)
    replace HB := Aside0.mk (below_step HB.out hb)
    replace HBw := Aside0.mk (below_step HBw.out hb)
    replace HB4 := Aside0.mk (below_step HB4.out hb)
    have HG := Aside0.mk hs
    clear hs hb
    go_wp2_with fail
    refine (eqKinds_any HMK.out HM.out.eqK _ _ _ _ _ (g_C HG.out HMK.out) (Nat.le_refl _) (Kd.C_below HW.out HBw.out) hc3).mono ?_
    rintro e w6 ⟨rfl, hb⟩
    replace HG := Aside0.mk (Kd.S_below HG.out hb)
    replace HB := Aside0.mk (below_step HB.out hb)
    replace HBw := Aside0.mk (below_step HBw.out hb)
    replace HB4 := Aside0.mk (below_step HB4.out hb)
    clear hb
    -- the argument stays
    go_wp2_with fail
    refine (OFnExactShelfKinds.laws_toModuleS.calls HM.out.to_.choose A0 c0 l0 M _ (Kd.C_below HR.out HB.out) hc0 HM.out.to_.choose_spec).mono ?_
    rintro e w7 ⟨v7, rfl, ho, hb⟩
    replace HG := Aside0.mk (Kd.S_below HG.out hb)
    replace HB := Aside0.mk (below_step HB.out hb)
    replace HBw := Aside0.mk (below_step HBw.out hb)
    replace HB4 := Aside0.mk (below_step HB4.out hb)
    obtain ⟨A7, c7, rfl, hc7, hC7⟩ := Kd.R_reads ho
    clear ho hb
    go_wp2_with fail
    refine (OFnExactShelfKinds.laws_eqModuleS.calls HM.out.eqM.choose A4 c4 M A7 c7 M true _ (Kd.C_below HC4.out HB4.out) hc4 hC7 hc7 HM.out.eqM.choose_spec).mono ?_
    rintro e w8 ⟨rfl, hb⟩
    replace HG := Aside0.mk (Kd.S_below HG.out hb)
    replace HB := Aside0.mk (below_step HB.out hb)
    replace HBw := Aside0.mk (below_step HBw.out hb)
    replace HB4 := Aside0.mk (below_step HB4.out hb)
    clear hb hC7
    -- its marks
    go_wp2_with fail
    refine (markModuleS_any _ s4 1 rfl _ (HS4.out.tp (TP.of_below HB4.out)) (Nat.le_refl _) HT4.out).mono ?_
    rintro e w9 ⟨rfl, hm⟩
    replace HB := Aside0.mk (hm.below_of (fun p hp => Nat.le_trans HL3.out (HI4.out p hp).1) HB.out HB.out.size)
    replace HBw := Aside0.mk (hm.below_of (fun p hp => (HI4.out p hp).1) HBw.out HBw.out.size)
    replace HG := Aside0.mk (Kd.S_kept HG.out hm.kept (fun k hk ⟨p, hp, he⟩ => by have := (HI4.out p hp).2; omega))
    obtain ⟨N4, hN4⟩ : ∃ N, N = 1 + s4.length := ⟨_, rfl⟩
    rw [← hN4]
    clear hm hN4 HB4 HC4 HS4 HI4 HT4
    have hN4 : ¬ ((N4 : Int) < 0) := by omega
    go_wp2_with fail
    refine (eqKinds_any HMK.out HM.out.eqK _ _ _ _ _ (g_C HG.out HMK.out) (Nat.le_refl _) (Kd.C_below HW.out HBw.out) hc3).mono ?_
    rintro e w10 ⟨rfl, hb⟩
    replace HG := Aside0.mk (Kd.S_below HG.out hb)
    replace HB := Aside0.mk (below_step HB.out hb)
    replace HBw := Aside0.mk (below_step HBw.out hb)
    clear hb
    -- the result's marks
    obtain ⟨s5, hs5, hin5, hnd5, hct5⟩ := S_slots fits_recs HG.out M.length (Nat.le_of_eq HMK.out)
    have HS5 := Aside0.mk (show RowOf (Cel w10 tyRecordS) 1 (.slice A5 M.length M.length) s5 from hs5)
    have HT5 := Aside0.mk (show 1 + s5.length ≤ 9000000 by have h3 : s5.length ≤ (M.map cntMod).sum := Nat.le_trans (Nat.le_of_eq hct5) (cnt_kinds M); have := HM.out.cnt; omega)
    have HI5 := Aside0.mk hin5
    have HD5 := Aside0.mk hnd5
    clear hs5 hin5 hnd5 hct5 HG
    go_wp2_with fail
    refine (markRecordSS_any _ s5 1 rfl _ HS5.out (Nat.le_refl _) HT5.out).mono ?_
    rintro e w11 ⟨rfl, hm⟩
    replace HB := Aside0.mk (hm.below_of (fun p hp => Nat.le_trans HL3.out (Nat.le_trans HL4.out (HI5.out p hp).1)) HB.out HB.out.size)
    replace HBw := Aside0.mk (hm.below_of (fun p hp => Nat.le_trans HL4.out (HI5.out p hp).1) HBw.out HBw.out.size)
    replace HS5 := Aside0.mk (HS5.out.tp hm.tp)
    have HH := Aside0.mk (hm.held HD5.out)
    have HB5 := Aside0.mk (Below.refl w11.heap.size w11)
    obtain ⟨N5, hN5⟩ : ∃ N, N = 1 + s5.length := ⟨_, rfl⟩
    have HN5 := Aside0.mk hN5
    rw [← hN5]
    clear hm hN5 HD5 HI5
    go_wp2_with fail
    refine (heldRecordSS_any _ s5 1 rfl _ HS5.out (Nat.le_refl _) HT5.out HH.out).mono ?_
    rintro e w12 ⟨rfl, hb⟩
    rw [← HN5.out]
    replace HB := Aside0.mk (below_step HB.out hb)
    replace HBw := Aside0.mk (below_step HBw.out hb)
    replace HB5 := Aside0.mk (below_step HB5.out hb)
    clear hb
    have hN5 : ¬ ((N5 : Int) < 0) := by omega
    -- once more
    go_wp2_with fail
    refine (OFnExactShelfKinds.laws_toModuleS.calls HM.out.to_.choose A0 c0 l0 M _ (Kd.C_below HR.out HB.out) hc0 HM.out.to_.choose_spec).mono ?_
    rintro e w13 ⟨v13, rfl, ho, hb⟩
    replace HB := Aside0.mk (below_step HB.out hb)
    replace HBw := Aside0.mk (below_step HBw.out hb)
    replace HB5 := Aside0.mk (below_step HB5.out hb)
    obtain ⟨A13, c13, rfl, hc13, hC13⟩ := Kd.R_reads ho
    clear ho hb
    go_wp2_with fail
    refine (shelfKinds_own A13 c13 M _ hC13 hc13 HM.out.len HM.out.lens).mono ?_
    rintro e w14 ⟨A14, c14, rfl, hs, hb⟩
    replace HB := Aside0.mk (below_step HB.out hb)
    replace HBw := Aside0.mk (below_step HBw.out hb)
    replace HB5 := Aside0.mk (below_step HB5.out hb)
    have HG := Aside0.mk hs
    clear hs hb hC13
    go_wp2_with fail
    refine (eqKinds_any HMK.out HM.out.eqK _ _ _ _ _ (g_C HG.out HMK.out) (Nat.le_refl _) (Kd.C_below HW.out HBw.out) hc3).mono ?_
    rintro e w15 ⟨rfl, hb⟩
    replace HB := Aside0.mk (below_step HB.out hb)
    replace HB5 := Aside0.mk (below_step HB5.out hb)
    clear hb HG HBw
    go_wp2_with fail
    refine (heldRecordSS_any _ s5 1 rfl _ (HS5.out.tp (TP.of_below HB5.out)) (Nat.le_refl _) HT5.out (HH.out.below HB5.out)).mono ?_
    rintro e w16 ⟨rfl, hb⟩
    rw [← HN5.out]
    replace HB := Aside0.mk (below_step HB.out hb)
    clear hb
    go_wp2
    go_ret
    exact ⟨rfl, HB.out⟩
theorem fin (A0 : Option Addr) (c0 : Nat) (l0 : List S49) (w : World) (hr0 : Kd.C OFnExactShelfKinds.k49 w A0 l0.length l0) (hc0 : l0.length ≤ c0) (g : gL gModule l0) :
    Calls Try.prog 4 #[.slice A0 l0.length c0] w fun e w' => e = .returned (.bool true) ∧ Below w.heap.size w w' := by
  obtain ⟨L, hL, h⟩ := Pure.FnExactShelfKinds l0 g
  refine law A0 c0 l0 w hr0 hc0 L hL (fun h0 => ?_)
  obtain ⟨w0, h1, h2, h3, h4⟩ := h h0
  have hb := shelf_count w0
  exact ⟨_, h1, h2, h3, h4, by omega, fun m hm => ⟨by have := (hb.2.1 m hm).1; omega, fun x hx => by have := (hb.2.1 m hm).2 x hx; omega⟩, Nat.le_trans (show ((l0.map cModule).map cntMod).sum ≤ 3145728 from hb.2.2) (by omega)⟩
end Go.Proofs.Ytcdamcfklehedaa.Hand
