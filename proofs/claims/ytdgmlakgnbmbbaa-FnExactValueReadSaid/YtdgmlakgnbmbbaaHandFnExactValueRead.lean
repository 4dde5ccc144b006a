/- The law FnExactValueRead answers true, for every kinds and text within the bounds of the reading: its functions are walked, and what they write is told cell by cell. -/
import Derived.Test.YtdgmlakgnbmbbaaOFnExactValueReadx0
import Derived.Test.YtdgmlakgnbmbbaaOFnExactValueReadx1
import Derived.Test.YtdgmlakgnbmbbaaOFnExactValueReadx2
import Derived.Test.YtdgmlakgnbmbbaaOFnExactValueReadx3
import Derived.Test.YtdgmlakgnbmbbaaOFnExactValueReadx4
import Derived.Test.YtdgmlakgnbmbbaaPureFnExactValueRead
namespace Go.Proofs.Ytdgmlakgnbmbbaa.Hand
open Go.RowKit Go.Proofs.YtdgmlakgnbmbbaaW.PrintWords Go.Proofs.YtdgmlakgnbmbbaaW.PrintLast Go.Proofs.YtdgmlakgnbmbbaaW.PrintMore Go.Proofs.Ytdgmlakgnbmbbaa Go.Proofs.Ytdgmlakgnbmbbaa.Pure Go.Proofs.Ytdgmlakgnbmbbaa.Base
set_option linter.unusedVariables false
set_option linter.unusedSimpArgs false
/-! Rows that are written in place: rows seen through a shorter room, rows inside rows, nothing shared between them. -/
def cutV : Value → Nat → Value
  | .slice A n _, c => .slice A n c
  | v, _ => v
@[go_sem] theorem cutV_slice (A : Option Addr) (n c d : Nat) : cutV (.slice A n c) d = .slice A n d := rfl
section
variable {α β : Type} {d : Kd α} {e g n c base : Nat} {ok ok' oki : Nat → Prop} {w w1 W : World} {v : Value} {xs : List α}
/-- A row of the call's own, its elements apart, seen through a room of its own. -/
def sl {α : Type} (e : Nat) (d : Kd α) : Kd (List α) where
  sz := 1
  E := e :: d.E
  K := fun w xs cs => ∃ A c, cs = [.slice A xs.length c] ∧ xs.length ≤ c ∧ d.C w A xs.length xs
  M := fun w base ok xs cs => ∃ v c, cs = [cutV v c] ∧ xs.length ≤ c ∧ Kd.S d e w base ok v xs
  K_len := by
    rintro w x cs ⟨A, c, rfl, _⟩
    rfl
  K_one := by
    rintro w x cs ⟨A, c, rfl, _⟩ u hu
    rw [List.mem_singleton.1 hu]
    rfl
  K_below := by
    rintro w w1 x cs hb ⟨A, c, rfl, hl, hr⟩
    exact ⟨A, c, rfl, hl, Kd.C_below hr hb⟩
  K_of_M := by
    rintro w base ok x cs ⟨v, c, rfl, hl, h⟩
    obtain ⟨A, c', rfl, _, hr⟩ := Kd.S_reads h
    exact ⟨A, c, rfl, hl, hr⟩
  M_mono := by
    rintro w base ok ok' x cs hok ⟨v, c, rfl, hl, h⟩
    exact ⟨v, c, rfl, hl, Kd.S_mono h hok⟩
  M_bound := by
    rintro w base ok x cs ⟨v, c, rfl, hl, h⟩
    exact ⟨v, c, rfl, hl, Kd.S_bound h⟩
  M_move := by
    rintro w w1 base ok x cs hm ⟨v, c, rfl, hl, h⟩
    exact ⟨v, c, rfl, hl, Kd.S_move h hm⟩
  M_lower := by
    rintro w base base' ok x cs hb ⟨v, c, rfl, hl, h⟩
    exact ⟨v, c, rfl, hl, Kd.S_lower h hb⟩
/-- Two in line that lead to nothing in common. -/
def pr {α β : Type} (a : Kd α) (b : Kd β) : Kd (α × β) where
  sz := a.sz + b.sz
  E := a.E ++ b.E
  K := fun w x cs => ∃ c0 c1, cs = c0 ++ c1 ∧ a.K w x.1 c0 ∧ b.K w x.2 c1
  M := fun w base ok x cs => ∃ c0 c1, cs = c0 ++ c1 ∧ ∃ p : Nat → Prop, a.M w base (fun k => ok k ∧ p k) x.1 c0 ∧ b.M w base (fun k => ok k ∧ ¬ p k) x.2 c1
  K_len := by
    rintro w x cs ⟨c0, c1, rfl, h0, h1⟩
    rw [List.length_append, a.K_len h0, b.K_len h1]
  K_one := by
    rintro w x cs ⟨c0, c1, rfl, h0, h1⟩ u hu
    rcases List.mem_append.1 hu with hu | hu
    · exact a.K_one h0 u hu
    · exact b.K_one h1 u hu
  K_below := by
    rintro w w1 x cs hb ⟨c0, c1, rfl, h0, h1⟩
    exact ⟨c0, c1, rfl, a.K_below hb h0, b.K_below hb h1⟩
  K_of_M := by
    rintro w base ok x cs ⟨c0, c1, rfl, p, h0, h1⟩
    exact ⟨c0, c1, rfl, a.K_of_M h0, b.K_of_M h1⟩
  M_mono := by
    rintro w base ok ok' x cs hok ⟨c0, c1, rfl, p, h0, h1⟩
    exact ⟨c0, c1, rfl, p, a.M_mono (fun k hk => ⟨hok k hk.1, hk.2⟩) h0, b.M_mono (fun k hk => ⟨hok k hk.1, hk.2⟩) h1⟩
  M_bound := by
    rintro w base ok x cs ⟨c0, c1, rfl, p, h0, h1⟩
    refine ⟨c0, c1, rfl, p, a.M_mono ?_ (a.M_bound h0), b.M_mono ?_ (b.M_bound h1)⟩
    · rintro k ⟨⟨h2, hp⟩, h3, h4, q, hq, hc⟩
      exact ⟨⟨h2, h3, h4, q, List.mem_append_left _ hq, hc⟩, hp⟩
    · rintro k ⟨⟨h2, hp⟩, h3, h4, q, hq, hc⟩
      exact ⟨⟨h2, h3, h4, q, List.mem_append_right _ hq, hc⟩, hp⟩
  M_move := by
    rintro w w1 base ok x cs hm ⟨c0, c1, rfl, p, h0, h1⟩
    exact ⟨c0, c1, rfl, p, a.M_move (fun k hk => hm k hk.1) h0, b.M_move (fun k hk => hm k hk.1) h1⟩
  M_lower := by
    rintro w base base' ok x cs hb ⟨c0, c1, rfl, p, h0, h1⟩
    exact ⟨c0, c1, rfl, p, a.M_lower hb h0, b.M_lower hb h1⟩
theorem S_imp {d d' : Kd α} (hs : d.sz = d'.sz) (hM : ∀ w base ok x cs, d.M w base ok x cs → d'.M w base ok x cs) (h : Kd.S d e w base ok v xs) : Kd.S d' e w base ok v xs := by
  obtain ⟨f, h0, inner, ho, hr⟩ := h
  refine ⟨f, h0, inner, ?_, ?_, fun j p hj => hM _ _ _ _ _ ?_⟩
  · have : (Kd.tag f d).sz = (Kd.tag f d').sz := hs
    rw [← this]; exact ho
  · have : (Kd.tag f d).sz = (Kd.tag f d').sz := hs
    rw [← this]; exact hr.1
  · have := hr.2 j p hj
    have e2 : (Kd.tag f d).sz = (Kd.tag f d').sz := hs
    rw [e2] at this; exact this
/-- Elements that lead to nothing: any row of them is one whose elements are apart. -/
theorem S_flat (hE : d.E = []) (h : d.R e w base ok v xs) : Kd.S d e w base ok v xs := by
  obtain ⟨h0, inner, ho, hr⟩ := h
  refine Kd.S_bare ⟨h0, inner, ho, hr.imp_ (fun p c hp => d.M_mono (fun k hk => ?_) (d.M_bound hp))⟩
  obtain ⟨_, _, _, q, hq, _⟩ := hk
  rw [hE] at hq
  cases hq
/-- Element i, to be written: its cells (in the block g), and how it is put back. -/
theorem S_take_ {cap : Nat} (h : Kd.S d e W base ok (.slice (some ⟨g, 0, none⟩) n cap) xs) (z : α) (i : Nat) (h1 : i < n) :
    ∃ (oki : Nat → Prop) (c : List Value), d.M W base oki (xs.getD i z) c ∧ (∀ j u, c[j]? = some u → W.cell? ⟨g, i * d.sz + j, none⟩ = some u ∧ W.frozen? ⟨g, i * d.sz + j, none⟩ = false) ∧ (∀ k, oki k → ok k ∧ k ≠ g) ∧ ok g ∧ Kd.H d e W base ok (.slice (some ⟨g, 0, none⟩) n cap) xs i oki c := by
  obtain ⟨oki, c, hcl, hM, hcc, hfr, hoki, hH⟩ := Kd.S_elem h z (i : Int) (by omega) (by omega)
  simp only [Int.toNat_natCast] at hcc hM hfr
  refine ⟨oki, c, hM, fun j u hu => ⟨hcc j u hu, hfr j⟩, hoki, ?_, hH⟩
  obtain ⟨f, hf⟩ := h
  exact hf.1 g rfl
end
/-! What is marked: the cells of a nested structure that hold numbers and texts, in order. -/
section
abbrev Slot := Nat × Nat × Bool
/-- The cells of an element, in line: a number, a text, a row of elements. -/
inductive Ty where
  | nil | no | int (t : Ty) | str (t : Ty) | row (e t : Ty)
def Ty.sz : Ty → Nat
  | .nil => 0
  | .no => 0
  | .int t => t.sz + 1
  | .str t => t.sz + 1
  | .row _ t => t.sz + 1
def RowOf (P : Nat → Nat → List Slot → Prop) (sz : Nat) (v : Value) (s : List Slot) : Prop :=
  (∃ c, v = .slice none 0 c ∧ s = []) ∨ ∃ g n c, v = .slice (some ⟨g, 0, none⟩) n c ∧ n ≤ c ∧ n ≤ maxLen ∧ ∃ ss : List (List Slot), ss.length = n ∧ s = ss.flatten ∧ ∀ j t, ss[j]? = some t → P g (j * sz) t
def Cel (w : World) : Ty → Nat → Nat → List Slot → Prop
  | .nil, _, _, sl => sl = []
  | .no, _, _, _ => False
  | .int t, g, o, sl => (∃ i, w.cell? ⟨g, o, none⟩ = some (.int .i64 i)) ∧ w.frozen? ⟨g, o, none⟩ = false ∧ ∃ r, sl = (g, o, false) :: r ∧ Cel w t g (o + 1) r
  | .str t, g, o, sl => (∃ s, w.cell? ⟨g, o, none⟩ = some (.string s)) ∧ w.frozen? ⟨g, o, none⟩ = false ∧ ∃ r, sl = (g, o, true) :: r ∧ Cel w t g (o + 1) r
  | .row e t, g, o, sl => ∃ v s r, w.cell? ⟨g, o, none⟩ = some v ∧ RowOf (Cel w e) e.sz v s ∧ sl = s ++ r ∧ Cel w t g (o + 1) r
theorem RowOf.imp {P Q : Nat → Nat → List Slot → Prop} {sz : Nat} {v : Value} {s : List Slot} (h : RowOf P sz v s) (hi : ∀ g o t, P g o t → Q g o t) : RowOf Q sz v s := by
  rcases h with h | ⟨g, n, c, hv, h1, h2, ss, h3, h4, h5⟩
  · exact .inl h
  · exact .inr ⟨g, n, c, hv, h1, h2, ss, h3, h4, fun j t hj => hi _ _ _ (h5 j t hj)⟩
theorem RowOf.slice {P : Nat → Nat → List Slot → Prop} {sz : Nat} {v : Value} {s : List Slot} (h : RowOf P sz v s) : ∃ A n c, v = .slice A n c := by
  rcases h with ⟨c, h, _⟩ | ⟨g, n, c, hv, _⟩
  · exact ⟨_, _, _, h⟩
  · exact ⟨_, _, _, hv⟩
/-- What was a slice, a text, a number is one still: a slice the same. -/
structure TP (w w' : World) : Prop where
  env : w'.os = w.os ∧ w'.tape = w.tape ∧ w'.output = w.output
  size : w.heap.size ≤ w'.heap.size
  sl : ∀ a A n c, w.cell? a = some (.slice A n c) → w'.cell? a = some (.slice A n c)
  str : ∀ a s, w.cell? a = some (.string s) → ∃ s', w'.cell? a = some (.string s')
  int : ∀ a i, w.cell? a = some (.int .i64 i) → ∃ i', w'.cell? a = some (.int .i64 i')
  fz : ∀ a, a.block < w.heap.size → w.frozen? a = false → w'.frozen? a = false
theorem TP.refl (w : World) : TP w w := ⟨⟨rfl, rfl, rfl⟩, Nat.le_refl _, fun _ _ _ _ h => h, fun _ s h => ⟨s, h⟩, fun _ i h => ⟨i, h⟩, fun _ _ h => h⟩
theorem TP.of_below {w w' : World} (h : Below w.heap.size w w') : TP w w' :=
  ⟨⟨h.os, h.tape, h.output⟩, h.size, fun a _ _ _ hc => (h.cell (World.block_lt_of_cell? w a hc)).trans hc, fun a s hc => ⟨s, (h.cell (World.block_lt_of_cell? w a hc)).trans hc⟩, fun a i hc => ⟨i, (h.cell (World.block_lt_of_cell? w a hc)).trans hc⟩,
    fun a ha hf => (h.frozen ha).trans hf⟩
theorem Cel.tp {w w' : World} (h : TP w w') : ∀ (t : Ty) (g o : Nat) (sl : List Slot), Cel w t g o sl → Cel w' t g o sl
  | .nil, _, _, _, hc => hc
  | .no, _, _, _, hc => hc
  | .int t, g, o, _, ⟨⟨_, hc⟩, hf, r, hr, ht⟩ => ⟨h.int _ _ hc, h.fz _ (World.block_lt_of_cell? w _ hc) hf, r, hr, Cel.tp h t g (o + 1) r ht⟩
  | .str t, g, o, _, ⟨⟨_, hc⟩, hf, r, hr, ht⟩ => ⟨h.str _ _ hc, h.fz _ (World.block_lt_of_cell? w _ hc) hf, r, hr, Cel.tp h t g (o + 1) r ht⟩
  | .row e t, g, o, _, ⟨v, s, r, hc, hv, hr, ht⟩ => ⟨v, s, r, by
      obtain ⟨A, n, c, rfl⟩ := hv.slice
      exact h.sl _ _ _ _ hc, hv.imp (Cel.tp h e), hr, Cel.tp h t g (o + 1) r ht⟩
theorem RowOf.tp {w w' : World} (h : TP w w') {e : Ty} {v : Value} {s : List Slot} (hr : RowOf (Cel w e) e.sz v s) : RowOf (Cel w' e) e.sz v s := hr.imp (Cel.tp h e)
/-- The value of a mark. -/
def mkv (t : Bool) (k : Nat) : Value := if t then .string (mtx k) else .int .i64 (k : Int)
/-- From w to w' the cells of sl were written, in order, with the marks from a on. -/
structure Marked (w w' : World) (sl : List Slot) (a : Nat) : Prop where
  tp : TP w w'
  far : ∀ b, b < w.heap.size → (∀ p ∈ sl, p.1 ≠ b) → w'.heap[b]? = w.heap[b]?
  off : ∀ b o, b < w.heap.size → (∀ p ∈ sl, ¬ (p.1 = b ∧ p.2.1 = o)) → w'.cell? ⟨b, o, none⟩ = w.cell? ⟨b, o, none⟩
  at_ : (sl.map fun p => (p.1, p.2.1)).Nodup → ∀ j p, sl[j]? = some p → w'.cell? ⟨p.1, p.2.1, none⟩ = some (mkv p.2.2 (a + j))
theorem Marked.nil {w w' : World} (h : Below w.heap.size w w') (a : Nat) : Marked w w' [] a :=
  ⟨TP.of_below h, fun b hb _ => h.block b hb, fun b o hb _ => h.cell (p := ⟨b, o, none⟩) hb, fun _ j p hj => by simp at hj⟩
theorem TP.trans {w w1 w2 : World} (h : TP w w1) (k : TP w1 w2) : TP w w2 :=
  ⟨⟨k.env.1.trans h.env.1, k.env.2.1.trans h.env.2.1, k.env.2.2.trans h.env.2.2⟩, Nat.le_trans h.size k.size, fun a A n c hc => k.sl _ _ _ _ (h.sl _ _ _ _ hc), fun a s hc => by obtain ⟨s', hs⟩ := h.str _ _ hc; exact k.str _ _ hs, fun a i hc => by obtain ⟨s', hs⟩ := h.int _ _ hc; exact k.int _ _ hs,
    fun a ha hf => k.fz _ (Nat.lt_of_lt_of_le ha h.size) (h.fz _ ha hf)⟩
def likes (u v : Value) : Prop := (∃ s s', u = .string s ∧ v = .string s') ∨ ∃ i i', u = .int .i64 i ∧ v = .int .i64 i'
theorem TP.set (w : World) (a : Addr) {u v : Value} (hc : w.cell? a = some u) (hl : likes u v) : TP w (w.setCell a v) := by
  have hs : (w.setCell a v).cell? a = some v := World.cell?_setCell_same _ _ _ hc
  refine ⟨⟨rfl, rfl, rfl⟩, by simp, fun b A n c hb => ?_, fun b s hb => ?_, fun b i hb => ?_, fun b hb hf => by simpa using hf⟩
  · by_cases e : a = b
    · subst e
      rw [hc] at hb
      rcases hl with ⟨s, s', rfl, _⟩ | ⟨i, i', rfl, _⟩ <;> cases hb
    · rw [World.cell?_setCell_other _ _ _ _ e]; exact hb
  · by_cases e : a = b
    · subst e
      rw [hc] at hb
      rcases hl with ⟨s, s', rfl, rfl⟩ | ⟨i, i', rfl, _⟩
      · exact ⟨_, hs⟩
      · cases hb
    · exact ⟨s, by rw [World.cell?_setCell_other _ _ _ _ e]; exact hb⟩
  · by_cases e : a = b
    · subst e
      rw [hc] at hb
      rcases hl with ⟨s, s', rfl, rfl⟩ | ⟨i, i', rfl, rfl⟩
      · cases hb
      · exact ⟨_, hs⟩
    · exact ⟨i, by rw [World.cell?_setCell_other _ _ _ _ e]; exact hb⟩
theorem likes_mkv {t : Bool} {u : Value} (k : Nat) (h : (t = true ∧ ∃ s, u = .string s) ∨ (t = false ∧ ∃ i, u = .int .i64 i)) : likes u (mkv t k) := by
  rcases h with ⟨rfl, s, rfl⟩ | ⟨rfl, i, rfl⟩
  · exact .inl ⟨_, _, rfl, rfl⟩
  · exact .inr ⟨_, _, rfl, rfl⟩
/-- One cell is written. -/
theorem Marked.one (w : World) {g o : Nat} {t : Bool} {u : Value} (k : Nat) (hc : w.cell? ⟨g, o, none⟩ = some u) (h : (t = true ∧ ∃ s, u = .string s) ∨ (t = false ∧ ∃ i, u = .int .i64 i)) : Marked w (w.setCell ⟨g, o, none⟩ (mkv t k)) [(g, o, t)] k where
  tp := TP.set w _ hc (likes_mkv k h)
  far := fun b hb hn => Below.heap_setCell w _ _ b (fun e => hn _ (List.mem_singleton.2 rfl) e.symm)
  off := fun b o' hb hn => World.cell?_setCell_other _ _ _ _ (fun e => by
    injection e with e1 e2
    exact hn _ (List.mem_singleton.2 rfl) ⟨e1, e2⟩)
  at_ := fun _ j p hj => by
    cases j with
    | zero =>
      obtain rfl : (g, o, t) = p := by simpa using hj
      exact World.cell?_setCell_same _ _ _ hc
    | succ j => simp at hj
theorem Marked.then {w w1 w2 : World} {s1 s2 : List Slot} {a : Nat} (h : Marked w w1 s1 a) (k : Marked w1 w2 s2 (a + s1.length)) : Marked w w2 (s1 ++ s2) a where
  tp := h.tp.trans k.tp
  far := fun b hb hn => (k.far b (Nat.lt_of_lt_of_le hb h.tp.size) (fun p hp => hn p (List.mem_append_right _ hp))).trans (h.far b hb (fun p hp => hn p (List.mem_append_left _ hp)))
  off := fun b o hb hn => (k.off b o (Nat.lt_of_lt_of_le hb h.tp.size) (fun p hp => hn p (List.mem_append_right _ hp))).trans (h.off b o hb (fun p hp => hn p (List.mem_append_left _ hp)))
  at_ := fun hnd j p hj => by
    rw [List.map_append, List.nodup_append] at hnd
    obtain ⟨hn1, hn2, hne⟩ := hnd
    rcases Nat.lt_or_ge j s1.length with hlt | hge
    · rw [List.getElem?_append_left hlt] at hj
      have hp := List.mem_of_getElem? hj
      have h1 := h.at_ hn1 j p hj
      rw [k.off _ _ (World.block_lt_of_cell? w1 _ h1) (fun q hq e => hne (p.1, p.2.1) (List.mem_map.2 ⟨p, hp, rfl⟩) (q.1, q.2.1) (List.mem_map.2 ⟨q, hq, rfl⟩) (by rw [e.1, e.2]))]
      exact h1
    · rw [List.getElem?_append_right hge] at hj
      have := k.at_ hn2 _ p hj
      rw [show a + s1.length + (j - s1.length) = a + j by omega] at this
      exact this
theorem Marked.below {w w1 w2 : World} {s : List Slot} {a : Nat} (h : Marked w w1 s a) (k : Below w1.heap.size w1 w2) : Marked w w2 s a := by
  have := Marked.then h (Marked.nil k (a + s.length))
  rwa [List.append_nil] at this
theorem Marked.more {w wr w2 : World} {s s2 : List Slot} {a K : Nat} (h : Marked w wr s a) (hK : K = a + s.length) (k : Marked wr w2 s2 K) : Marked w w2 (s ++ s2) a := by
  subst hK
  exact Marked.then h k
/-- A number's cell, a text's cell is written. -/
theorem Marked.putI {w wr : World} {s : List Slot} {a K g o : Nat} {z : Int} (ki : Int) (h : Marked w wr s a) (hK : K = a + s.length) (hki : ki = (K : Int)) (hc : w.cell? ⟨g, o, none⟩ = some (.int .i64 z)) : Marked w (wr.setCell ⟨g, o, none⟩ (.int .i64 ki)) (s ++ [(g, o, false)]) a := by
  subst hki
  obtain ⟨z', hz⟩ := h.tp.int _ _ hc
  exact Marked.more h hK (Marked.one _ (t := false) _ hz (.inr ⟨rfl, _, rfl⟩))
theorem Marked.putS {w wr : World} {s : List Slot} {a K g o : Nat} {z : ByteArray} (h : Marked w wr s a) (hK : K = a + s.length) (hc : w.cell? ⟨g, o, none⟩ = some (.string z)) : Marked w (wr.setCell ⟨g, o, none⟩ (.string (mtx K))) (s ++ [(g, o, true)]) a := by
  obtain ⟨z', hz⟩ := h.tp.str _ _ hc
  exact Marked.more h hK (Marked.one _ (t := true) _ hz (.inl ⟨rfl, _, rfl⟩))
theorem TP.fz' {w w' : World} (h : TP w w') {a : Addr} {v : Value} (hc : w.cell? a = some v) (hf : w.frozen? a = false) : w'.frozen? a = false := h.fz _ (World.block_lt_of_cell? w _ hc) hf
/-- What lies below the blocks that are marked stays. -/
theorem Marked.below_of {B : Nat} {w0 w w' : World} {s : List Slot} {a : Nat} (h : Marked w w' s a) (hs : ∀ p ∈ s, B ≤ p.1) (hb : Below B w0 w) (hB : B ≤ w.heap.size) : Below B w0 w' :=
  ⟨h.tp.env.1.trans hb.os, h.tp.env.2.1.trans hb.tape, h.tp.env.2.2.trans hb.output, Nat.le_trans hb.size h.tp.size, fun k hk => (h.far k (by omega) (fun p hp e => by have := hs p hp; omega)).trans (hb.block k hk)⟩
theorem Marked.kept {w w' : World} {s : List Slot} {a : Nat} (h : Marked w w' s a) : Kept w w' (fun k => ∃ p ∈ s, p.1 = k) := ⟨h.tp.size, fun i hi hn => h.far i hi (fun p hp e => hn ⟨p, hp, e⟩)⟩
/-- The blocks of what is marked are there. -/
theorem Cel.mem {w : World} : ∀ (t : Ty) (g o : Nat) (sl : List Slot), Cel w t g o sl → ∀ p ∈ sl, ∃ v, w.cell? ⟨p.1, p.2.1, none⟩ = some v
  | .nil, _, _, _, hc, p, hp => by
    obtain rfl : _ = [] := hc
    cases hp
  | .no, _, _, _, hc, _, _ => hc.elim
  | .int t, g, o, _, ⟨⟨_, hc⟩, hf, r, rfl, ht⟩, p, hp => by
    rcases List.mem_cons.1 hp with rfl | hp
    · exact ⟨_, hc⟩
    · exact Cel.mem t _ _ r ht p hp
  | .str t, g, o, _, ⟨⟨_, hc⟩, hf, r, rfl, ht⟩, p, hp => by
    rcases List.mem_cons.1 hp with rfl | hp
    · exact ⟨_, hc⟩
    · exact Cel.mem t _ _ r ht p hp
  | .row e t, g, o, _, ⟨v, s, r, hc, hv, rfl, ht⟩, p, hp => by
    rcases List.mem_append.1 hp with hp | hp
    · rcases hv with ⟨_, _, rfl⟩ | ⟨g', n, c, _, _, _, ss, _, rfl, h5⟩
      · cases hp
      · obtain ⟨l, hl, hpl⟩ := List.mem_flatten.1 hp
        obtain ⟨j, hj⟩ := List.getElem?_of_mem hl
        exact Cel.mem e _ _ l (h5 j l hj) p hpl
    · exact Cel.mem t _ _ r ht p hp
theorem RowOf.mem {w : World} {e : Ty} {v : Value} {s : List Slot} (hr : RowOf (Cel w e) e.sz v s) (p : Slot) (hp : p ∈ s) : p.1 < w.heap.size := by
  rcases hr with ⟨_, _, rfl⟩ | ⟨g', n, c, _, _, _, ss, _, rfl, h5⟩
  · cases hp
  · obtain ⟨l, hl, hpl⟩ := List.mem_flatten.1 hp
    obtain ⟨j, hj⟩ := List.getElem?_of_mem hl
    obtain ⟨v, hc⟩ := Cel.mem e _ _ l (h5 j l hj) p hpl
    exact World.block_lt_of_cell? w _ hc
theorem RowOf.all {P : Nat → Nat → List Slot → Prop} {sz : Nat} {v : Value} {s : List Slot} (h : RowOf P sz v s) : ∃ (A : Option Addr) (n c : Nat) (ss : List (List Slot)), v = .slice A n c ∧ n ≤ c ∧ n ≤ maxLen ∧ ss.length = n ∧ s = ss.flatten ∧ ∀ j t, ss[j]? = some t → ∃ g, A = some ⟨g, 0, none⟩ ∧ P g (j * sz) t := by
  rcases h with ⟨c, rfl, rfl⟩ | ⟨g, n, c, rfl, h1, h2, ss, h3, rfl, h5⟩
  · exact ⟨none, 0, c, [], rfl, Nat.zero_le _, Nat.zero_le _, rfl, rfl, fun j t hj => by simp at hj⟩
  · exact ⟨_, n, c, ss, rfl, h1, h2, h3, rfl, fun j t hj => ⟨g, rfl, h5 j t hj⟩⟩
theorem take_flat {α : Type} {ss : List (List α)} {i : Nat} {t : List α} (h : ss[i]? = some t) : (ss.take (i + 1)).flatten = (ss.take i).flatten ++ t := by
  obtain ⟨hl, rfl⟩ := List.getElem?_eq_some_iff.1 h
  rw [List.take_succ_eq_append_getElem hl, List.flatten_append]
  simp
theorem mem_take_flat {α : Type} {ss : List (List α)} {i : Nat} {p : α} (h : p ∈ (ss.take i).flatten) : p ∈ ss.flatten := by
  obtain ⟨l, hl, hp⟩ := List.mem_flatten.1 h
  exact List.mem_flatten.2 ⟨l, List.mem_of_mem_take hl, hp⟩
theorem flat_le {α : Type} (ss : List (List α)) (i : Nat) : (ss.take i).flatten.length ≤ ss.flatten.length := by
  have := List.take_append_drop i ss
  have h2 : ss.flatten.length = (ss.take i).flatten.length + (ss.drop i).flatten.length := by
    rw [← List.length_append, ← List.flatten_append, this]
  omega
end
theorem mText_any (k : Nat) {ki : Int} (hki : ki = (k : Int)) (h1 : 1 ≤ k) (h2 : k ≤ 9000000) (w : World) : Calls Try.prog 113 #[.int .i64 ki] w fun e w' => e = .returned (.string (mtx k)) ∧ Below w.heap.size w w' := by
  subst hki
  obtain ⟨q, hq⟩ := markText_any k h1 (by omega)
  exact OFnExactValueRead.laws_markText.calls q _ _ w hq
abbrev tyInt : Ty := (.int .nil)
abbrev tyString : Ty := (.str .nil)
abbrev tyRecord : Ty := (.int (.row tyString .nil))
abbrev tyRecordS : Ty := (.row tyRecord .nil)
set_option maxHeartbeats 2000000 in
set_option maxRecDepth 100000 in
theorem markIntS_any (v : Value) (s : List Slot) (a : Nat) {ai : Int} (hai : ai = (a : Int)) (w : World) (hs : RowOf (Cel w tyInt) 1 v s) (h1 : 1 ≤ a) (hb : a + s.length ≤ 9000000) :
    Calls Try.prog 81 #[v, .int .i64 ai] w fun e w' => e = .returned (.int .i64 ((a + s.length : Nat) : Int)) ∧ Marked w w' s a := by
  subst hai
  obtain ⟨A, n, c, ss, rfl, hnc, hcm, hn, rfl, hel⟩ := hs.all
  have HEL := Aside0.mk hel
  have HN := Aside0.mk hn
  have HM := Aside0.mk (show Marked w w (ss.take 0).flatten a from Marked.nil (Below.refl _ _) a)
  have hnm : n ≤ 9223372036854775807 := by unfold maxLen at hcm; omega
  clear hel hn hs hcm hnc
  go_enter Try.func81, Try.ntmps81
  go_wp2
  go_loopw [1, 5] (fun v1 v5 wr => ∃ i K : Nat, i ≤ n ∧ v5 = .int .i64 i ∧ v1 = .int .i64 K ∧ 1 ≤ K ∧ K ≤ 9000000 ∧ Aside0 (K = a + (ss.take i).flatten.length) ∧ Aside0 (Marked w wr (ss.take i).flatten a)) (fun _ v5 _ => n - (intOf v5).toNat)
  case atStart => exact ⟨0, a, Nat.zero_le _, rfl, rfl, h1, by omega, ⟨by simp⟩, HM⟩
  case round =>
    clear HM
    obtain ⟨i, K0, hi, rfl, rfl, hK1, hK2, HK, HM⟩ := hrel
    by_cases hlt : i < n
    · have hsl := List.getElem?_eq_getElem (show i < ss.length by have := HN.out; omega)
      obtain ⟨g, hA, hc⟩ := HEL.out i _ hsl
      subst hA
      generalize ss[i]'(by have := HN.out; omega) = t at hsl hc
      have HS := Aside0.mk hsl
      rw [Nat.mul_one] at hc
      obtain ⟨⟨z0, hx0⟩, hf0, r0, ht0, hrn⟩ := hc
      obtain rfl : r0 = [] := hrn
      have HT := Aside0.mk (show t = [(g, i, false)] by rw [ht0]; first | done | simp)
      clear ht0 hsl
      have HX0 := Aside0.mk (show w.cell? ⟨g, i, none⟩ = some (.int .i64 z0) from hx0)
      have HF0 := Aside0.mk (show w.frozen? ⟨g, i, none⟩ = false from hf0)
      clear hx0 hf0
      have hle : K0 + (1) ≤ 9000000 := by
        have h1 := take_flat HS.out
        have h2 := flat_le ss (i + 1)
        have h3 := HK.out
        rw [h1, HT.out] at h2
        (try simp only [List.length_append, List.length_cons, List.length_nil, Nat.zero_add] at h2)
        omega
      obtain ⟨y0_, hx0⟩ := HM.out.tp.int _ _ HX0.out
      have hf0 := HM.out.tp.fz' HX0.out HF0.out
      go_wp2
      go_roundw
      case rel =>
        replace HM := Aside0.mk (Marked.putI (K := K0) ((K0 : Int)) HM.out (by have := HK.out; (try simp only [List.length_append, List.length_cons, List.length_nil] at this); (try simp only [List.length_append, List.length_cons, List.length_nil]); omega) (by omega) HX0.out)
        exact ⟨i + 1, K0 + 1, by omega, by go_num, by first | rfl | go_num, by omega, by omega, ⟨by rw [take_flat HS.out, HT.out]; have := HK.out; (try simp only [List.length_append, List.length_cons, List.length_nil] at this); (try simp only [List.length_append, List.length_cons, List.length_nil]); omega⟩, ⟨by rw [take_flat HS.out, HT.out]; have := HM.out; simpa only [List.append_assoc] using this⟩⟩
      case measure => simp [intOf]; omega
    · have hin : i = ss.length := by have := HN.out; omega
      have HL := Aside0.mk hin
      clear hin
      go_wp2
      go_ret
      have e := HK.out
      subst e
      rw [HL.out, List.take_length] at HM ⊢
      exact ⟨rfl, HM.out⟩
set_option maxHeartbeats 2000000 in
set_option maxRecDepth 100000 in
theorem markStringS_any (v : Value) (s : List Slot) (a : Nat) {ai : Int} (hai : ai = (a : Int)) (w : World) (hs : RowOf (Cel w tyString) 1 v s) (h1 : 1 ≤ a) (hb : a + s.length ≤ 9000000) :
    Calls Try.prog 112 #[v, .int .i64 ai] w fun e w' => e = .returned (.int .i64 ((a + s.length : Nat) : Int)) ∧ Marked w w' s a := by
  subst hai
  obtain ⟨A, n, c, ss, rfl, hnc, hcm, hn, rfl, hel⟩ := hs.all
  have HEL := Aside0.mk hel
  have HN := Aside0.mk hn
  have HM := Aside0.mk (show Marked w w (ss.take 0).flatten a from Marked.nil (Below.refl _ _) a)
  have hnm : n ≤ 9223372036854775807 := by unfold maxLen at hcm; omega
  clear hel hn hs hcm hnc
  go_enter Try.func112, Try.ntmps112
  go_wp2
  go_loopw [1, 5] (fun v1 v5 wr => ∃ i K : Nat, i ≤ n ∧ v5 = .int .i64 i ∧ v1 = .int .i64 K ∧ 1 ≤ K ∧ K ≤ 9000000 ∧ Aside0 (K = a + (ss.take i).flatten.length) ∧ Aside0 (Marked w wr (ss.take i).flatten a)) (fun _ v5 _ => n - (intOf v5).toNat)
  case atStart => exact ⟨0, a, Nat.zero_le _, rfl, rfl, h1, by omega, ⟨by simp⟩, HM⟩
  case round =>
    clear HM
    obtain ⟨i, K0, hi, rfl, rfl, hK1, hK2, HK, HM⟩ := hrel
    by_cases hlt : i < n
    · have hsl := List.getElem?_eq_getElem (show i < ss.length by have := HN.out; omega)
      obtain ⟨g, hA, hc⟩ := HEL.out i _ hsl
      subst hA
      generalize ss[i]'(by have := HN.out; omega) = t at hsl hc
      have HS := Aside0.mk hsl
      rw [Nat.mul_one] at hc
      obtain ⟨⟨z0, hx0⟩, hf0, r0, ht0, hrn⟩ := hc
      obtain rfl : r0 = [] := hrn
      have HT := Aside0.mk (show t = [(g, i, true)] by rw [ht0]; first | done | simp)
      clear ht0 hsl
      have HX0 := Aside0.mk (show w.cell? ⟨g, i, none⟩ = some (.string z0) from hx0)
      have HF0 := Aside0.mk (show w.frozen? ⟨g, i, none⟩ = false from hf0)
      clear hx0 hf0
      have hle : K0 + (1) ≤ 9000000 := by
        have h1 := take_flat HS.out
        have h2 := flat_le ss (i + 1)
        have h3 := HK.out
        rw [h1, HT.out] at h2
        (try simp only [List.length_append, List.length_cons, List.length_nil, Nat.zero_add] at h2)
        omega
      go_wp2_with fail
      refine (mText_any (K0) (by omega) (by omega) (by omega) _).mono ?_
      rintro e w1 ⟨rfl, hb⟩
      replace HM := Aside0.mk (HM.out.below hb)
      clear hb
      obtain ⟨y0_, hx0⟩ := HM.out.tp.str _ _ HX0.out
      have hf0 := HM.out.tp.fz' HX0.out HF0.out
      go_wp2
      go_roundw
      case rel =>
        replace HM := Aside0.mk (Marked.putS (K := K0) HM.out (by have := HK.out; (try simp only [List.length_append, List.length_cons, List.length_nil] at this); (try simp only [List.length_append, List.length_cons, List.length_nil]); omega) HX0.out)
        exact ⟨i + 1, K0 + 1, by omega, by go_num, by first | rfl | go_num, by omega, by omega, ⟨by rw [take_flat HS.out, HT.out]; have := HK.out; (try simp only [List.length_append, List.length_cons, List.length_nil] at this); (try simp only [List.length_append, List.length_cons, List.length_nil]); omega⟩, ⟨by rw [take_flat HS.out, HT.out]; have := HM.out; simpa only [List.append_assoc] using this⟩⟩
      case measure => simp [intOf]; omega
    · have hin : i = ss.length := by have := HN.out; omega
      have HL := Aside0.mk hin
      clear hin
      go_wp2
      go_ret
      have e := HK.out
      subst e
      rw [HL.out, List.take_length] at HM ⊢
      exact ⟨rfl, HM.out⟩
set_option maxHeartbeats 2000000 in
set_option maxRecDepth 100000 in
theorem markRecordS_any (v : Value) (s : List Slot) (a : Nat) {ai : Int} (hai : ai = (a : Int)) (w : World) (hs : RowOf (Cel w tyRecord) 2 v s) (h1 : 1 ≤ a) (hb : a + s.length ≤ 9000000) :
    Calls Try.prog 79 #[v, .int .i64 ai] w fun e w' => e = .returned (.int .i64 ((a + s.length : Nat) : Int)) ∧ Marked w w' s a := by
  subst hai
  obtain ⟨A, n, c, ss, rfl, hnc, hcm, hn, rfl, hel⟩ := hs.all
  have HEL := Aside0.mk hel
  have HN := Aside0.mk hn
  have HM := Aside0.mk (show Marked w w (ss.take 0).flatten a from Marked.nil (Below.refl _ _) a)
  have hnm : n ≤ 9223372036854775807 := by unfold maxLen at hcm; omega
  clear hel hn hs hcm hnc
  go_enter Try.func79, Try.ntmps79
  go_wp2
  go_loopw [1, 5] (fun v1 v5 wr => ∃ i K : Nat, i ≤ n ∧ v5 = .int .i64 i ∧ v1 = .int .i64 K ∧ 1 ≤ K ∧ K ≤ 9000000 ∧ Aside0 (K = a + (ss.take i).flatten.length) ∧ Aside0 (Marked w wr (ss.take i).flatten a)) (fun _ v5 _ => n - (intOf v5).toNat)
  case atStart => exact ⟨0, a, Nat.zero_le _, rfl, rfl, h1, by omega, ⟨by simp⟩, HM⟩
  case round =>
    clear HM
    obtain ⟨i, K0, hi, rfl, rfl, hK1, hK2, HK, HM⟩ := hrel
    by_cases hlt : i < n
    · have hsl := List.getElem?_eq_getElem (show i < ss.length by have := HN.out; omega)
      obtain ⟨g, hA, hc⟩ := HEL.out i _ hsl
      subst hA
      generalize ss[i]'(by have := HN.out; omega) = t at hsl hc
      have HS := Aside0.mk hsl
      obtain ⟨⟨z0, hx0⟩, hf0, r0, ht0, v1, s1, r1, hx1, hv1, ht1, hrn⟩ := hc
      obtain rfl : r1 = [] := hrn
      subst ht1
      have HT := Aside0.mk (show t = [(g, i * 2, false)] ++ s1 by rw [ht0]; first | done | simp)
      clear ht0 hsl
      have HX0 := Aside0.mk (show w.cell? ⟨g, i * 2, none⟩ = some (.int .i64 z0) from hx0)
      have HF0 := Aside0.mk (show w.frozen? ⟨g, i * 2, none⟩ = false from hf0)
      clear hx0 hf0
      obtain ⟨A1, n1, c1, rfl⟩ := hv1.slice
      have HX1 := Aside0.mk (show w.cell? ⟨g, i * 2 + 1, none⟩ = some (.slice A1 n1 c1) from hx1)
      have HV1 := Aside0.mk hv1
      clear hx1 hv1
      have hle : K0 + (1 + s1.length) ≤ 9000000 := by
        have h1 := take_flat HS.out
        have h2 := flat_le ss (i + 1)
        have h3 := HK.out
        rw [h1, HT.out] at h2
        (try simp only [List.length_append, List.length_cons, List.length_nil, Nat.zero_add] at h2)
        omega
      obtain ⟨y0_, hx0⟩ := HM.out.tp.int _ _ HX0.out
      have hf0 := HM.out.tp.fz' HX0.out HF0.out
      have hx1 := HM.out.tp.sl _ _ _ _ HX1.out
      go_wp2_with fail
      replace HM := Aside0.mk (Marked.putI (K := K0) ((K0 : Int)) HM.out (by have := HK.out; (try simp only [List.length_append, List.length_cons, List.length_nil] at this); (try simp only [List.length_append, List.length_cons, List.length_nil]); omega) (by omega) HX0.out)
      clear hx0 hf0 hx1
      refine (markStringS_any _ s1 (K0 + 1) (by omega) _ (RowOf.tp HM.out.tp HV1.out) (by omega) (by omega)).mono ?_
      rintro e w1 ⟨rfl, hm⟩
      replace HM := Aside0.mk (Marked.more HM.out (K := K0 + 1) (by have := HK.out; (try simp only [List.length_append, List.length_cons, List.length_nil] at this); (try simp only [List.length_append, List.length_cons, List.length_nil]); omega) hm)
      obtain ⟨K1, hK1⟩ : ∃ K_ : Nat, K_ = K0 + 1 + s1.length := ⟨_, rfl⟩
      rw [← hK1]
      have HE1 := Aside0.mk hK1
      replace HK := Aside0.mk (show K1 = a + ((ss.take i).flatten ++ [(g, i * 2, false)] ++ s1).length by have := HK.out; (try simp only [List.length_append, List.length_cons, List.length_nil] at this); (try simp only [List.length_append, List.length_cons, List.length_nil]); omega)
      have lK1 : K1 ≤ 9000000 := by omega
      have mK1 : 1 ≤ K1 := by omega
      clear hK1 hm
      go_wp2
      go_roundw
      case rel =>
        exact ⟨i + 1, K1, by omega, by go_num, by first | rfl | go_num, by omega, by omega, ⟨by rw [take_flat HS.out, HT.out]; have := HK.out; (try simp only [List.length_append, List.length_cons, List.length_nil] at this); (try simp only [List.length_append, List.length_cons, List.length_nil]); omega⟩, ⟨by rw [take_flat HS.out, HT.out]; have := HM.out; simpa only [List.append_assoc] using this⟩⟩
      case measure => simp [intOf]; omega
    · have hin : i = ss.length := by have := HN.out; omega
      have HL := Aside0.mk hin
      clear hin
      go_wp2
      go_ret
      have e := HK.out
      subst e
      rw [HL.out, List.take_length] at HM ⊢
      exact ⟨rfl, HM.out⟩
set_option maxHeartbeats 2000000 in
set_option maxRecDepth 100000 in
theorem markRecordSS_any (v : Value) (s : List Slot) (a : Nat) {ai : Int} (hai : ai = (a : Int)) (w : World) (hs : RowOf (Cel w tyRecordS) 1 v s) (h1 : 1 ≤ a) (hb : a + s.length ≤ 9000000) :
    Calls Try.prog 35 #[v, .int .i64 ai] w fun e w' => e = .returned (.int .i64 ((a + s.length : Nat) : Int)) ∧ Marked w w' s a := by
  subst hai
  obtain ⟨A, n, c, ss, rfl, hnc, hcm, hn, rfl, hel⟩ := hs.all
  have HEL := Aside0.mk hel
  have HN := Aside0.mk hn
  have HM := Aside0.mk (show Marked w w (ss.take 0).flatten a from Marked.nil (Below.refl _ _) a)
  have hnm : n ≤ 9223372036854775807 := by unfold maxLen at hcm; omega
  clear hel hn hs hcm hnc
  go_enter Try.func35, Try.ntmps35
  go_wp2
  go_loopw [1, 5] (fun v1 v5 wr => ∃ i K : Nat, i ≤ n ∧ v5 = .int .i64 i ∧ v1 = .int .i64 K ∧ 1 ≤ K ∧ K ≤ 9000000 ∧ Aside0 (K = a + (ss.take i).flatten.length) ∧ Aside0 (Marked w wr (ss.take i).flatten a)) (fun _ v5 _ => n - (intOf v5).toNat)
  case atStart => exact ⟨0, a, Nat.zero_le _, rfl, rfl, h1, by omega, ⟨by simp⟩, HM⟩
  case round =>
    clear HM
    obtain ⟨i, K0, hi, rfl, rfl, hK1, hK2, HK, HM⟩ := hrel
    by_cases hlt : i < n
    · have hsl := List.getElem?_eq_getElem (show i < ss.length by have := HN.out; omega)
      obtain ⟨g, hA, hc⟩ := HEL.out i _ hsl
      subst hA
      generalize ss[i]'(by have := HN.out; omega) = t at hsl hc
      have HS := Aside0.mk hsl
      rw [Nat.mul_one] at hc
      obtain ⟨v0, s0, r0, hx0, hv0, ht0, hrn⟩ := hc
      obtain rfl : r0 = [] := hrn
      have HT := Aside0.mk (show t = s0 by rw [ht0]; first | done | simp)
      clear ht0 hsl
      obtain ⟨A0, n0, c0, rfl⟩ := hv0.slice
      have HX0 := Aside0.mk (show w.cell? ⟨g, i, none⟩ = some (.slice A0 n0 c0) from hx0)
      have HV0 := Aside0.mk hv0
      clear hx0 hv0
      have hle : K0 + (s0.length) ≤ 9000000 := by
        have h1 := take_flat HS.out
        have h2 := flat_le ss (i + 1)
        have h3 := HK.out
        rw [h1, HT.out] at h2
        (try simp only [List.length_append, List.length_cons, List.length_nil, Nat.zero_add] at h2)
        omega
      have hx0 := HM.out.tp.sl _ _ _ _ HX0.out
      go_wp2_with fail
      clear hx0
      refine (markRecordS_any _ s0 (K0) (by omega) _ (RowOf.tp HM.out.tp HV0.out) (by omega) (by omega)).mono ?_
      rintro e w1 ⟨rfl, hm⟩
      replace HM := Aside0.mk (Marked.more HM.out (K := K0) (by have := HK.out; (try simp only [List.length_append, List.length_cons, List.length_nil] at this); (try simp only [List.length_append, List.length_cons, List.length_nil]); omega) hm)
      obtain ⟨K1, hK1⟩ : ∃ K_ : Nat, K_ = K0 + s0.length := ⟨_, rfl⟩
      rw [← hK1]
      have HE1 := Aside0.mk hK1
      replace HK := Aside0.mk (show K1 = a + ((ss.take i).flatten ++ s0).length by have := HK.out; (try simp only [List.length_append, List.length_cons, List.length_nil] at this); (try simp only [List.length_append, List.length_cons, List.length_nil]); omega)
      have lK1 : K1 ≤ 9000000 := by omega
      have mK1 : 1 ≤ K1 := by omega
      clear hK1 hm
      go_wp2
      go_roundw
      case rel =>
        exact ⟨i + 1, K1, by omega, by go_num, by first | rfl | go_num, by omega, by omega, ⟨by rw [take_flat HS.out, HT.out]; have := HK.out; (try simp only [List.length_append, List.length_cons, List.length_nil] at this); (try simp only [List.length_append, List.length_cons, List.length_nil]); omega⟩, ⟨by rw [take_flat HS.out, HT.out]; have := HM.out; simpa only [List.append_assoc] using this⟩⟩
      case measure => simp [intOf]; omega
    · have hin : i = ss.length := by have := HN.out; omega
      have HL := Aside0.mk hin
      clear hin
      go_wp2
      go_ret
      have e := HK.out
      subst e
      rw [HL.out, List.take_length] at HM ⊢
      exact ⟨rfl, HM.out⟩
section
def key (p : Slot) : Nat × Nat := (p.1, p.2.1)
/-- The elements of kind d are cells of the form t; D: what they lead to is apart. -/
structure Fits (D : Prop) {α : Type} (d : Kd α) (t : Ty) (cnt : α → Nat) : Prop where
  sz : d.sz = t.sz
  go : ∀ (w : World) (base : Nat) (ok : Nat → Prop) (x : α) (cs : List Value) (g o : Nat), d.M w base ok x cs → (∀ j u, cs[j]? = some u → w.cell? ⟨g, o + j, none⟩ = some u ∧ w.frozen? ⟨g, o + j, none⟩ = false) →
    ∃ sl, Cel w t g o sl ∧ (∀ p ∈ sl, (p.1 = g ∧ o ≤ p.2.1 ∧ p.2.1 < o + t.sz) ∨ (ok p.1 ∧ base ≤ p.1)) ∧ (D → ¬ ok g → (sl.map key).Nodup) ∧ sl.length = cnt x
theorem Fits.iso {D : Prop} {α β : Type} {d : Kd α} {t : Ty} {cnt : α → Nat} (h : Fits D d t cnt) (f : β → α) : Fits D (Kd.iso d f) t (fun x => cnt (f x)) := ⟨h.sz, fun w base ok x cs g o hM hc => h.go w base ok (f x) cs g o hM hc⟩
theorem fits_int {D : Prop} : Fits D (Kd.int .i64) (.int .nil) (fun _ => 1) := ⟨rfl, fun w base ok x cs g o hM hc => by
  obtain rfl : cs = [.int .i64 x] := hM
  obtain ⟨h1, h2⟩ := hc 0 _ rfl
  refine ⟨[(g, o, false)], ⟨⟨_, h1⟩, h2, [], rfl, rfl⟩, fun p hp => .inl ?_, fun _ _ => by simp, rfl⟩
  obtain rfl := List.mem_singleton.1 hp
  exact ⟨rfl, Nat.le_refl _, Nat.lt_succ_self _⟩⟩
theorem fits_str {D : Prop} : Fits D Kd.string (.str .nil) (fun _ => 1) := ⟨rfl, fun w base ok x cs g o hM hc => by
  obtain rfl : cs = [.string x] := hM
  obtain ⟨h1, h2⟩ := hc 0 _ rfl
  refine ⟨[(g, o, true)], ⟨⟨_, h1⟩, h2, [], rfl, rfl⟩, fun p hp => .inl ?_, fun _ _ => by simp, rfl⟩
  obtain rfl := List.mem_singleton.1 hp
  exact ⟨rfl, Nat.le_refl _, Nat.lt_succ_self _⟩⟩
/-- One cell, then the others. -/
theorem fits_cons {D : Prop} {base : Nat} {ok : Nat → Prop} {t : Ty} {g o : Nat} {b : Bool} {r : List Slot} (hin : ∀ p ∈ r, (p.1 = g ∧ o + 1 ≤ p.2.1 ∧ p.2.1 < o + 1 + t.sz) ∨ (ok p.1 ∧ base ≤ p.1)) (hnd : D → ¬ ok g → (r.map key).Nodup) :
    (∀ p ∈ (g, o, b) :: r, (p.1 = g ∧ o ≤ p.2.1 ∧ p.2.1 < o + (t.sz + 1)) ∨ (ok p.1 ∧ base ≤ p.1)) ∧ (D → ¬ ok g → (((g, o, b) :: r).map key).Nodup) := by
  refine ⟨fun p hp => ?_, fun hD hg => ?_⟩
  · rcases List.mem_cons.1 hp with rfl | hp
    · exact .inl ⟨rfl, Nat.le_refl _, by show o < _; omega⟩
    · rcases hin p hp with ⟨h1, h2, h3⟩ | h
      · exact .inl ⟨h1, by omega, by omega⟩
      · exact .inr h
  · rw [List.map_cons, List.nodup_cons]
    refine ⟨fun hm => ?_, hnd hD hg⟩
    obtain ⟨p, hp, he⟩ := List.mem_map.1 hm
    have e1 : p.1 = g := (Prod.mk.inj he).1
    have e2 : p.2.1 = o := (Prod.mk.inj he).2
    rcases hin p hp with ⟨_, h2, _⟩ | h
    · omega
    · exact hg (e1 ▸ h.1)
theorem tail_cells {w : World} {g o : Nat} {c : Value} {cs : List Value} (hc : ∀ j u, (c :: cs)[j]? = some u → w.cell? ⟨g, o + j, none⟩ = some u ∧ w.frozen? ⟨g, o + j, none⟩ = false) :
    ∀ j u, cs[j]? = some u → w.cell? ⟨g, o + 1 + j, none⟩ = some u ∧ w.frozen? ⟨g, o + 1 + j, none⟩ = false := fun j u hu => by
  have := hc (j + 1) u (by simpa using hu)
  rwa [show o + (j + 1) = o + 1 + j by omega] at this
theorem fits_int_pr {α : Type} {b : Kd α} {t : Ty} {cnt : α → Nat} (h : Fits True b t cnt) : Fits True (pr (Kd.int .i64) b) (.int t) (fun x => 1 + cnt x.2) := ⟨by show 1 + b.sz = t.sz + 1; rw [h.sz, Nat.add_comm], fun w base ok x cs g o hM hc => by
  obtain ⟨c0, c1, rfl, p, h0, h1⟩ := hM
  obtain rfl : c0 = [.int .i64 x.1] := h0
  obtain ⟨r, hr, hin, hnd, hct⟩ := h.go w base _ x.2 c1 g (o + 1) h1 (tail_cells hc)
  obtain ⟨hA, hB⟩ := fits_cons (b := false) (D := True) (ok := ok) (fun p hp => (hin p hp).imp id (fun h => ⟨h.1.1, h.2⟩)) (fun hD hg => hnd hD (fun hk => hg hk.1))
  exact ⟨_, ⟨⟨_, (hc 0 _ rfl).1⟩, (hc 0 _ rfl).2, r, rfl, hr⟩, hA, hB, by rw [List.length_cons, hct, Nat.add_comm]⟩⟩
theorem fits_str_pr {α : Type} {b : Kd α} {t : Ty} {cnt : α → Nat} (h : Fits True b t cnt) : Fits True (pr Kd.string b) (.str t) (fun x => 1 + cnt x.2) := ⟨by show 1 + b.sz = t.sz + 1; rw [h.sz, Nat.add_comm], fun w base ok x cs g o hM hc => by
  obtain ⟨c0, c1, rfl, p, h0, h1⟩ := hM
  obtain rfl : c0 = [.string x.1] := h0
  obtain ⟨r, hr, hin, hnd, hct⟩ := h.go w base _ x.2 c1 g (o + 1) h1 (tail_cells hc)
  obtain ⟨hA, hB⟩ := fits_cons (b := true) (D := True) (ok := ok) (fun p hp => (hin p hp).imp id (fun h => ⟨h.1.1, h.2⟩)) (fun hD hg => hnd hD (fun hk => hg hk.1))
  exact ⟨_, ⟨⟨_, (hc 0 _ rfl).1⟩, (hc 0 _ rfl).2, r, rfl, hr⟩, hA, hB, by rw [List.length_cons, hct, Nat.add_comm]⟩⟩
theorem fits_int_pair {α : Type} {b : Kd α} {t : Ty} {cnt : α → Nat} (h : Fits False b t cnt) : Fits False (Kd.pair (Kd.int .i64) b) (.int t) (fun x => 1 + cnt x.2) := ⟨by show 1 + b.sz = t.sz + 1; rw [h.sz, Nat.add_comm], fun w base ok x cs g o hM hc => by
  obtain ⟨c0, c1, rfl, h0, h1⟩ := hM
  obtain rfl : c0 = [.int .i64 x.1] := h0
  obtain ⟨r, hr, hin, hnd, hct⟩ := h.go w base _ x.2 c1 g (o + 1) h1 (tail_cells hc)
  obtain ⟨hA, _⟩ := fits_cons (b := false) (D := False) (ok := ok) hin (fun hD => hD.elim)
  exact ⟨_, ⟨⟨_, (hc 0 _ rfl).1⟩, (hc 0 _ rfl).2, r, rfl, hr⟩, hA, fun hD => hD.elim, by rw [List.length_cons, hct, Nat.add_comm]⟩⟩
theorem fits_str_pair {α : Type} {b : Kd α} {t : Ty} {cnt : α → Nat} (h : Fits False b t cnt) : Fits False (Kd.pair Kd.string b) (.str t) (fun x => 1 + cnt x.2) := ⟨by show 1 + b.sz = t.sz + 1; rw [h.sz, Nat.add_comm], fun w base ok x cs g o hM hc => by
  obtain ⟨c0, c1, rfl, h0, h1⟩ := hM
  obtain rfl : c0 = [.string x.1] := h0
  obtain ⟨r, hr, hin, hnd, hct⟩ := h.go w base _ x.2 c1 g (o + 1) h1 (tail_cells hc)
  obtain ⟨hA, _⟩ := fits_cons (b := true) (D := False) (ok := ok) hin (fun hD => hD.elim)
  exact ⟨_, ⟨⟨_, (hc 0 _ rfl).1⟩, (hc 0 _ rfl).2, r, rfl, hr⟩, hA, fun hD => hD.elim, by rw [List.length_cons, hct, Nat.add_comm]⟩⟩
theorem choose_list {α : Type} {P : Nat → α → Prop} : ∀ n, (∀ j, j < n → ∃ t, P j t) → ∃ ss : List α, ss.length = n ∧ ∀ j t, ss[j]? = some t → P j t
  | 0, _ => ⟨[], rfl, fun j t h => by simp at h⟩
  | n + 1, h => by
    obtain ⟨ss, hl, hs⟩ := choose_list n (fun j hj => h j (by omega))
    obtain ⟨t, ht⟩ := h n (Nat.lt_succ_self n)
    refine ⟨ss ++ [t], by simp [hl], fun j u hu => ?_⟩
    rcases Nat.lt_or_ge j n with hj | hj
    · rw [List.getElem?_append_left (by omega)] at hu
      exact hs j u hu
    · rw [List.getElem?_append_right (by omega), hl] at hu
      rcases Nat.eq_zero_or_pos (j - n) with h0 | h0
      · rw [h0] at hu
        obtain rfl : t = u := by simpa using hu
        rwa [show j = n by omega]
      · rw [List.getElem?_eq_none (by simp; omega)] at hu; cases hu
theorem nodup_flat {ss : List (List Slot)} (h1 : ∀ l ∈ ss, (l.map key).Nodup) (h2 : ∀ (i j : Nat) (s t : List Slot), i < j → ss[i]? = some s → ss[j]? = some t → ∀ p ∈ s, ∀ q ∈ t, key p ≠ key q) : (ss.flatten.map key).Nodup := by
  rw [List.map_flatten, List.nodup_iff_pairwise_ne, List.pairwise_flatten]
  refine ⟨fun l hl => ?_, ?_⟩
  · obtain ⟨m, hm, rfl⟩ := List.mem_map.1 hl
    exact List.nodup_iff_pairwise_ne.1 (h1 m hm)
  · rw [List.pairwise_map, List.pairwise_iff_getElem]
    intro i j hi hj hij x hx y hy
    obtain ⟨p, hp, rfl⟩ := List.mem_map.1 hx
    obtain ⟨q, hq, rfl⟩ := List.mem_map.1 hy
    exact h2 i j _ _ hij (List.getElem?_eq_getElem hi) (List.getElem?_eq_getElem hj) p hp q hq
/-- A row of the call's own, seen through some room: its cells. -/
theorem sum_flat {α : Type} {cnt : α → Nat} : ∀ (xs : List α) (ss : List (List Slot)), ss.length = xs.length → (∀ (j : Nat) (s : List Slot) (x : α), ss[j]? = some s → xs[j]? = some x → s.length = cnt x) → ss.flatten.length = (xs.map cnt).sum
  | [], ss, h, _ => by
    obtain rfl := List.eq_nil_of_length_eq_zero h
    rfl
  | x :: xs, [], h, _ => by simp at h
  | x :: xs, s :: ss, h, hs => by
    rw [List.flatten_cons, List.length_append, List.map_cons, List.sum_cons, sum_flat xs ss (by simpa using h) (fun j s x h1 h2 => hs (j + 1) s x (by simpa using h1) (by simpa using h2)), hs 0 s x rfl rfl]
theorem R_slots {α : Type} {d : Kd α} {t : Ty} {cnt : α → Nat} (hF : Fits False d t cnt) {e base : Nat} {ok : Nat → Prop} {w : World} {v : Value} {xs : List α} (h : d.R e w base ok v xs) (c : Nat) (hc : xs.length ≤ c) :
    ∃ s, RowOf (Cel w t) t.sz (cutV v c) s ∧ (∀ p ∈ s, ok p.1 ∧ base ≤ p.1) ∧ s.length = (xs.map cnt).sum := by
  obtain ⟨A, c0, rfl, hc0, hC⟩ := Kd.R_reads h
  rcases A with _ | ad
  · have h0 : xs.length = 0 := by
      rcases Nat.eq_zero_or_pos xs.length with h0 | h0
      · exact h0
      · obtain ⟨ad, he, _⟩ := hC.2.2 h0
        cases he
    exact ⟨[], .inl ⟨c, by rw [h0]; rfl, rfl⟩, (fun p hp => by cases hp), by rw [List.eq_nil_of_length_eq_zero h0]; rfl⟩
  · obtain ⟨g, rfl⟩ := Kd.R_head h
    have hbase : ok g ∧ base ≤ g := ⟨h.1 g rfl, Kd.R_base h g rfl⟩
    obtain ⟨ss, hl, hs⟩ := choose_list (P := fun j s => Cel w t g (j * t.sz) s ∧ (∀ p ∈ s, ok p.1 ∧ base ≤ p.1) ∧ ∀ x, xs[j]? = some x → s.length = cnt x) xs.length (fun j hj => by
      obtain ⟨cs, hcl, hM, hcc, hfr⟩ := Kd.R_elem h (xs[j]'hj) (j : Int) (by omega) (by omega)
      rw [Int.toNat_natCast] at hcc hM hfr
      rw [hF.sz] at hcc hfr
      obtain ⟨s, hs, hin, _, hct⟩ := hF.go w base _ _ cs g (j * t.sz) hM (fun i u hu => ⟨hcc i u hu, hfr i⟩)
      exact ⟨s, hs, fun p hp => (hin p hp).elim (fun h => h.1 ▸ hbase) (fun h => ⟨h.1.1, h.2⟩), fun x hx => by rw [hct, List.getD_eq_getElem?_getD, hx]; rfl⟩)
    refine ⟨ss.flatten, .inr ⟨g, xs.length, c, rfl, hc, hC.2.1, ss, hl, rfl, fun j s hj => (hs j s hj).1⟩, fun p hp => ?_, sum_flat xs ss hl (fun j s x h1 h2 => (hs j s h1).2.2 x h2)⟩
    obtain ⟨l, hl, hpl⟩ := List.mem_flatten.1 hp
    obtain ⟨j, hj⟩ := List.getElem?_of_mem hl
    exact (hs j l hj).2.1 p hpl
theorem S_slots {α : Type} {d : Kd α} {t : Ty} {cnt : α → Nat} (hF : Fits True d t cnt) {e base : Nat} {ok : Nat → Prop} {w : World} {v : Value} {xs : List α} (h : Kd.S d e w base ok v xs) (c : Nat) (hc : xs.length ≤ c) :
    ∃ s, RowOf (Cel w t) t.sz (cutV v c) s ∧ (∀ p ∈ s, ok p.1 ∧ base ≤ p.1) ∧ (s.map key).Nodup ∧ s.length = (xs.map cnt).sum := by
  obtain ⟨A, c0, rfl, hc0, hC⟩ := Kd.S_reads h
  rcases A with _ | ad
  · have h0 : xs.length = 0 := by
      rcases Nat.eq_zero_or_pos xs.length with h0 | h0
      · exact h0
      · obtain ⟨ad, he, _⟩ := hC.2.2 h0
        cases he
    exact ⟨[], .inl ⟨c, by rw [h0]; rfl, rfl⟩, (fun p hp => by cases hp), by simp, by rw [List.eq_nil_of_length_eq_zero h0]; rfl⟩
  · obtain ⟨g, rfl⟩ := Kd.R_head (Kd.S_R h)
    have hbase : ok g ∧ base ≤ g := ⟨(Kd.S_R h).1 g rfl, Kd.R_base (Kd.S_R h) g rfl⟩
    obtain ⟨f, hR⟩ := h
    have hzl : xs.zipIdx.length = xs.length := List.length_zipIdx
    obtain ⟨ss, hl, hs⟩ := choose_list (P := fun j s => Cel w t g (j * t.sz) s ∧ (∀ p ∈ s, (p.1 = g ∧ j * t.sz ≤ p.2.1 ∧ p.2.1 < j * t.sz + t.sz) ∨ (((ok p.1 ∧ p.1 ≠ g) ∧ f p.1 = j) ∧ base ≤ p.1)) ∧ (s.map key).Nodup ∧ ∀ x, xs[j]? = some x → s.length = cnt x) xs.length (fun j hj => by
      obtain ⟨cs, hcl, hM, hcc, hfr⟩ := Kd.R_elem hR (xs[j]'hj, j) (j : Int) (by omega) (by omega)
      rw [Int.toNat_natCast] at hcc hM hfr
      have hz : xs.zipIdx.getD j (xs[j]'hj, j) = (xs[j]'hj, j) := by
        rw [List.getD_eq_getElem?_getD, Kd.zip_at (List.getElem?_eq_getElem hj)]; rfl
      rw [hz] at hM
      have hsz : (Kd.tag f d).sz = t.sz := hF.sz
      rw [hsz] at hcc hfr
      obtain ⟨s, hs, hin, hnd, hct⟩ := hF.go w base _ _ cs g (j * t.sz) hM (fun i u hu => ⟨hcc i u hu, hfr i⟩)
      exact ⟨s, hs, fun p hp => (hin p hp).imp id (fun h => h), hnd trivial (fun hk => hk.1.2 rfl), fun x hx => by
        obtain ⟨_, rfl⟩ := List.getElem?_eq_some_iff.1 hx
        exact hct⟩)
    refine ⟨ss.flatten, .inr ⟨g, xs.length, c, rfl, hc, hC.2.1, ss, hl, rfl, fun j s hj => (hs j s hj).1⟩, fun p hp => ?_, nodup_flat (fun l hl => ?_) ?_, sum_flat xs ss hl (fun j s x h1 h2 => (hs j s h1).2.2.2 x h2)⟩
    · obtain ⟨l, hl, hpl⟩ := List.mem_flatten.1 hp
      obtain ⟨j, hj⟩ := List.getElem?_of_mem hl
      exact ((hs j l hj).2.1 p hpl).elim (fun h => h.1 ▸ hbase) (fun h => ⟨h.1.1.1, h.2⟩)
    · obtain ⟨j, hj⟩ := List.getElem?_of_mem hl
      exact (hs j l hj).2.2.1
    · intro i j s u hij hi hj p hp q hq he
      have e1 : p.1 = q.1 := (Prod.mk.inj he).1
      have e2 : p.2.1 = q.2.1 := (Prod.mk.inj he).2
      have hm : i * t.sz + t.sz ≤ j * t.sz := by rw [← Nat.succ_mul]; exact Nat.mul_le_mul_right _ hij
      rcases (hs i s hi).2.1 p hp with ⟨a1, a2, a3⟩ | ⟨⟨⟨a1, a2⟩, a3⟩, a4⟩ <;> rcases (hs j u hj).2.1 q hq with ⟨b1, b2, b3⟩ | ⟨⟨⟨b1, b2⟩, b3⟩, b4⟩
      · omega
      · exact b2 (e1 ▸ a1)
      · exact a2 (e1 ▸ b1)
      · rw [e1, b3] at a3; omega
theorem fits_row {α : Type} {d : Kd α} {e : Nat} {te : Ty} {cnt : α → Nat} (h : Fits True d te cnt) : Fits True (sl e d) (.row te .nil) (fun xs => (xs.map cnt).sum) := ⟨rfl, fun w base ok x cs g o hM hc => by
  obtain ⟨v, c, rfl, hl, hS⟩ := hM
  obtain ⟨s, hr, hin, hnd, hct⟩ := S_slots h hS c hl
  exact ⟨s ++ [], ⟨_, s, [], (hc 0 _ rfl).1, hr, rfl, rfl⟩, fun p hp => .inr (hin p (by simpa using hp)), (fun _ _ => by simpa using hnd), by simpa using hct⟩⟩
theorem fits_row_pr {α β : Type} {d : Kd α} {b : Kd β} {e : Nat} {te t : Ty} {cnt : α → Nat} {cn2 : β → Nat} (h : Fits True d te cnt) (hb : Fits True b t cn2) : Fits True (pr (sl e d) b) (.row te t) (fun x => (x.1.map cnt).sum + cn2 x.2) := ⟨by show 1 + b.sz = t.sz + 1; rw [hb.sz, Nat.add_comm], fun w base ok x cs g o hM hc => by
  obtain ⟨c0, c1, rfl, p, h0, h1⟩ := hM
  obtain ⟨v, c, rfl, hl, hS⟩ := h0
  obtain ⟨s, hr, hin, hnd, hct⟩ := S_slots h hS c hl
  obtain ⟨r, hr2, hin2, hnd2, hct2⟩ := hb.go w base _ x.2 c1 g (o + 1) h1 (tail_cells hc)
  refine ⟨s ++ r, ⟨_, s, r, (hc 0 _ rfl).1, hr, rfl, hr2⟩, fun q hq => ?_, fun hD hg => ?_, by rw [List.length_append, hct, hct2]⟩
  · rcases List.mem_append.1 hq with hq | hq
    · exact .inr ⟨(hin q hq).1.1, (hin q hq).2⟩
    · rcases hin2 q hq with ⟨a1, a2, a3⟩ | a
      · exact .inl ⟨a1, by omega, by show q.2.1 < o + (t.sz + 1); omega⟩
      · exact .inr ⟨a.1.1, a.2⟩
  · rw [List.map_append, List.nodup_append]
    refine ⟨hnd, hnd2 hD (fun hk => hg hk.1), fun a ha b hb he => ?_⟩
    obtain ⟨q, hq, rfl⟩ := List.mem_map.1 ha
    obtain ⟨q', hq', rfl⟩ := List.mem_map.1 hb
    have e1 : q.1 = q'.1 := (Prod.mk.inj he).1
    have a1 := (hin q hq).1
    rcases hin2 q' hq' with ⟨b1, _, _⟩ | b1
    · rw [e1, b1] at a1; exact hg a1.1
    · rw [e1] at a1; exact b1.1.2 a1.2⟩
theorem fits_slice {α : Type} {d : Kd α} {e : Nat} {te : Ty} {cnt : α → Nat} (h : Fits False d te cnt) : Fits False (Kd.slice e d) (.row te .nil) (fun xs => (xs.map cnt).sum) := ⟨rfl, fun w base ok x cs g o hM hc => by
  obtain ⟨v, rfl, hR⟩ := hM
  obtain ⟨A, c, rfl, hcl, _⟩ := Kd.R_reads hR
  obtain ⟨s, hr, hin, hct⟩ := R_slots h hR c hcl
  exact ⟨s ++ [], ⟨_, s, [], (hc 0 _ rfl).1, hr, rfl, rfl⟩, fun p hp => .inr (hin p (by simpa using hp)), fun hD => hD.elim, by simpa using hct⟩⟩
theorem fits_slice_pair {α β : Type} {d : Kd α} {b : Kd β} {e : Nat} {te t : Ty} {cnt : α → Nat} {cn2 : β → Nat} (h : Fits False d te cnt) (hb : Fits False b t cn2) : Fits False (Kd.pair (Kd.slice e d) b) (.row te t) (fun x => (x.1.map cnt).sum + cn2 x.2) := ⟨by show 1 + b.sz = t.sz + 1; rw [hb.sz, Nat.add_comm], fun w base ok x cs g o hM hc => by
  obtain ⟨c0, c1, rfl, h0, h1⟩ := hM
  obtain ⟨v, rfl, hR⟩ := h0
  obtain ⟨A, c, rfl, hcl, _⟩ := Kd.R_reads hR
  obtain ⟨s, hr, hin, hct⟩ := R_slots h hR c hcl
  obtain ⟨r, hr2, hin2, _, hct2⟩ := hb.go w base _ x.2 c1 g (o + 1) h1 (tail_cells hc)
  refine ⟨s ++ r, ⟨_, s, r, (hc 0 _ rfl).1, hr, rfl, hr2⟩, fun q hq => ?_, fun hD => hD.elim, by rw [List.length_append, hct, hct2]⟩
  rcases List.mem_append.1 hq with hq | hq
  · exact .inr (hin q hq)
  · rcases hin2 q hq with ⟨a1, a2, a3⟩ | a
    · exact .inl ⟨a1, by omega, by show q.2.1 < o + (t.sz + 1); omega⟩
    · exact .inr a⟩
end
section
/-- The cells of s hold the marks from a on. -/
def Held (w : World) (s : List Slot) (a : Nat) : Prop := ∀ j p, s[j]? = some p → w.cell? ⟨p.1, p.2.1, none⟩ = some (mkv p.2.2 (a + j))
theorem Held.below {w w' : World} {s : List Slot} {a : Nat} (h : Held w s a) (hb : Below w.heap.size w w') : Held w' s a := fun j p hj => by
  have := h j p hj
  exact (hb.cell (World.block_lt_of_cell? w _ this)).trans this
theorem Held.left {w : World} {s1 s2 : List Slot} {a : Nat} (h : Held w (s1 ++ s2) a) : Held w s1 a := fun j p hj => h j p (by
  rw [List.getElem?_append_left (List.getElem?_eq_some_iff.1 hj).1]; exact hj)
theorem Held.right {w : World} {s1 s2 : List Slot} {a : Nat} (h : Held w (s1 ++ s2) a) : Held w s2 (a + s1.length) := fun j p hj => by
  have := h (s1.length + j) p (by rw [List.getElem?_append_right (Nat.le_add_right _ _), Nat.add_sub_cancel_left]; exact hj)
  rwa [← Nat.add_assoc] at this
theorem Held.one {w : World} {g o : Nat} {t : Bool} {a : Nat} (h : Held w [(g, o, t)] a) : w.cell? ⟨g, o, none⟩ = some (mkv t a) := h 0 _ rfl
theorem Held.flat {w : World} {ss : List (List Slot)} {a i : Nat} {t : List Slot} (h : Held w ss.flatten a) (hi : ss[i]? = some t) : Held w t (a + (ss.take i).flatten.length) := by
  obtain ⟨hl, rfl⟩ := List.getElem?_eq_some_iff.1 hi
  have e : ss.flatten = (ss.take i).flatten ++ (ss[i] ++ (ss.drop (i + 1)).flatten) := by
    have e2 : ss.flatten = (ss.take i ++ ss.drop i).flatten := by rw [List.take_append_drop]
    rw [e2, List.flatten_append, List.drop_eq_getElem_cons hl, List.flatten_cons]
  rw [e] at h
  exact h.right.left
theorem Marked.held {w w' : World} {s : List Slot} {a : Nat} (h : Marked w w' s a) (hn : (s.map key).Nodup) : Held w' s a := h.at_ hn
end
set_option maxHeartbeats 2000000 in
set_option maxRecDepth 100000 in
theorem heldIntS_any (v : Value) (s : List Slot) (a : Nat) {ai : Int} (hai : ai = (a : Int)) (w : World) (hs : RowOf (Cel w tyInt) 1 v s) (h1 : 1 ≤ a) (hb : a + s.length ≤ 9000000) (hh : Held w s a) :
    Calls Try.prog 83 #[v, .int .i64 ai] w fun e w' => e = .returned (.int .i64 ((a + s.length : Nat) : Int)) ∧ Below w.heap.size w w' := by
  subst hai
  obtain ⟨A, n, c, ss, rfl, hnc, hcm, hn, rfl, hel⟩ := hs.all
  have HEL := Aside0.mk hel
  have HN := Aside0.mk hn
  have HH := Aside0.mk hh
  have HB := Aside0.mk (Below.refl w.heap.size w)
  have hnm : n ≤ 9223372036854775807 := by unfold maxLen at hcm; omega
  clear hel hn hs hcm hnc hh
  go_enter Try.func83, Try.ntmps83
  go_wp2
  go_loopw [1, 5] (fun v1 v5 wr => ∃ i K : Nat, i ≤ n ∧ v5 = .int .i64 i ∧ v1 = .int .i64 K ∧ 1 ≤ K ∧ K ≤ 9000000 ∧ Aside0 (K = a + (ss.take i).flatten.length) ∧ Aside0 (Below w.heap.size w wr)) (fun _ v5 _ => n - (intOf v5).toNat)
  case atStart => exact ⟨0, a, Nat.zero_le _, rfl, rfl, h1, by omega, ⟨by simp⟩, HB⟩
  case round =>
    clear HB
    obtain ⟨i, K0, hi, rfl, rfl, hK1, hK2, HK, HB⟩ := hrel
    by_cases hlt : i < n
    · have hsl := List.getElem?_eq_getElem (show i < ss.length by have := HN.out; omega)
      obtain ⟨g, hA, hc⟩ := HEL.out i _ hsl
      subst hA
      generalize ss[i]'(by have := HN.out; omega) = t at hsl hc
      have HS := Aside0.mk hsl
      have hq := HH.out.flat hsl
      rw [Nat.mul_one] at hc
      obtain ⟨_, _, r0, ht0, hrn⟩ := hc
      obtain rfl : r0 = [] := hrn
      have HT := Aside0.mk (show t = [(g, i, false)] by rw [ht0]; first | done | simp)
      clear ht0 hsl
      rw [HT.out, ← HK.out] at hq
      have hx0 : w.cell? ⟨g, i, none⟩ = some (.int .i64 (K0 : Int)) := hq.one
      have HX0 := Aside0.mk hx0
      clear hx0
      have hle : K0 + (1) ≤ 9000000 := by
        have h1 := take_flat HS.out
        have h2 := flat_le ss (i + 1)
        have h3 := HK.out
        rw [h1, HT.out] at h2
        (try simp only [List.length_append, List.length_cons, List.length_nil, Nat.zero_add] at h2)
        omega
      clear hq
      have hx0 : _ = some (Value.int .i64 ((K0 : Int))) := (HB.out.cell (World.block_lt_of_cell? w _ HX0.out)).trans (HX0.out.trans (by rw [show ((K0 : Nat) : Int) = (K0 : Int) by omega]))
      go_wp2
      go_roundw
      case rel => exact ⟨i + 1, K0 + 1, by omega, by go_num, by first | rfl | go_num, by omega, by omega, ⟨by rw [take_flat HS.out, HT.out]; have := HK.out; (try simp only [List.length_append, List.length_cons, List.length_nil] at this); (try simp only [List.length_append, List.length_cons, List.length_nil]); omega⟩, HB⟩
      case measure => simp [intOf]; omega
    · have hin : i = ss.length := by have := HN.out; omega
      have HL := Aside0.mk hin
      clear hin
      go_wp2
      go_ret
      have e := HK.out
      subst e
      rw [HL.out, List.take_length]
      exact ⟨rfl, HB.out⟩
/-- A value's cells, n levels of it. -/
def tyV : Nat → Ty
  | 0 => .str (.int (.str (.str .no)))
  | n + 1 => .str (.int (.row (tyV n) (.row tyInt .nil)))
theorem tyV_sz : ∀ n, (tyV n).sz = 4
  | 0 => rfl
  | _ + 1 => rfl
theorem noV {w : World} {g o : Nat} {t : List Slot} (h : Cel w (tyV 0) g o t) : False := by
  obtain ⟨_, _, _, _, _, _, _, _, _, _, _, _, _, _, _, _, h⟩ := h
  exact h
theorem RowOf.tpV {w w' : World} (h : TP w w') {n : Nat} {v : Value} {s : List Slot} (hr : RowOf (Cel w (tyV n)) 4 v s) : RowOf (Cel w' (tyV n)) 4 v s := by
  have := RowOf.tp h (e := tyV n) (v := v) (s := s) (by rw [tyV_sz]; exact hr)
  rwa [tyV_sz] at this
theorem RowOf.memV {w : World} {n : Nat} {v : Value} {s : List Slot} (hr : RowOf (Cel w (tyV n)) 4 v s) (p : Slot) (hp : p ∈ s) : p.1 < w.heap.size := RowOf.mem (e := tyV n) (by rw [tyV_sz]; exact hr) p hp
set_option maxHeartbeats 2000000 in
set_option maxRecDepth 100000 in
theorem markValueS_step (lv : Nat) (ih : ∀ m, lv = m + 1 → ∀ (v : Value) (s : List Slot) (a : Nat) {ai : Int} (hai : ai = (a : Int)) (w : World) (hs : RowOf (Cel w (tyV m)) 4 v s) (h1 : 1 ≤ a) (hb : a + s.length ≤ 9000000), Calls Try.prog 80 #[v, .int .i64 ai] w fun e w' => e = .returned (.int .i64 ((a + s.length : Nat) : Int)) ∧ Marked w w' s a) (v : Value) (s : List Slot) (a : Nat) {ai : Int} (hai : ai = (a : Int)) (w : World) (hs : RowOf (Cel w (tyV lv)) 4 v s) (h1 : 1 ≤ a) (hb : a + s.length ≤ 9000000) :
    Calls Try.prog 80 #[v, .int .i64 ai] w fun e w' => e = .returned (.int .i64 ((a + s.length : Nat) : Int)) ∧ Marked w w' s a := by
  subst hai
  obtain ⟨A, n, c, ss, rfl, hnc, hcm, hn, rfl, hel⟩ := hs.all
  have HEL := Aside0.mk hel
  have HN := Aside0.mk hn
  have HM := Aside0.mk (show Marked w w (ss.take 0).flatten a from Marked.nil (Below.refl _ _) a)
  have hnm : n ≤ 9223372036854775807 := by unfold maxLen at hcm; omega
  clear hel hn hs hcm hnc
  go_enter Try.func80, Try.ntmps80
  go_wp2
  go_loopw [1, 5] (fun v1 v5 wr => ∃ i K : Nat, i ≤ n ∧ v5 = .int .i64 i ∧ v1 = .int .i64 K ∧ 1 ≤ K ∧ K ≤ 9000000 ∧ Aside0 (K = a + (ss.take i).flatten.length) ∧ Aside0 (Marked w wr (ss.take i).flatten a)) (fun _ v5 _ => n - (intOf v5).toNat)
  case atStart => exact ⟨0, a, Nat.zero_le _, rfl, rfl, h1, by omega, ⟨by simp⟩, HM⟩
  case round =>
    clear HM
    obtain ⟨i, K0, hi, rfl, rfl, hK1, hK2, HK, HM⟩ := hrel
    by_cases hlt : i < n
    · have hsl := List.getElem?_eq_getElem (show i < ss.length by have := HN.out; omega)
      obtain ⟨g, hA, hc⟩ := HEL.out i _ hsl
      subst hA
      generalize ss[i]'(by have := HN.out; omega) = t at hsl hc
      have HS := Aside0.mk hsl
      obtain ⟨m, rfl⟩ : ∃ m, lv = m + 1 := by
        cases lv with
        | zero => exact (noV hc).elim
        | succ m => exact ⟨m, rfl⟩
      have hc : Cel w (.str (.int (.row (tyV m) (.row tyInt .nil)))) g (i * 4) t := hc
      obtain ⟨⟨z0, hx0⟩, hf0, r0, ht0, ⟨z1, hx1⟩, hf1, r1, ht1, v2, s2, r2, hx2, hv2, ht2, v3, s3, r3, hx3, hv3, ht3, hrn⟩ := hc
      rw [tyV_sz] at hv2
      obtain rfl : r3 = [] := hrn
      subst ht3
      subst ht2
      subst ht1
      have HT := Aside0.mk (show t = [(g, i * 4, true)] ++ [(g, i * 4 + 1, false)] ++ s2 ++ s3 by rw [ht0]; first | done | simp)
      clear ht0 hsl
      have HX0 := Aside0.mk (show w.cell? ⟨g, i * 4, none⟩ = some (.string z0) from hx0)
      have HF0 := Aside0.mk (show w.frozen? ⟨g, i * 4, none⟩ = false from hf0)
      clear hx0 hf0
      have HX1 := Aside0.mk (show w.cell? ⟨g, i * 4 + 1, none⟩ = some (.int .i64 z1) from hx1)
      have HF1 := Aside0.mk (show w.frozen? ⟨g, i * 4 + 1, none⟩ = false from hf1)
      clear hx1 hf1
      obtain ⟨A2, n2, c2, rfl⟩ := hv2.slice
      have HX2 := Aside0.mk (show w.cell? ⟨g, i * 4 + 2, none⟩ = some (.slice A2 n2 c2) from hx2)
      have HV2 := Aside0.mk hv2
      clear hx2 hv2
      obtain ⟨A3, n3, c3, rfl⟩ := hv3.slice
      have HX3 := Aside0.mk (show w.cell? ⟨g, i * 4 + 3, none⟩ = some (.slice A3 n3 c3) from hx3)
      have HV3 := Aside0.mk hv3
      clear hx3 hv3
      have hle : K0 + (1 + 1 + s2.length + s3.length) ≤ 9000000 := by
        have h1 := take_flat HS.out
        have h2 := flat_le ss (i + 1)
        have h3 := HK.out
        rw [h1, HT.out] at h2
        (try simp only [List.length_append, List.length_cons, List.length_nil, Nat.zero_add] at h2)
        omega
      go_wp2_with fail
      refine (mText_any (K0) (by omega) (by omega) (by omega) _).mono ?_
      rintro e w1 ⟨rfl, hb⟩
      replace HM := Aside0.mk (HM.out.below hb)
      clear hb
      obtain ⟨y0_, hx0⟩ := HM.out.tp.str _ _ HX0.out
      have hf0 := HM.out.tp.fz' HX0.out HF0.out
      obtain ⟨y1_, hx1⟩ := HM.out.tp.int _ _ HX1.out
      have hf1 := HM.out.tp.fz' HX1.out HF1.out
      have hx2 := HM.out.tp.sl _ _ _ _ HX2.out
      go_wp2_with fail
      replace HM := Aside0.mk (Marked.putS (K := K0) HM.out (by have := HK.out; (try simp only [List.length_append, List.length_cons, List.length_nil] at this); (try simp only [List.length_append, List.length_cons, List.length_nil]); omega) HX0.out)
      replace HM := Aside0.mk (Marked.putI (K := K0 + 1) ((K0 : Int) + 1) HM.out (by have := HK.out; (try simp only [List.length_append, List.length_cons, List.length_nil] at this); (try simp only [List.length_append, List.length_cons, List.length_nil]); omega) (by omega) HX1.out)
      clear hx0 hf0 hx1 hf1 hx2
      refine (ih m rfl _ s2 (K0 + 2) (by omega) _ (RowOf.tpV HM.out.tp HV2.out) (by omega) (by omega)).mono ?_
      rintro e w2 ⟨rfl, hm⟩
      replace HM := Aside0.mk (Marked.more HM.out (K := K0 + 2) (by have := HK.out; (try simp only [List.length_append, List.length_cons, List.length_nil] at this); (try simp only [List.length_append, List.length_cons, List.length_nil]); omega) hm)
      obtain ⟨K2, hK2⟩ : ∃ K_ : Nat, K_ = K0 + 2 + s2.length := ⟨_, rfl⟩
      rw [← hK2]
      have HE2 := Aside0.mk hK2
      replace HK := Aside0.mk (show K2 = a + ((ss.take i).flatten ++ [(g, i * 4, true)] ++ [(g, i * 4 + 1, false)] ++ s2).length by have := HK.out; (try simp only [List.length_append, List.length_cons, List.length_nil] at this); (try simp only [List.length_append, List.length_cons, List.length_nil]); omega)
      have lK2 : K2 ≤ 9000000 := by omega
      have mK2 : 1 ≤ K2 := by omega
      clear hK2 hm
      replace hle : K2 + (s3.length) ≤ 9000000 := by have := HE2.out; omega
      have hx3 := HM.out.tp.sl _ _ _ _ HX3.out
      go_wp2_with fail
      clear hx3
      refine (markIntS_any _ s3 (K2) (by omega) _ (RowOf.tp HM.out.tp HV3.out) (by omega) (by omega)).mono ?_
      rintro e w3 ⟨rfl, hm⟩
      replace HM := Aside0.mk (Marked.more HM.out (K := K2) (by have := HK.out; (try simp only [List.length_append, List.length_cons, List.length_nil] at this); (try simp only [List.length_append, List.length_cons, List.length_nil]); omega) hm)
      obtain ⟨K3, hK3⟩ : ∃ K_ : Nat, K_ = K2 + s3.length := ⟨_, rfl⟩
      rw [← hK3]
      have HE3 := Aside0.mk hK3
      replace HK := Aside0.mk (show K3 = a + ((ss.take i).flatten ++ [(g, i * 4, true)] ++ [(g, i * 4 + 1, false)] ++ s2 ++ s3).length by have := HK.out; (try simp only [List.length_append, List.length_cons, List.length_nil] at this); (try simp only [List.length_append, List.length_cons, List.length_nil]); omega)
      have lK3 : K3 ≤ 9000000 := by omega
      have mK3 : 1 ≤ K3 := by omega
      clear hK3 hm
      go_wp2
      go_roundw
      case rel =>
        exact ⟨i + 1, K3, by omega, by go_num, by first | rfl | go_num, by omega, by omega, ⟨by rw [take_flat HS.out, HT.out]; have := HK.out; (try simp only [List.length_append, List.length_cons, List.length_nil] at this); (try simp only [List.length_append, List.length_cons, List.length_nil]); omega⟩, ⟨by rw [take_flat HS.out, HT.out]; have := HM.out; simpa only [List.append_assoc] using this⟩⟩
      case measure => simp [intOf]; omega
    · have hin : i = ss.length := by have := HN.out; omega
      have HL := Aside0.mk hin
      clear hin
      go_wp2
      go_ret
      have e := HK.out
      subst e
      rw [HL.out, List.take_length] at HM ⊢
      exact ⟨rfl, HM.out⟩
theorem markValueS_any : ∀ (n : Nat) (v : Value) (s : List Slot) (a : Nat) {ai : Int} (hai : ai = (a : Int)) (w : World) (hs : RowOf (Cel w (tyV n)) 4 v s) (h1 : 1 ≤ a) (hb : a + s.length ≤ 9000000), Calls Try.prog 80 #[v, .int .i64 ai] w fun e w' => e = .returned (.int .i64 ((a + s.length : Nat) : Int)) ∧ Marked w w' s a
  | 0 => markValueS_step 0 (fun m h => by omega)
  | n + 1 => markValueS_step (n + 1) (fun m h => Nat.succ.inj h ▸ markValueS_any n)
set_option maxHeartbeats 2000000 in
set_option maxRecDepth 100000 in
theorem heldValueS_step (lv : Nat) (ih : ∀ m, lv = m + 1 → ∀ (v : Value) (s : List Slot) (a : Nat) {ai : Int} (hai : ai = (a : Int)) (w : World) (hs : RowOf (Cel w (tyV m)) 4 v s) (h1 : 1 ≤ a) (hb : a + s.length ≤ 9000000) (hh : Held w s a), Calls Try.prog 82 #[v, .int .i64 ai] w fun e w' => e = .returned (.int .i64 ((a + s.length : Nat) : Int)) ∧ Below w.heap.size w w') (v : Value) (s : List Slot) (a : Nat) {ai : Int} (hai : ai = (a : Int)) (w : World) (hs : RowOf (Cel w (tyV lv)) 4 v s) (h1 : 1 ≤ a) (hb : a + s.length ≤ 9000000) (hh : Held w s a) :
    Calls Try.prog 82 #[v, .int .i64 ai] w fun e w' => e = .returned (.int .i64 ((a + s.length : Nat) : Int)) ∧ Below w.heap.size w w' := by
  subst hai
  obtain ⟨A, n, c, ss, rfl, hnc, hcm, hn, rfl, hel⟩ := hs.all
  have HEL := Aside0.mk hel
  have HN := Aside0.mk hn
  have HH := Aside0.mk hh
  have HB := Aside0.mk (Below.refl w.heap.size w)
  have hnm : n ≤ 9223372036854775807 := by unfold maxLen at hcm; omega
  clear hel hn hs hcm hnc hh
  go_enter Try.func82, Try.ntmps82
  go_wp2
  go_loopw [1, 5] (fun v1 v5 wr => ∃ i K : Nat, i ≤ n ∧ v5 = .int .i64 i ∧ v1 = .int .i64 K ∧ 1 ≤ K ∧ K ≤ 9000000 ∧ Aside0 (K = a + (ss.take i).flatten.length) ∧ Aside0 (Below w.heap.size w wr)) (fun _ v5 _ => n - (intOf v5).toNat)
  case atStart => exact ⟨0, a, Nat.zero_le _, rfl, rfl, h1, by omega, ⟨by simp⟩, HB⟩
  case round =>
    clear HB
    obtain ⟨i, K0, hi, rfl, rfl, hK1, hK2, HK, HB⟩ := hrel
    by_cases hlt : i < n
    · have hsl := List.getElem?_eq_getElem (show i < ss.length by have := HN.out; omega)
      obtain ⟨g, hA, hc⟩ := HEL.out i _ hsl
      subst hA
      generalize ss[i]'(by have := HN.out; omega) = t at hsl hc
      have HS := Aside0.mk hsl
      have hq := HH.out.flat hsl
      obtain ⟨m, rfl⟩ : ∃ m, lv = m + 1 := by
        cases lv with
        | zero => exact (noV hc).elim
        | succ m => exact ⟨m, rfl⟩
      have hc : Cel w (.str (.int (.row (tyV m) (.row tyInt .nil)))) g (i * 4) t := hc
      obtain ⟨_, _, r0, ht0, _, _, r1, ht1, v2, s2, r2, hx2, hv2, ht2, v3, s3, r3, hx3, hv3, ht3, hrn⟩ := hc
      rw [tyV_sz] at hv2
      obtain rfl : r3 = [] := hrn
      subst ht3
      subst ht2
      subst ht1
      have HT := Aside0.mk (show t = [(g, i * 4, true)] ++ [(g, i * 4 + 1, false)] ++ s2 ++ s3 by rw [ht0]; first | done | simp)
      clear ht0 hsl
      rw [HT.out, ← HK.out] at hq
      have HH3 := Aside0.mk (show Held w s3 (K0 + 1 + 1 + s2.length) from by have := hq.right; simpa only [List.length_append, List.length_cons, List.length_nil, Nat.zero_add, Nat.add_assoc] using this)
      replace hq := hq.left
      have HH2 := Aside0.mk (show Held w s2 (K0 + 1 + 1) from by have := hq.right; simpa only [List.length_append, List.length_cons, List.length_nil, Nat.zero_add, Nat.add_assoc] using this)
      replace hq := hq.left
      have hx1 : w.cell? ⟨g, i * 4 + 1, none⟩ = some (.int .i64 ((K0 + 1 : Nat) : Int)) := by have := hq.right.one; simpa only [mkv, List.length_append, List.length_cons, List.length_nil, Nat.zero_add, Nat.add_assoc, if_true, Bool.false_eq_true, if_false] using this
      replace hq := hq.left
      have hx0 : w.cell? ⟨g, i * 4, none⟩ = some (.string (mtx K0)) := hq.one
      have HX0 := Aside0.mk hx0
      clear hx0
      have HX1 := Aside0.mk hx1
      clear hx1
      obtain ⟨A2, n2, c2, rfl⟩ := hv2.slice
      have HX2 := Aside0.mk (show w.cell? ⟨g, i * 4 + 2, none⟩ = some (.slice A2 n2 c2) from hx2)
      have HV2 := Aside0.mk hv2
      clear hx2 hv2
      obtain ⟨A3, n3, c3, rfl⟩ := hv3.slice
      have HX3 := Aside0.mk (show w.cell? ⟨g, i * 4 + 3, none⟩ = some (.slice A3 n3 c3) from hx3)
      have HV3 := Aside0.mk hv3
      clear hx3 hv3
      have hle : K0 + (1 + 1 + s2.length + s3.length) ≤ 9000000 := by
        have h1 := take_flat HS.out
        have h2 := flat_le ss (i + 1)
        have h3 := HK.out
        rw [h1, HT.out] at h2
        (try simp only [List.length_append, List.length_cons, List.length_nil, Nat.zero_add] at h2)
        omega
      clear hq
      go_wp2_with fail
      have hx0 := (HB.out.cell (World.block_lt_of_cell? w _ HX0.out)).trans HX0.out
      replace HB := Aside0.mk (below_drew1 HB.out)
      refine start_ (n := 8) (S := fun w' => w'.cell? ⟨g, i * 4, none⟩ = some (Value.string (mtx (K0)))) (ds := []) #[false,false,false,false,false,false,false,false] (by kernel_rfl) rfl rfl hx0 (fun hHeld => ?_)
      clear hx0
      generalize wr.drew = wd at HB hHeld ⊢
      refine Up.pn 0 (some 12) ?_
      refine Up.pn 1 (some 13) ?_
      refine Up.pn 2 (some 14) ?_
      refine Up.pn 3 (some 15) ?_
      refine Up.pn 5 (some 17) ?_
      refine take_ (i := 4) (N := some 16) (v := ?_) (a' := ?_) #[true,true,true,true,true,true,false,false] rfl rfl (by kernel_rfl) (fun _ _ _ h => h) (Or.inl ⟨by rfl, ?_⟩) hHeld ?_ ?_
      rotate_left
      · intro w' s0
        go_simp
        with_reducible rfl
      rotate_left
      · simp only [Act.put, List.setIfInBounds_toArray, List.set_cons_zero, List.set_cons_succ, i64_w, i32_w]
        rfl
      refine one_ (i := 6) (N := some 18) #[true,true,true,true,true,true,true,false] rfl rfl (by kernel_rfl) (by decide) (fun K hK => ?_)
      refine Up.go Try.func113 #[.int .i64 ((K0 : Int))] ?_
      refine (mText_any (K0) (by omega) (by omega) (by omega) _).mono ?_
      rintro e w8 ⟨rfl, hb⟩
      refine ⟨_, rfl, ?_⟩
      replace HB := Aside0.mk (below_step HB.out hb)
      clear hb
      refine hK.out _ _ ((HB.out.cell (World.block_lt_of_cell? w _ HX0.out)).trans HX0.out) (fun hHeld => ?_)
      clear hK K
      refine Up.nm 18 ?_
      refine Up.pn 7 (some 19) ?_
      refine done_ (by kernel_rfl) ?_
      have hx1 : _ = some (Value.int .i64 ((K0 : Int) + 1)) := (HB.out.cell (World.block_lt_of_cell? w _ HX1.out)).trans (HX1.out.trans (by rw [show ((K0 + 1 : Nat) : Int) = (K0 : Int) + 1 by omega]))
      have hx2 : _ = some (Value.slice A2 n2 c2) := (HB.out.cell (World.block_lt_of_cell? w _ HX2.out)).trans HX2.out
      go_wp2_with fail
      clear hx1 hx2
      refine (ih m rfl _ s2 (K0 + 2) (by omega) _ (RowOf.tpV (TP.of_below HB.out) HV2.out) (by omega) (by omega) (by have := HH2.out.below HB.out; exact this)).mono ?_
      rintro e w1 ⟨rfl, hb⟩
      replace HB := Aside0.mk (below_step HB.out hb)
      obtain ⟨K1, hK1⟩ : ∃ K_ : Nat, K_ = K0 + 2 + s2.length := ⟨_, rfl⟩
      rw [← hK1]
      have HE := Aside0.mk (show K1 = K0 + 1 + 1 + s2.length by omega)
      have lK1 : K1 ≤ 9000000 := by omega
      have mK1 : 1 ≤ K1 := by omega
      replace hle : K1 + (s3.length) ≤ 9000000 := by omega
      clear hK1 hb
      have hx3 : _ = some (Value.slice A3 n3 c3) := (HB.out.cell (World.block_lt_of_cell? w _ HX3.out)).trans HX3.out
      go_wp2_with fail
      clear hx3
      refine (heldIntS_any _ s3 (K1) (by omega) _ (RowOf.tp (TP.of_below HB.out) HV3.out) (by omega) (by omega) (by have := HH3.out.below HB.out; rw [show K1 = K0 + 1 + 1 + s2.length by have := HE.out; omega]; exact this)).mono ?_
      rintro e w2 ⟨rfl, hb⟩
      replace HB := Aside0.mk (below_step HB.out hb)
      obtain ⟨K2, hK2⟩ : ∃ K_ : Nat, K_ = K1 + s3.length := ⟨_, rfl⟩
      rw [← hK2]
      replace HE := Aside0.mk (show K2 = K0 + 1 + 1 + s2.length + s3.length by have := HE.out; omega)
      have lK2 : K2 ≤ 9000000 := by omega
      have mK2 : 1 ≤ K2 := by omega
      clear hK2 hb
      go_wp2
      go_roundw
      case rel => exact ⟨i + 1, K2, by omega, by go_num, by first | rfl | go_num, by omega, by omega, ⟨by rw [take_flat HS.out, HT.out]; have := HK.out; have h2 := HE.out; (try simp only [List.length_append, List.length_cons, List.length_nil] at this); (try simp only [List.length_append, List.length_cons, List.length_nil]); omega⟩, HB⟩
      case measure => simp [intOf]; omega
    · have hin : i = ss.length := by have := HN.out; omega
      have HL := Aside0.mk hin
      clear hin
      go_wp2
      go_ret
      have e := HK.out
      subst e
      rw [HL.out, List.take_length]
      exact ⟨rfl, HB.out⟩
theorem heldValueS_any : ∀ (n : Nat) (v : Value) (s : List Slot) (a : Nat) {ai : Int} (hai : ai = (a : Int)) (w : World) (hs : RowOf (Cel w (tyV n)) 4 v s) (h1 : 1 ≤ a) (hb : a + s.length ≤ 9000000) (hh : Held w s a), Calls Try.prog 82 #[v, .int .i64 ai] w fun e w' => e = .returned (.int .i64 ((a + s.length : Nat) : Int)) ∧ Below w.heap.size w w'
  | 0 => heldValueS_step 0 (fun m h => by omega)
  | n + 1 => heldValueS_step (n + 1) (fun m h => Nat.succ.inj h ▸ heldValueS_any n)
set_option maxHeartbeats 2000000 in
set_option maxRecDepth 100000 in
theorem markValue_any (lv : Nat) (n0 : ByteArray) (n1 : Int) (v2 : Value) (s2 : List Slot) (v3 : Value) (s3 : List Slot) (a : Nat) {ai : Int} (hai : ai = (a : Int)) (w : World) (hs2 : RowOf (Cel w (tyV lv)) 4 v2 s2) (hs3 : RowOf (Cel w tyInt) 1 v3 s3) (h1 : 1 ≤ a) (hb : a + (s2 ++ s3).length ≤ 9000000) :
    Calls Try.prog 36 #[.agg #[.string n0, .int .i64 n1, v2, v3], .int .i64 ai] w fun e w' => e = .returned (.int .i64 ((a + (s2 ++ s3).length : Nat) : Int)) ∧ Marked w w' (s2 ++ s3) a := by
  subst hai
  have hu_ := Try.underlying27
  (try simp only [List.length_append] at hb)
  have hle : a + (s2.length + s3.length) ≤ 9000000 := by omega
  clear hb
  have HI2 := Aside0.mk (fun p hp => RowOf.memV hs2 p hp)
  obtain ⟨A2, m2, c2, e2⟩ := hs2.slice
  subst e2
  have HV2 := Aside0.mk hs2
  clear hs2
  have HI3 := Aside0.mk (fun p hp => RowOf.mem hs3 p hp)
  obtain ⟨A3, m3, c3, e3⟩ := hs3.slice
  subst e3
  have HV3 := Aside0.mk hs3
  clear hs3
  go_enter Try.func36, Try.ntmps36
  go_wp2_with fail
  obtain ⟨g, hg⟩ : ∃ g, g = w.heap.size := ⟨_, rfl⟩
  obtain ⟨wb, hwb⟩ : ∃ W, W = w.alloc (.cells #[.string n0, .int .i64 n1, .slice A2 m2 c2, .slice A3 m3 c3] 27) := ⟨_, rfl⟩
  rw [← hwb]
  try rw [← hg]
  have BK := Aside0.mk (show wb.heap[g]? = some (.cells #[.string n0, .int .i64 n1, .slice A2 m2 c2, .slice A3 m3 c3] 27 (0, 0)) by rw [hwb, hg]; exact heap_alloc_new w _)
  have HB := Aside0.mk (show Below w.heap.size w wb by rw [hwb]; exact below_alloc (Below.refl _ _) _)
  have GW := Aside0.mk (show w.heap.size ≤ g by rw [hg]; exact Nat.le_refl _)
  have HM := Aside0.mk (Marked.nil HB.out a)
  have HK := Aside0.mk (show a = a + ([] : List Slot).length by simp)
  clear HB
  clear hwb hg
  refine (markValueS_any lv _ s2 a (by omega) _ (RowOf.tpV HM.out.tp HV2.out) (by omega) (by omega)).mono ?_
  rintro e w1 ⟨rfl, hm⟩
  replace BK := Aside0.mk ((hm.far g (blk_lt BK.out) (fun p hp e => by have h1 := HI2.out p hp; have h2 := GW.out; omega)).trans BK.out)
  replace HM := Aside0.mk (Marked.more HM.out (K := a) HK.out hm)
  obtain ⟨K1, hK1⟩ : ∃ K_ : Nat, K_ = a + s2.length := ⟨_, rfl⟩
  rw [← hK1]
  have HE := Aside0.mk (show K1 = a + s2.length by omega)
  replace HK := Aside0.mk (show K1 = a + ([] ++ s2).length by rw [HE.out]; simp only [List.length_append, List.length_nil]; omega)
  have mK1 : 1 ≤ K1 := by omega
  have lK1 : K1 ≤ 9000000 := by omega
  replace hle : K1 + (s3.length) ≤ 9000000 := by omega
  clear hK1 hm
  have hx3 := blk_cell BK.out 3
  replace hx3 : _ = some (Value.slice A3 m3 c3) := hx3.trans rfl
  go_wp2_with fail
  clear hx3
  refine (markIntS_any _ s3 K1 (by omega) _ (RowOf.tp HM.out.tp HV3.out) (by omega) (by omega)).mono ?_
  rintro e w2 ⟨rfl, hm⟩
  replace BK := Aside0.mk ((hm.far g (blk_lt BK.out) (fun p hp e => by have h1 := HI3.out p hp; have h2 := GW.out; omega)).trans BK.out)
  replace HM := Aside0.mk (Marked.more HM.out (K := K1) HK.out hm)
  obtain ⟨K2, hK2⟩ : ∃ K_ : Nat, K_ = K1 + s3.length := ⟨_, rfl⟩
  rw [← hK2]
  replace HE := Aside0.mk (show K2 = a + s2.length + s3.length by have := HE.out; omega)
  replace HK := Aside0.mk (show K2 = a + ([] ++ s2 ++ s3).length by rw [HE.out]; simp only [List.length_append, List.length_nil]; omega)
  have mK2 : 1 ≤ K2 := by omega
  have lK2 : K2 ≤ 9000000 := by omega
  clear hK2 hm
  go_wp2
  go_ret
  refine ⟨by rw [show a + (s2 ++ s3).length = K2 by rw [HE.out]; simp only [List.length_append, Nat.add_assoc]]; rfl, ?_⟩
  exact by have := HM.out; simpa only [List.nil_append] using this
set_option maxHeartbeats 2000000 in
set_option maxRecDepth 100000 in
theorem heldValue_any (lv : Nat) (n0 : ByteArray) (n1 : Int) (v2 : Value) (s2 : List Slot) (v3 : Value) (s3 : List Slot) (a : Nat) {ai : Int} (hai : ai = (a : Int)) (w : World) (hs2 : RowOf (Cel w (tyV lv)) 4 v2 s2) (hs3 : RowOf (Cel w tyInt) 1 v3 s3) (h1 : 1 ≤ a) (hb : a + (s2 ++ s3).length ≤ 9000000) (hh : Held w (s2 ++ s3) a) :
    Calls Try.prog 37 #[.agg #[.string n0, .int .i64 n1, v2, v3], .int .i64 ai] w fun e w' => e = .returned (.int .i64 ((a + (s2 ++ s3).length : Nat) : Int)) ∧ Below w.heap.size w w' := by
  subst hai
  have hu_ := Try.underlying27
  (try simp only [List.length_append] at hb)
  have hle : a + (s2.length + s3.length) ≤ 9000000 := by omega
  clear hb
  have HI2 := Aside0.mk (fun p hp => RowOf.memV hs2 p hp)
  obtain ⟨A2, m2, c2, e2⟩ := hs2.slice
  subst e2
  have HV2 := Aside0.mk hs2
  clear hs2
  have HI3 := Aside0.mk (fun p hp => RowOf.mem hs3 p hp)
  obtain ⟨A3, m3, c3, e3⟩ := hs3.slice
  subst e3
  have HV3 := Aside0.mk hs3
  clear hs3
  have hq := hh
  have HH3 := Aside0.mk (show Held w s3 (a + s2.length) from by have := hq.right; simpa only [List.length_append, Nat.add_assoc] using this)
  replace hq := hq.left
  have HH2 := Aside0.mk (show Held w s2 (a) from by have := hq; simpa only [List.length_append, Nat.add_assoc] using this)
  clear hq hh
  go_enter Try.func37, Try.ntmps37
  go_wp2_with fail
  obtain ⟨g, hg⟩ : ∃ g, g = w.heap.size := ⟨_, rfl⟩
  obtain ⟨wb, hwb⟩ : ∃ W, W = w.alloc (.cells #[.string n0, .int .i64 n1, .slice A2 m2 c2, .slice A3 m3 c3] 27) := ⟨_, rfl⟩
  rw [← hwb]
  try rw [← hg]
  have BK := Aside0.mk (show wb.heap[g]? = some (.cells #[.string n0, .int .i64 n1, .slice A2 m2 c2, .slice A3 m3 c3] 27 (0, 0)) by rw [hwb, hg]; exact heap_alloc_new w _)
  have HB := Aside0.mk (show Below w.heap.size w wb by rw [hwb]; exact below_alloc (Below.refl _ _) _)
  have GW := Aside0.mk (show w.heap.size ≤ g by rw [hg]; exact Nat.le_refl _)
  clear hwb hg
  refine (heldValueS_any lv _ s2 a (by omega) _ (RowOf.tpV (TP.of_below HB.out) HV2.out) (by omega) (by omega) (by have := HH2.out.below HB.out; exact this)).mono ?_
  rintro e w1 ⟨rfl, hb⟩
  replace BK := Aside0.mk (blk_below BK.out hb)
  replace HB := Aside0.mk (below_step HB.out hb)
  obtain ⟨K1, hK1⟩ : ∃ K_ : Nat, K_ = a + s2.length := ⟨_, rfl⟩
  rw [← hK1]
  have HE := Aside0.mk (show K1 = a + s2.length by omega)
  have mK1 : 1 ≤ K1 := by omega
  have lK1 : K1 ≤ 9000000 := by omega
  replace hle : K1 + (s3.length) ≤ 9000000 := by omega
  clear hK1 hb
  have hx3 := blk_cell BK.out 3
  replace hx3 : _ = some (Value.slice A3 m3 c3) := hx3.trans rfl
  go_wp2_with fail
  clear hx3
  refine (heldIntS_any _ s3 K1 (by omega) _ (RowOf.tp (TP.of_below HB.out) HV3.out) (by omega) (by omega) (by have := HH3.out.below HB.out; rw [show K1 = a + s2.length by have := HE.out; omega]; exact this)).mono ?_
  rintro e w2 ⟨rfl, hb⟩
  replace BK := Aside0.mk (blk_below BK.out hb)
  replace HB := Aside0.mk (below_step HB.out hb)
  obtain ⟨K2, hK2⟩ : ∃ K_ : Nat, K_ = K1 + s3.length := ⟨_, rfl⟩
  rw [← hK2]
  replace HE := Aside0.mk (show K2 = a + s2.length + s3.length by have := HE.out; omega)
  have mK2 : 1 ≤ K2 := by omega
  have lK2 : K2 ≤ 9000000 := by omega
  clear hK2 hb
  go_wp2
  go_ret
  refine ⟨by rw [show a + (s2 ++ s3).length = K2 by rw [HE.out]; simp only [List.length_append, Nat.add_assoc]]; rfl, ?_⟩
  exact HB.out
theorem nd_append {s r : List Slot} {P : Nat → Prop} (h1 : ∀ q ∈ s, P q.1) (h2 : ∀ q ∈ r, ¬ P q.1) (n1 : (s.map key).Nodup) (n2 : (r.map key).Nodup) : ((s ++ r).map key).Nodup := by
  rw [List.map_append, List.nodup_append]
  refine ⟨n1, n2, fun a ha b hb he => ?_⟩
  obtain ⟨q, hq, rfl⟩ := List.mem_map.1 ha
  obtain ⟨q', hq', rfl⟩ := List.mem_map.1 hb
  exact h2 q' hq' ((Prod.mk.inj he).1 ▸ h1 q hq)
theorem rows_last {α : Type} {d : Kd α} {t : Ty} {cnt : α → Nat} (hF : Fits True d t cnt) {e base : Nat} {ok : Nat → Prop} {w : World} {xs : List α} {cs : List Value} (h : (sl e d).M w base ok xs cs) :
    ∃ v s, cs = [v] ∧ RowOf (Cel w t) t.sz v s ∧ (∀ q ∈ s, ok q.1 ∧ base ≤ q.1) ∧ (s.map key).Nodup ∧ s.length = (xs.map cnt).sum := by
  obtain ⟨v, c, rfl, hl, hS⟩ := h
  obtain ⟨s, h1, h2, h3, h4⟩ := S_slots hF hS c hl
  exact ⟨_, s, rfl, h1, h2, h3, h4⟩
theorem rows_step {α β : Type} {d : Kd α} {b : Kd β} {t : Ty} {cnt : α → Nat} (hF : Fits True d t cnt) {e base : Nat} {ok : Nat → Prop} {w : World} {x : List α × β} {cs : List Value} (h : (pr (sl e d) b).M w base ok x cs) :
    ∃ (v : Value) (s : List Slot) (cs' : List Value) (p : Nat → Prop), cs = v :: cs' ∧ RowOf (Cel w t) t.sz v s ∧ (∀ q ∈ s, (ok q.1 ∧ p q.1) ∧ base ≤ q.1) ∧ (s.map key).Nodup ∧ s.length = (x.1.map cnt).sum ∧ b.M w base (fun k => ok k ∧ ¬ p k) x.2 cs' := by
  obtain ⟨c0, c1, rfl, p, h0, h1⟩ := h
  obtain ⟨v, s, rfl, h2, h3, h4, h5⟩ := rows_last hF h0
  exact ⟨v, s, c1, p, rfl, h2, h3, h4, h5, h1⟩
abbrev S27 := OFnExactValueRead.S27
/-! Values of the call's own, nothing shared between them, at any depth. -/
theorem C_sl {α : Type} {d d' : Kd α} (hs : d.sz = d'.sz) (hK : ∀ w x cs, d.K w x cs → d'.K w x cs) (e : Nat) (w : World) (xs : List α) (cs : List Value) (h : (sl e d).K w xs cs) : (sl e d').K w xs cs := by
  obtain ⟨A, c, rfl, hl, hr⟩ := h
  exact ⟨A, c, rfl, hl, Kd.C_imp hs hK hr⟩
theorem M_sl {α : Type} {d d' : Kd α} (hs : d.sz = d'.sz) (hM : ∀ w base ok x cs, d.M w base ok x cs → d'.M w base ok x cs) (e : Nat) (w : World) (base : Nat) (ok : Nat → Prop) (xs : List α) (cs : List Value) (h : (sl e d).M w base ok xs cs) : (sl e d').M w base ok xs cs := by
  obtain ⟨v, c, rfl, hl, hr⟩ := h
  exact ⟨v, c, rfl, hl, S_imp hs hM hr⟩
def FV (d : Kd S27) : Kd S27 := Kd.iso (pr Kd.string (pr (Kd.int .i64) (pr (sl 27 d) (sl 3 (Kd.int .i64))))) (fun x => (x.f0, x.f1, x.f2, x.f3))
theorem FV_sz (d : Kd S27) : (FV d).sz = 4 := rfl
theorem FV_sub : Kd.Sub FV [3, 27] := fun d h q hq => by
  have hq : q ∈ (([] : List Nat) ++ (([] : List Nat) ++ ((27 :: d.E) ++ (3 :: ([] : List Nat))))) := hq
  simp only [List.nil_append, List.cons_append, List.mem_cons, List.mem_append, List.not_mem_nil, or_false] at hq ⊢
  rcases hq with rfl | hq | rfl
  · exact .inr rfl
  · have := h q hq
    simpa using this
  · exact .inl rfl
theorem FV_mono : Kd.Mono FV := by
  refine ⟨fun _ _ _ => rfl, ?_, ?_⟩
  · rintro d d' hs hK w x cs ⟨c0, c1, rfl, h0, c2, c3, rfl, h1, c4, c5, rfl, h2, h3⟩
    exact ⟨c0, _, rfl, h0, c2, _, rfl, h1, c4, c5, rfl, C_sl hs hK _ _ _ _ h2, h3⟩
  · rintro d d' hs hM w base ok x cs ⟨c0, c1, rfl, p, h0, c2, c3, rfl, p1, h1, c4, c5, rfl, p2, h2, h3⟩
    exact ⟨c0, _, rfl, p, h0, c2, _, rfl, p1, h1, c4, c5, rfl, p2, M_sl hs hM _ _ _ _ _ _ h2, h3⟩
abbrev uptoV (n : Nat) : Kd S27 := Kd.upto FV 4 [3, 27] n
abbrev kValD : Kd S27 := Kd.fix FV 4 [3, 27] (Kd.upto_sz FV_sz) (Kd.upto_E FV_sub)
theorem kValD_back {e : Nat} {w : World} {base : Nat} {ok : Nat → Prop} {v : Value} {xs : List S27} (h : Kd.S kValD e w base ok v xs) : ∃ n, Kd.S (uptoV n) e w base ok v xs := by
  obtain ⟨f, h0, inner, ho, hr⟩ := h
  obtain ⟨N, hN⟩ := Kd.reps_bounded (R := fun n p c => (Kd.tag f (uptoV n)).M w base (fun k => ok k ∧ some k ≠ v.ownBlock) p c) (fun n m p c hnm hp => Kd.upto_M_le FV_mono (Kd.upto_sz FV_sz) hnm hp) hr
  refine ⟨N, f, h0, inner, ?_, ?_⟩
  · have e1 : (Kd.tag f (uptoV N)).sz = 4 := Kd.upto_sz FV_sz N
    rw [e1]; exact ho
  · have e1 : (Kd.tag f (uptoV N)).sz = 4 := Kd.upto_sz FV_sz N
    rw [e1]; exact hN
/-- A value without a path, of parts that are apart. -/
theorem kValD_mkM {w : World} {base : Nat} {ok : Nat → Prop} (x : S27) {v : Value} {c : Nat} (hp : x.f3 = []) (hl : x.f2.length ≤ c) (h : Kd.S kValD 27 w base ok v x.f2) {c3 : Nat} : kValD.M w base ok x [.string x.f0, .int .i64 x.f1, cutV v c, .slice none 0 0] := by
  obtain ⟨n, hn⟩ := kValD_back h
  refine ⟨n + 1, [.string x.f0], _, rfl, fun _ => False, rfl, [.int .i64 x.f1], _, rfl, fun _ => False, rfl, [cutV v c], [.slice none 0 0], rfl, fun _ => True, ⟨v, c, rfl, hl, Kd.S_mono hn (fun k hk => ⟨⟨⟨hk, fun e => e⟩, fun e => e⟩, trivial⟩)⟩, ⟨.slice none 0 0, 0, rfl, ?_, ?_⟩⟩
  · show x.f3.length ≤ 0
    rw [hp]; exact Nat.le_refl _
  · show Kd.S (Kd.int .i64) _ _ _ _ _ x.f3
    rw [hp]; exact Kd.S_nil _ _ _ _ _
def cntV : Nat → S27 → Nat
  | 0, _ => 0
  | n + 1, x => 1 + (1 + ((x.f2.map (cntV n)).sum + (x.f3.map fun _ => 1).sum))
theorem fits_upV : ∀ n, Fits True (uptoV n) (tyV n) (cntV n)
  | 0 => ⟨rfl, fun w base ok x cs g o hM _ => hM.elim⟩
  | n + 1 => (fits_str_pr (fits_int_pr (fits_row_pr (fits_upV n) (fits_row fits_int)))).iso _
/-- A value that is the call's own: its text, its number, the cells of its rows. -/
def ValOwn (w : World) (base : Nat) (x : S27) (v2 v3 : Value) : Prop := kValD.M w base (fun k => base ≤ k) x [.string x.f0, .int .i64 x.f1, v2, v3]
theorem ValOwn.zero (w : World) (base : Nat) (t : ByteArray) (n : Int) : ValOwn w base ⟨t, n, [], []⟩ (.slice none 0 0) (.slice none 0 0) :=
  kValD_mkM (⟨t, n, [], []⟩ : S27) (v := .slice none 0 0) (c := 0) (c3 := 0) rfl (Nat.le_refl _) (Kd.S_nil _ _ _ _ _)
theorem ValOwn.mk {w : World} {base : Nat} (x : S27) {A : Option Addr} {c : Nat} (hp : x.f3 = []) (h : Kd.S kValD 27 w base (fun k => base ≤ k) (.slice A x.f2.length c) x.f2) : ValOwn w base x (.slice A x.f2.length c) (.slice none 0 0) :=
  kValD_mkM x (v := .slice A x.f2.length c) (c := c) (c3 := 0) hp (Kd.S_reads' h).2.1 h
theorem ValOwn.step {w w1 : World} {base : Nat} {x : S27} {v2 v3 : Value} (h : ValOwn w base x v2 v3) (hm : ∀ k, base ≤ k → k < w.heap.size → w1.heap[k]? = w.heap[k]?) : ValOwn w1 base x v2 v3 := Kd.M_step (d := kValD) h hm
theorem ValOwn.lower {w : World} {base b' : Nat} {x : S27} {v2 v3 : Value} (h : ValOwn w base x v2 v3) (hb : b' ≤ base) : ValOwn w b' x v2 v3 := kValD.M_mono (fun k hk => Nat.le_trans hb hk) (kValD.M_lower hb h)
theorem K_upV : ∀ n {w : World} {x : S27} {cs : List Value}, (uptoV n).K w x cs → (Kd.upto OFnExactValueRead.F27 4 [3, 27] n).K w x cs
  | 0, _, _, _, h => h.elim
  | n + 1, w, x, cs, h => by
    obtain ⟨c0, c1, rfl, h0, c2, c3, rfl, h1, c4, c5, rfl, ⟨A, c, rfl, hl, h2⟩, h3⟩ := h
    exact ⟨c0, _, rfl, h0, c2, _, rfl, h1, [_], c5, rfl, ⟨A, c, rfl, hl, Kd.C_imp ((Kd.upto_sz FV_sz n).trans (OFnExactValueRead.sz27 n).symm) (fun _ _ _ hk => K_upV n hk) h2⟩, h3⟩
theorem ValOwn.reads {w : World} {base : Nat} {x : S27} {v2 v3 : Value} (h : ValOwn w base x v2 v3) : ∃ A2 c2 A3 c3, v2 = .slice A2 x.f2.length c2 ∧ v3 = .slice A3 x.f3.length c3 ∧ x.f2.length ≤ c2 ∧ Kd.C OFnExactValueRead.k27 w A2 x.f2.length x.f2 ∧ x.f3.length ≤ c3 ∧ Kd.C (Kd.int .i64) w A3 x.f3.length x.f3 := by
  obtain ⟨n, hn⟩ := kValD.K_of_M h
  have hk : OFnExactValueRead.k27.K w x [.string x.f0, .int .i64 x.f1, v2, v3] := ⟨n, K_upV n hn⟩
  obtain ⟨A2, c2, A3, c3, e, l2, g2, l3, g3⟩ := OFnExactValueRead.k27_open hk
  injection e with _ e
  injection e with _ e
  injection e with e2 e
  injection e with e3 e
  exact ⟨A2, c2, A3, c3, e2, e3, l2, g2, l3, g3⟩
theorem ValOwn.slots {w : World} {base : Nat} {x : S27} {v2 v3 : Value} (h : ValOwn w base x v2 v3) :
    ∃ lv s2 s3, RowOf (Cel w (tyV lv)) 4 v2 s2 ∧ RowOf (Cel w tyInt) 1 v3 s3 ∧ (∀ q ∈ s2 ++ s3, base ≤ q.1) ∧ ((s2 ++ s3).map key).Nodup ∧ (s2 ++ s3).length = (x.f2.map (cntV lv)).sum + (x.f3.map fun _ => 1).sum := by
  obtain ⟨n, h⟩ := h
  cases n with
  | zero => exact h.elim
  | succ n =>
    obtain ⟨c0, c1, e0, p, h0, c2, c3, rfl, p1, h1, h2⟩ := h
    obtain rfl : c0 = [.string x.f0] := h0
    obtain rfl : c2 = [.int .i64 x.f1] := h1
    obtain ⟨w2, s2, cs', p2, rfl, a2, b2, n2, l2, h3⟩ := rows_step (fits_upV n) h2
    obtain ⟨w3, s3, rfl, a3, b3, n3, l3⟩ := rows_last fits_int h3
    injection e0 with _ e0
    injection e0 with _ e0
    injection e0 with q2 e0
    injection e0 with q3 e0
    subst q2 q3
    refine ⟨n, s2, s3, by rwa [tyV_sz] at a2, a3, fun q hq => ?_, nd_append (P := p2) (fun q hq => (b2 q hq).1.2) (fun q hq => (b3 q hq).1.2) n2 n3, by rw [List.length_append, l2, l3]⟩
    rcases List.mem_append.1 hq with hq | hq
    · exact (b2 q hq).2
    · exact (b3 q hq).2
section
open OFnExactValueRead
theorem Sf4 {α : Type} {d : Kd α} {W : World} {g e base : Nat} {ok : Nat → Prop} {v : Value} {xs : List α} {u0 u1 u2 u3 : Value} (h : Kd.S d e W base ok v xs) (hn : ∀ k, ok k → k ≠ g) : Kd.S d e ((((W.setCell ⟨g, 0, none⟩ u0).setCell ⟨g, 1, none⟩ u1).setCell ⟨g, 2, none⟩ u2).setCell ⟨g, 3, none⟩ u3) base (fun k => ok k ∧ k ≠ g) v xs :=
  Kd.S_mono (Kd.S_far (p := ⟨g, 3, none⟩) (Kd.S_far (p := ⟨g, 2, none⟩) (Kd.S_far (p := ⟨g, 1, none⟩) (Kd.S_far (p := ⟨g, 0, none⟩) h hn u0) hn u1) hn u2) hn u3) (fun k hk => ⟨hk, hn k hk⟩)
theorem splitS {W w1 : World} {g base e : Nat} {ok okx : Nat → Prop} {v v' : Value} {xs ys : List S27} (hk : KeepBut W w1 g none) (hv : Kd.S kValD e W base (fun k => ok k ∧ k ≠ g) v xs) (hx : Kd.S kValD e w1 W.heap.size okx v' ys) (hb : base ≤ W.heap.size) :
    ∃ T, T = W.heap.size ∧ Kd.S kValD e w1 base (fun k => ok k ∧ k < T) v xs ∧ Kd.S kValD e w1 base (fun k => T ≤ k) v' ys ∧ T ≤ w1.heap.size :=
  ⟨W.heap.size, rfl, Kd.S_oldK hv hk, Kd.S_lower (Kd.S_mono (Kd.S_bound hx) (fun k h => h.2.1)) hb, keep_size hk⟩
theorem C_val {w : World} {e base : Nat} {ok : Nat → Prop} {A : Option Addr} {n c : Nat} {xs : List S27} (h : Kd.S kValD e w base ok (.slice A n c) xs) : n = xs.length ∧ n ≤ c ∧ Kd.C OFnExactValueRead.k27 w A xs.length xs := by
  obtain ⟨h1, h2, h3⟩ := Kd.S_reads' h
  obtain ⟨N, hN⟩ := Kd.fix_C_back FV_mono h3
  exact ⟨h1, h2, Kd.fix_C (Kd.C_imp ((Kd.upto_sz FV_sz N).trans (OFnExactValueRead.sz27 N).symm) (fun _ _ _ hk => K_upV N hk) hN)⟩
set_option maxHeartbeats 16000000 in
set_option maxRecDepth 100000 in
theorem value_own (k : Nat) : ∀ (g : Nat) (s0_0 : List (List (S113))) (s0_1 : ByteArray) (s0_2 : Int) (r1 : ByteArray) (r2 : Int) (r3 : List (S27)) (r4 : List Int) (r5 : Bool) (r6 : ByteArray) (r7 : Int) (w0 w : World) (hI : IsS105 w0 w g s0_0 s0_1 s0_2) (hB : Below w0.heap.size w0 w) (h : impl_valueReader_value.f k s0_0 s0_1 s0_2 = some (r1,r2,r3,r4,r5,r6,r7)),
  Calls Try.prog 78 #[.pointer (some ⟨g,0,none⟩)] w fun e w' => ∃ v2_ v3_ : Value,e = .returned (.tuple #[.agg #[.string r1,.int .i64 r2,v2_,v3_],.bool r5]) ∧ Kd.S kValD 27 w' w.heap.size (fun k_ => some k_ ≠ (v3_ : Value).ownBlock) v2_ r3 ∧ Kd.R (Kd.int .i64) 3 w' w.heap.size (fun _ => True) v3_ r4 ∧ IsS105 w0 w' g s0_0 r6 r7 ∧ Below w0.heap.size w0 w' ∧ KeepBut w w' g none ∧ (v3_ = .slice none 0 0 ∧ r4 = []):=by
 induction k using Nat.strongRecOn with
 | _ k ih =>
 intro g s0_0 s0_1 s0_2 r1 r2 r3 r4 r5 r6 r7 w0 w hI hB h;cases k with
 | zero => exact absurd h (by simp [impl_valueReader_value.f])
 | succ k =>
 (simp only [impl_valueReader_value.f] at h);have hu27:=Try.underlying27;have HI0:=Aside0.mk hI;have HK:=Aside0.mk (KeepBut.refl w g none);have HL:=Aside0.mk hB.size;clear hI;have HW0:=Aside0.mk hB.size;have HB:=Aside0.mk hB;clear hB;have H : ((impl_valueReader_sees.f s0_0 s0_1 s0_2 (⟨#[45]⟩ : ByteArray)).bind fun bt361 => (if bt361.1 = true then (some ((⟨#[98]⟩ : ByteArray),0,([] : List (S27)),([] : List Int),true,bt361.2.1,bt361.2.2)) else ((impl_valueReader_sees.f s0_0 bt361.2.1 bt361.2.2 (⟨#[43]⟩ : ByteArray)).bind fun bt364 => (if bt364.1 = true then (some ((⟨#[98]⟩ : ByteArray),1,([] : List (S27)),([] : List Int),true,bt364.2.1,bt364.2.2)) else ((impl_valueReader_sees.f s0_0 bt364.2.1 bt364.2.2 (⟨#[64]⟩ : ByteArray)).bind fun bt367 => (if bt367.1 = true then ((impl_valueReader_number.f k s0_0 bt367.2.1 bt367.2.2).bind fun bt370 => (some ((⟨#[111]⟩ : ByteArray),bt370.1,([] : List (S27)),([] : List Int),bt370.2.1,bt370.2.2.1,bt370.2.2.2))) else (if (wrap64 (bt367.2.2 + 3)) < (bt367.2.1.size : Int) then (if 0 ≤ bt367.2.2 then (if bt367.2.2 ≤ (wrap64 (bt367.2.2 + 3)) then (if (wrap64 (bt367.2.2 + 3)) ≤ (bt367.2.1.size : Int) then ((impl_kindIn.f s0_0 (bt367.2.1.extract (bt367.2.2 : Int).toNat ((wrap64 (bt367.2.2 + 3)) : Int).toNat)).bind fun t374 => (impl_valueReader_value.j0 k t374 s0_0 bt367.2.1 bt367.2.2)) else (none)) else (none)) else (none)) else (impl_valueReader_value.j0 k false s0_0 bt367.2.1 bt367.2.2)))))))) = some (r1,r2,r3,r4,r5,r6,r7):=h;clear h;replace H:=Up.bd H;obtain ⟨⟨t361,t362,t363⟩,A2,H⟩:=H;(try dsimp only at H);by_cases c3 : t361 = true
 ·subst c3;(rw [if_pos rfl] at H);(simp only [Option.some.injEq,Prod.mk.injEq] at H);obtain ⟨rfl,rfl,rfl,rfl,rfl,rfl,rfl⟩:=H;go_enter Try.func78,Try.ntmps78;go_wp2_with (first | ((with_reducible refine gate_dst (N:=2) rfl ?_);refine Up.bx 2 27 #[.string (⟨#[]⟩ : ByteArray),.int .i64 0,.slice none 0 0,.slice none 0 0] ?_;intro gb360 hg w4 hbox hb;replace HB:=Aside0.mk (below_step (Up.Bs HB (IsS105.ge HI0.out)) hb);have BK360:=Aside0.mk (hbox);have GW360:=Aside0.mk ((by rw [hg];exact (keep_size (w:=w) (g:=g) (row:=none) (Up.Kp0 HK)) : w.heap.size ≤ gb360));have GE360:=Aside0.mk ((Nat.le_trans HW0.out (by rw [hg];exact (keep_size (w:=w) (g:=g) (row:=none) (Up.Kp0 HK)) : w.heap.size ≤ gb360) : w0.heap.size ≤ gb360));replace HK:=Aside0.mk (KeepBut.trans (Up.Kp0 HK) (KeepBut.of_below hb g none) (.inl rfl));have NB0_360:=Aside0.mk ((by rw [hg];exact Nat.ne_of_lt (IsS105.lt (show IsS105 w0 _ g s0_0 s0_1 s0_2 from Jp105 HI0)) : g ≠ gb360));have NB360_0:=Aside0.mk ((by rw [hg];exact Nat.ne_of_gt (IsS105.lt (show IsS105 w0 _ g s0_0 s0_1 s0_2 from Jp105 HI0)) : gb360 ≠ g));replace HI0:=Aside0.mk (IsS105.below (Jp105 HI0) hb);clear hb hbox hg) | ((with_reducible refine gate_callee (f:=110) rfl ?_);refine Up.gl (some 14) Try.func110 #[.pointer (some ⟨g,0,none⟩),.string (⟨#[45]⟩ : ByteArray)] ?_;(with_reducible refine (impl_valueReader_sees.calls g s0_0 s0_1 s0_2 (⟨#[45]⟩ : ByteArray) true t362 t363 w0 _ ?side1 ?side2 A2.out).mono ?_);(case side1 => exact Jp105 HI0);(case side2 => exact Up.By HB (IsS105.ge HI0.out));rintro e w5 ⟨rfl,hi,hb,hk⟩;refine ⟨_,rfl,?_⟩;replace BK360:=Up.kb hk BK360 NB360_0;replace HK:=Aside0.mk (KeepBut.trans (Up.Kp HK GW360) hk (.inl rfl));replace HB:=Aside0.mk (hb);replace HI0:=Aside0.mk (hi);(try clear hb);(try clear hb2);(try clear hk);(try clear hi);have hnb6:=NB360_0.out;have hnc6:=NB0_360.out;obtain ⟨hcz7_0,hcz7_1,hcz7_2,hcz7_3,hfz7_0,hfz7_1,hfz7_2,hfz7_3⟩:=Up.d4 BK360));refine bodyPost_ret (results_ct rfl _ _ gb360 27 #[.string (⟨#[98]⟩ : ByteArray),.int .i64 0,.slice none 0 0,.slice none 0 0] (0,0) _ rfl (Up.Kx BK360) Try.underlying27 rfl (by kernel_rfl)) rfl ?_;exact ⟨_,_,by first | rfl | (simp [errW_none,errW_some] <;> rfl) | (simp [*,errW_none,errW_some] <;> rfl),by first | exact Kd.R_nil _ _ _ _ _ | exact Kd.N_nil _ _ _ _ _ | exact Kd.V_nil _ _ _ _ _ | exact Kd.Q_nil _ _ _ _ _ | exact Kd.S_nil _ _ _ _ _,by first | exact Kd.R_nil _ _ _ _ _ | exact Kd.N_nil _ _ _ _ _ | exact Kd.V_nil _ _ _ _ _ | exact Kd.Q_nil _ _ _ _ _ | exact Kd.S_nil _ _ _ _ _,Jp105 HI0,Up.By HB (IsS105.ge HI0.out),Up.Kz HK,by first | exact ⟨rfl,rfl⟩ | exact ⟨rfl,trivial⟩ | exact HP9.out | trivial⟩
 ·replace c3:=Bool.eq_false_iff.mpr c3;subst c3;(rw [if_neg (show ¬ (false = true) by decide)] at H);replace H:=Up.bd H;obtain ⟨⟨t364,t365,t366⟩,A8,H⟩:=H;(try dsimp only at H);by_cases c9 : t364 = true
  ·subst c9;(rw [if_pos rfl] at H);(simp only [Option.some.injEq,Prod.mk.injEq] at H);obtain ⟨rfl,rfl,rfl,rfl,rfl,rfl,rfl⟩:=H;go_enter Try.func78,Try.ntmps78;go_wp2_with (first | ((with_reducible refine gate_dst (N:=2) rfl ?_);refine Up.bx 2 27 #[.string (⟨#[]⟩ : ByteArray),.int .i64 0,.slice none 0 0,.slice none 0 0] ?_;intro gb360 hg w10 hbox hb;replace HB:=Aside0.mk (below_step (Up.Bs HB (IsS105.ge HI0.out)) hb);have BK360:=Aside0.mk (hbox);have GW360:=Aside0.mk ((by rw [hg];exact (keep_size (w:=w) (g:=g) (row:=none) (Up.Kp0 HK)) : w.heap.size ≤ gb360));have GE360:=Aside0.mk ((Nat.le_trans HW0.out (by rw [hg];exact (keep_size (w:=w) (g:=g) (row:=none) (Up.Kp0 HK)) : w.heap.size ≤ gb360) : w0.heap.size ≤ gb360));replace HK:=Aside0.mk (KeepBut.trans (Up.Kp0 HK) (KeepBut.of_below hb g none) (.inl rfl));have NB0_360:=Aside0.mk ((by rw [hg];exact Nat.ne_of_lt (IsS105.lt (show IsS105 w0 _ g s0_0 s0_1 s0_2 from Jp105 HI0)) : g ≠ gb360));have NB360_0:=Aside0.mk ((by rw [hg];exact Nat.ne_of_gt (IsS105.lt (show IsS105 w0 _ g s0_0 s0_1 s0_2 from Jp105 HI0)) : gb360 ≠ g));replace HI0:=Aside0.mk (IsS105.below (Jp105 HI0) hb);clear hb hbox hg) | ((with_reducible refine gate_callee (f:=110) rfl ?_);refine Up.gl (some 14) Try.func110 #[.pointer (some ⟨g,0,none⟩),.string (⟨#[45]⟩ : ByteArray)] ?_;(with_reducible refine (impl_valueReader_sees.calls g s0_0 s0_1 s0_2 (⟨#[45]⟩ : ByteArray) false t362 t363 w0 _ ?side1 ?side2 A2.out).mono ?_);(case side1 => exact Jp105 HI0);(case side2 => exact Up.By HB (IsS105.ge HI0.out));rintro e w11 ⟨rfl,hi,hb,hk⟩;refine ⟨_,rfl,?_⟩;replace BK360:=Up.kb hk BK360 NB360_0;replace HK:=Aside0.mk (KeepBut.trans (Up.Kp HK GW360) hk (.inl rfl));replace HB:=Aside0.mk (hb);replace HI0:=Aside0.mk (hi);(try clear hb);(try clear hb2);(try clear hk);(try clear hi)) | ((with_reducible refine gate_callee (f:=110) rfl ?_);refine Up.gl (some 18) Try.func110 #[.pointer (some ⟨g,0,none⟩),.string (⟨#[43]⟩ : ByteArray)] ?_;(with_reducible refine (impl_valueReader_sees.calls g s0_0 t362 t363 (⟨#[43]⟩ : ByteArray) true t365 t366 w0 _ ?side1 ?side2 A8.out).mono ?_);(case side1 => exact Jp105 HI0);(case side2 => exact Up.By HB (IsS105.ge HI0.out));rintro e w12 ⟨rfl,hi,hb,hk⟩;refine ⟨_,rfl,?_⟩;replace BK360:=Up.kb hk BK360 NB360_0;replace HK:=Aside0.mk (KeepBut.trans (Up.Kp HK GW360) hk (.inl rfl));replace HB:=Aside0.mk (hb);replace HI0:=Aside0.mk (hi);(try clear hb);(try clear hb2);(try clear hk);(try clear hi);have hnb13:=NB360_0.out;have hnc13:=NB0_360.out;obtain ⟨hcz14_0,hcz14_1,hcz14_2,hcz14_3,hfz14_0,hfz14_1,hfz14_2,hfz14_3⟩:=Up.d4 BK360));refine bodyPost_ret (results_ct rfl _ _ gb360 27 #[.string (⟨#[98]⟩ : ByteArray),.int .i64 1,.slice none 0 0,.slice none 0 0] (0,0) _ rfl (Up.Kx BK360) Try.underlying27 rfl (by kernel_rfl)) rfl ?_;exact ⟨_,_,by first | rfl | (simp [errW_none,errW_some] <;> rfl) | (simp [*,errW_none,errW_some] <;> rfl),by first | exact Kd.R_nil _ _ _ _ _ | exact Kd.N_nil _ _ _ _ _ | exact Kd.V_nil _ _ _ _ _ | exact Kd.Q_nil _ _ _ _ _ | exact Kd.S_nil _ _ _ _ _,by first | exact Kd.R_nil _ _ _ _ _ | exact Kd.N_nil _ _ _ _ _ | exact Kd.V_nil _ _ _ _ _ | exact Kd.Q_nil _ _ _ _ _ | exact Kd.S_nil _ _ _ _ _,Jp105 HI0,Up.By HB (IsS105.ge HI0.out),Up.Kz HK,by first | exact ⟨rfl,rfl⟩ | exact ⟨rfl,trivial⟩ | exact HP9.out | trivial⟩
  ·replace c9:=Bool.eq_false_iff.mpr c9;subst c9;(rw [if_neg (show ¬ (false = true) by decide)] at H);replace H:=Up.bd H;obtain ⟨⟨t367,t368,t369⟩,A15,H⟩:=H;(try dsimp only at H);by_cases c16 : t367 = true
   ·subst c16;(rw [if_pos rfl] at H);replace H:=Up.bd H;obtain ⟨⟨t370,t371,t372,t373⟩,A17,H⟩:=H;(try dsimp only at H);(simp only [Option.some.injEq,Prod.mk.injEq] at H);obtain ⟨rfl,rfl,rfl,rfl,rfl,rfl,rfl⟩:=H;go_enter Try.func78,Try.ntmps78;go_wp2_with (first | ((with_reducible refine gate_dst (N:=2) rfl ?_);refine Up.bx 2 27 #[.string (⟨#[]⟩ : ByteArray),.int .i64 0,.slice none 0 0,.slice none 0 0] ?_;intro gb360 hg w18 hbox hb;replace HB:=Aside0.mk (below_step (Up.Bs HB (IsS105.ge HI0.out)) hb);have BK360:=Aside0.mk (hbox);have GW360:=Aside0.mk ((by rw [hg];exact (keep_size (w:=w) (g:=g) (row:=none) (Up.Kp0 HK)) : w.heap.size ≤ gb360));have GE360:=Aside0.mk ((Nat.le_trans HW0.out (by rw [hg];exact (keep_size (w:=w) (g:=g) (row:=none) (Up.Kp0 HK)) : w.heap.size ≤ gb360) : w0.heap.size ≤ gb360));replace HK:=Aside0.mk (KeepBut.trans (Up.Kp0 HK) (KeepBut.of_below hb g none) (.inl rfl));have NB0_360:=Aside0.mk ((by rw [hg];exact Nat.ne_of_lt (IsS105.lt (show IsS105 w0 _ g s0_0 s0_1 s0_2 from Jp105 HI0)) : g ≠ gb360));have NB360_0:=Aside0.mk ((by rw [hg];exact Nat.ne_of_gt (IsS105.lt (show IsS105 w0 _ g s0_0 s0_1 s0_2 from Jp105 HI0)) : gb360 ≠ g));replace HI0:=Aside0.mk (IsS105.below (Jp105 HI0) hb);clear hb hbox hg) | ((with_reducible refine gate_callee (f:=110) rfl ?_);refine Up.gl (some 14) Try.func110 #[.pointer (some ⟨g,0,none⟩),.string (⟨#[45]⟩ : ByteArray)] ?_;(with_reducible refine (impl_valueReader_sees.calls g s0_0 s0_1 s0_2 (⟨#[45]⟩ : ByteArray) false t362 t363 w0 _ ?side1 ?side2 A2.out).mono ?_);(case side1 => exact Jp105 HI0);(case side2 => exact Up.By HB (IsS105.ge HI0.out));rintro e w19 ⟨rfl,hi,hb,hk⟩;refine ⟨_,rfl,?_⟩;replace BK360:=Up.kb hk BK360 NB360_0;replace HK:=Aside0.mk (KeepBut.trans (Up.Kp HK GW360) hk (.inl rfl));replace HB:=Aside0.mk (hb);replace HI0:=Aside0.mk (hi);(try clear hb);(try clear hb2);(try clear hk);(try clear hi)) | ((with_reducible refine gate_callee (f:=110) rfl ?_);refine Up.gl (some 18) Try.func110 #[.pointer (some ⟨g,0,none⟩),.string (⟨#[43]⟩ : ByteArray)] ?_;(with_reducible refine (impl_valueReader_sees.calls g s0_0 t362 t363 (⟨#[43]⟩ : ByteArray) false t365 t366 w0 _ ?side1 ?side2 A8.out).mono ?_);(case side1 => exact Jp105 HI0);(case side2 => exact Up.By HB (IsS105.ge HI0.out));rintro e w20 ⟨rfl,hi,hb,hk⟩;refine ⟨_,rfl,?_⟩;replace BK360:=Up.kb hk BK360 NB360_0;replace HK:=Aside0.mk (KeepBut.trans (Up.Kp HK GW360) hk (.inl rfl));replace HB:=Aside0.mk (hb);replace HI0:=Aside0.mk (hi);(try clear hb);(try clear hb2);(try clear hk);(try clear hi)) | ((with_reducible refine gate_callee (f:=110) rfl ?_);refine Up.gl (some 22) Try.func110 #[.pointer (some ⟨g,0,none⟩),.string (⟨#[64]⟩ : ByteArray)] ?_;(with_reducible refine (impl_valueReader_sees.calls g s0_0 t365 t366 (⟨#[64]⟩ : ByteArray) true t368 t369 w0 _ ?side1 ?side2 A15.out).mono ?_);(case side1 => exact Jp105 HI0);(case side2 => exact Up.By HB (IsS105.ge HI0.out));rintro e w21 ⟨rfl,hi,hb,hk⟩;refine ⟨_,rfl,?_⟩;replace BK360:=Up.kb hk BK360 NB360_0;replace HK:=Aside0.mk (KeepBut.trans (Up.Kp HK GW360) hk (.inl rfl));replace HB:=Aside0.mk (hb);replace HI0:=Aside0.mk (hi);(try clear hb);(try clear hb2);(try clear hk);(try clear hi)) | ((with_reducible refine gate_callee (f:=111) rfl ?_);refine Up.gl (some 25) Try.func111 #[.pointer (some ⟨g,0,none⟩)] ?_;(with_reducible refine (impl_valueReader_number.calls k g s0_0 t368 t369 t370 t371 t372 t373 w0 _ ?side1 ?side2 A17.out).mono ?_);(case side1 => exact Jp105 HI0);(case side2 => exact Up.By HB (IsS105.ge HI0.out));rintro e w22 ⟨rfl,hi,hb,hk⟩;refine ⟨_,rfl,?_⟩;replace BK360:=Up.kb hk BK360 NB360_0;replace HK:=Aside0.mk (KeepBut.trans (Up.Kp HK GW360) hk (.inl rfl));replace HB:=Aside0.mk (hb);replace HI0:=Aside0.mk (hi);(try clear hb);(try clear hb2);(try clear hk);(try clear hi);have hnb23:=NB360_0.out;have hnc23:=NB0_360.out;obtain ⟨hcz24_0,hcz24_1,hcz24_2,hcz24_3,hfz24_0,hfz24_1,hfz24_2,hfz24_3⟩:=Up.d4 BK360));refine bodyPost_ret (results_ct rfl _ _ gb360 27 #[.string (⟨#[111]⟩ : ByteArray),.int .i64 t370,.slice none 0 0,.slice none 0 0] (0,0) _ rfl (Up.Kx BK360) Try.underlying27 rfl (by kernel_rfl)) rfl ?_;exact ⟨_,_,by first | rfl | (simp [errW_none,errW_some] <;> rfl) | (simp [*,errW_none,errW_some] <;> rfl),by first | exact Kd.R_nil _ _ _ _ _ | exact Kd.N_nil _ _ _ _ _ | exact Kd.V_nil _ _ _ _ _ | exact Kd.Q_nil _ _ _ _ _ | exact Kd.S_nil _ _ _ _ _,by first | exact Kd.R_nil _ _ _ _ _ | exact Kd.N_nil _ _ _ _ _ | exact Kd.V_nil _ _ _ _ _ | exact Kd.Q_nil _ _ _ _ _ | exact Kd.S_nil _ _ _ _ _,Jp105 HI0,Up.By HB (IsS105.ge HI0.out),Up.Kz HK,by first | exact ⟨rfl,rfl⟩ | exact ⟨rfl,trivial⟩ | exact HP9.out | trivial⟩
   ·replace c16:=Bool.eq_false_iff.mpr c16;subst c16;(rw [if_neg (show ¬ (false = true) by decide)] at H);have HC25:=Aside0.mk H;clear H;go_enter Try.func78,Try.ntmps78;go_upto_region 8 with (first | ((with_reducible refine gate_dst (N:=2) rfl ?_);refine Up.bx 2 27 #[.string (⟨#[]⟩ : ByteArray),.int .i64 0,.slice none 0 0,.slice none 0 0] ?_;intro gb360 hg w26 hbox hb;replace HB:=Aside0.mk (below_step (Up.Bs HB (IsS105.ge HI0.out)) hb);have BK360:=Aside0.mk (hbox);have GW360:=Aside0.mk ((by rw [hg];exact (keep_size (w:=w) (g:=g) (row:=none) (Up.Kp0 HK)) : w.heap.size ≤ gb360));have GE360:=Aside0.mk ((Nat.le_trans HW0.out (by rw [hg];exact (keep_size (w:=w) (g:=g) (row:=none) (Up.Kp0 HK)) : w.heap.size ≤ gb360) : w0.heap.size ≤ gb360));replace HK:=Aside0.mk (KeepBut.trans (Up.Kp0 HK) (KeepBut.of_below hb g none) (.inl rfl));have NB0_360:=Aside0.mk ((by rw [hg];exact Nat.ne_of_lt (IsS105.lt (show IsS105 w0 _ g s0_0 s0_1 s0_2 from Jp105 HI0)) : g ≠ gb360));have NB360_0:=Aside0.mk ((by rw [hg];exact Nat.ne_of_gt (IsS105.lt (show IsS105 w0 _ g s0_0 s0_1 s0_2 from Jp105 HI0)) : gb360 ≠ g));replace HI0:=Aside0.mk (IsS105.below (Jp105 HI0) hb);clear hb hbox hg) | ((with_reducible refine gate_callee (f:=110) rfl ?_);refine Up.gl (some 14) Try.func110 #[.pointer (some ⟨g,0,none⟩),.string (⟨#[45]⟩ : ByteArray)] ?_;(with_reducible refine (impl_valueReader_sees.calls g s0_0 s0_1 s0_2 (⟨#[45]⟩ : ByteArray) false t362 t363 w0 _ ?side1 ?side2 A2.out).mono ?_);(case side1 => exact Jp105 HI0);(case side2 => exact Up.By HB (IsS105.ge HI0.out));rintro e w27 ⟨rfl,hi,hb,hk⟩;refine ⟨_,rfl,?_⟩;replace BK360:=Up.kb hk BK360 NB360_0;replace HK:=Aside0.mk (KeepBut.trans (Up.Kp HK GW360) hk (.inl rfl));replace HB:=Aside0.mk (hb);replace HI0:=Aside0.mk (hi);(try clear hb);(try clear hb2);(try clear hk);(try clear hi)) | ((with_reducible refine gate_callee (f:=110) rfl ?_);refine Up.gl (some 18) Try.func110 #[.pointer (some ⟨g,0,none⟩),.string (⟨#[43]⟩ : ByteArray)] ?_;(with_reducible refine (impl_valueReader_sees.calls g s0_0 t362 t363 (⟨#[43]⟩ : ByteArray) false t365 t366 w0 _ ?side1 ?side2 A8.out).mono ?_);(case side1 => exact Jp105 HI0);(case side2 => exact Up.By HB (IsS105.ge HI0.out));rintro e w28 ⟨rfl,hi,hb,hk⟩;refine ⟨_,rfl,?_⟩;replace BK360:=Up.kb hk BK360 NB360_0;replace HK:=Aside0.mk (KeepBut.trans (Up.Kp HK GW360) hk (.inl rfl));replace HB:=Aside0.mk (hb);replace HI0:=Aside0.mk (hi);(try clear hb);(try clear hb2);(try clear hk);(try clear hi)) | ((with_reducible refine gate_callee (f:=110) rfl ?_);refine Up.gl (some 22) Try.func110 #[.pointer (some ⟨g,0,none⟩),.string (⟨#[64]⟩ : ByteArray)] ?_;(with_reducible refine (impl_valueReader_sees.calls g s0_0 t365 t366 (⟨#[64]⟩ : ByteArray) false t368 t369 w0 _ ?side1 ?side2 A15.out).mono ?_);(case side1 => exact Jp105 HI0);(case side2 => exact Up.By HB (IsS105.ge HI0.out));rintro e w29 ⟨rfl,hi,hb,hk⟩;refine ⟨_,rfl,?_⟩;replace BK360:=Up.kb hk BK360 NB360_0;replace HK:=Aside0.mk (KeepBut.trans (Up.Kp HK GW360) hk (.inl rfl));replace HB:=Aside0.mk (hb);replace HI0:=Aside0.mk (hi);(try clear hb);(try clear hb2);(try clear hk);(try clear hi)));(try simp only [Act.put,List.setIfInBounds_toArray,List.set_cons_zero,List.set_cons_succ]);go_cut [31] (fun v31 wc => ∃ (kq : Nat) (x31_24 : Bool),v31 = .bool x31_24 ∧ Aside0 (impl_valueReader_value.j0 kq x31_24 s0_0 t368 t369 = some (r1,r2,r3,r4,r5,r6,r7)) ∧ Aside0 (kq ≤ k) ∧ Aside0 (wc.heap[gb360]? = some (.cells #[.string (⟨#[]⟩ : ByteArray),.int .i64 0,(.slice none 0 0),(.slice none 0 0)] 27 (0,0))) ∧ Aside0 (IsS105 w0 wc g s0_0 t368 t369) ∧ Aside0 (KeepBut w wc g none) ∧ Aside0 (Below w0.heap.size w0 wc))
    case first =>
     have H:=HC25.out;clear HC25;by_cases c30 : (wrap64 (t369 + 3)) < (t368.size : Int)
     ·(rw [if_pos c30] at H);have c30b0:=decide_eq_true c30;clear c30;(first | rw [c30b0] | (simp only [i64_w,i32_w];rw [c30b0]) | skip);replace H:=Up.ip H;obtain ⟨c31,H⟩:=H;have c31b0:=eq_true c31;have c31b1:=decide_eq_true c31;clear c31;replace H:=Up.ip H;obtain ⟨c32,H⟩:=H;have c32b0:=eq_true c32;have c32b1:=decide_eq_true c32;replace H:=Up.ip H;obtain ⟨c33,H⟩:=H;have c33b0:=eq_true c33;have c33b1:=decide_eq_true c33;replace H:=Up.bd H;obtain ⟨t374,A34,H⟩:=H;(try dsimp only at H);have H':=Aside0.mk H;clear H;(try go_wp2);replace BK360:=Aside0.mk (blk_drew BK360.out);replace HI0:=Aside0.mk (IsS105.drew HI0.out);replace HK:=Aside0.mk (keep_drew HK.out);replace HB:=Aside0.mk (below_drew1 HB.out);obtain ⟨ASZ36_0,cSZ36_0,HGZ36,hgZ36,HSZ36_0⟩:=HI0.out;have hcZ36_0:=cellS105_0 HGZ36;have hcZ36_1:=cellS105_1 HGZ36;have hcZ36_2:=cellS105_2 HGZ36;have hfZ36_1:=blk_frozen HGZ36 1;have hfZ36_2:=blk_frozen HGZ36 2;clear HGZ36 hgZ36;refine start_ (n:=33) (S:=fun w' => w'.cell? ⟨g,0,none⟩ = some (.slice ASZ36_0 s0_0.length cSZ36_0) ∧ w'.cell? ⟨g,1,none⟩ = some (.string t368) ∧ w'.cell? ⟨g,2,none⟩ = some (.int .i64 t369)) (ds:=[]) #[false,false,false,false,false,false,false,false,false,false,false,false,false,false,false,false,false,false,false,false,false,false,false,false,false,false,false,false,false,false,false,false,false] (by kernel_rfl) rfl rfl ⟨hcZ36_0,hcZ36_1,hcZ36_2⟩ (fun hHeld => ?_);refine with_tabW impl_valueReader_value.tab8 impl_valueReader_value.bits8 (fun HT_ HW_ => ?_);(generalize w29.drew = w35 at BK360 HI0 HK HB hcZ36_0 hcZ36_1 hcZ36_2 hfZ36_1 hfZ36_2 hHeld ⊢);refine Up.pu 0 (some 32) HT_ ?_;refine Up.pu 1 (some 33) HT_ ?_;refine Up.pu 2 (some 34) HT_ ?_;refine Up.pu 5 (some 37) HT_ ?_;refine Up.pu 6 (some 38) HT_ ?_;refine Up.pu 7 (some 39) HT_ ?_;refine Up.tk 3 (some 35) HT_ HW_ hHeld ?_ (hy:=by rintro w' ⟨s0,s1,s2⟩;go_simp;with_reducible rfl);refine Up.pu 4 (some 36) HT_ ?_;refine Up.tk 8 (some 40) HT_ HW_ hHeld ?_ (hy:=by rintro w' ⟨s0,s1,s2⟩;go_simp;with_reducible rfl);refine Up.pu 9 (some 41) HT_ ?_;refine Up.pu 10 (some 42) HT_ ?_;refine Up.pu 11 (some 43) HT_ ?_;refine Up.pu 12 (some 44) HT_ ?_;refine Up.pu 13 (some 45) HT_ ?_;refine Up.pu 14 (some 46) HT_ ?_;refine Up.pu 16 (some 48) HT_ ?_;refine Up.pu 17 (some 49) HT_ ?_;refine Up.pu 18 (some 50) HT_ ?_;refine Up.pu 20 (some 52) HT_ ?_;refine Up.pu 21 (some 53) HT_ ?_;refine Up.pu 22 (some 54) HT_ ?_;refine Up.pu 24 (some 56) HT_ ?_;refine Up.pu 25 (some 57) HT_ ?_;refine Up.pu 26 (some 58) HT_ ?_;refine Up.tk 15 (some 47) HT_ HW_ hHeld ?_ (hy:=by rintro w' ⟨s0,s1,s2⟩;go_simp;with_reducible rfl);refine Up.tk 19 (some 51) HT_ HW_ hHeld ?_ (hy:=by rintro w' ⟨s0,s1,s2⟩;go_simp;with_reducible rfl);refine Up.tk 23 (some 55) HT_ HW_ hHeld ?_ (hy:=by rintro w' ⟨s0,s1,s2⟩;go_simp;with_reducible rfl);refine Up.tk 27 (some 59) HT_ HW_ hHeld ?_ (hy:=by rintro w' ⟨s0,s1,s2⟩;go_simp;with_reducible rfl);refine Up.pu 28 (some 60) HT_ ?_;refine Up.pu 29 (some 61) HT_ ?_;refine Up.on 30 (some 62) HT_ (fun K hK => ?_);refine Up.go Try.func48 #[.slice ASZ36_0 s0_0.length cSZ36_0,.string (t368.extract (t369 : Int).toNat ((wrap64 (t369 + 3)) : Int).toNat)] ?_
      with_reducible refine (impl_kindIn.calls _ _ s0_0 (t368.extract (t369 : Int).toNat ((wrap64 (t369 + 3)) : Int).toNat) t374 _ ?side1 ?side2 A34.out).mono ?_
      (case side1 => repeat (first | exact Kd.C_below HSZ36_0 (Up.Bt HB (IsS105.ge HI0.out) GE360) | (with_reducible refine Kd.C_alloc ?_ _) | (with_reducible refine Kd.C_drewN ?_ _) | (with_reducible refine Kd.C_drew ?_)));(case side2 => exact cSZ36_0.2);rintro e w' ⟨rfl,⟨nd,rfl⟩⟩;refine ⟨_,rfl,?_⟩;refine hK.out _ _ ⟨hHeld.1,hHeld.2.1,hHeld.2.2⟩ (fun hHeld => ?_);clear hK K;refine Up.nm 62 ?_;refine Up.pu 31 (some 63) HT_ ?_;refine Up.pu 32 (some 31) HT_ ?_;refine done_ (done_of HT_.out (by kernel_rfl)) ?_;(try go_wp2);go_meet
      case rel => exact ⟨_,(t374),(by first | rfl | (simp;done) | (simp [*];done)),H',⟨by first | omega | exact Nat.le_refl _⟩,⟨by (with_reducible repeat (first | refine blk_drewN ?_ _ | refine blk_drew ?_ | refine blk_alloc ?_ _));exact BK360.out⟩,⟨Jp105 HI0⟩,⟨Up.Kz HK⟩,⟨Up.By HB (IsS105.ge HI0.out)⟩⟩
     ·(rw [if_neg c30] at H);have c30b0:=decide_eq_false c30;clear c30;(first | rw [c30b0] | (simp only [i64_w,i32_w];rw [c30b0]) | skip);have H':=Aside0.mk H;clear H;(try go_wp2);replace BK360:=Aside0.mk (blk_drew BK360.out);replace HI0:=Aside0.mk (IsS105.drew HI0.out);replace HK:=Aside0.mk (keep_drew HK.out);replace HB:=Aside0.mk (below_drew1 HB.out);obtain ⟨ASZ38_0,cSZ38_0,HGZ38,hgZ38,HSZ38_0⟩:=HI0.out;have hcZ38_0:=cellS105_0 HGZ38;have hcZ38_1:=cellS105_1 HGZ38;have hcZ38_2:=cellS105_2 HGZ38;have hfZ38_1:=blk_frozen HGZ38 1;have hfZ38_2:=blk_frozen HGZ38 2;clear HGZ38 hgZ38;refine start_ (n:=33) (S:=fun w' => w'.cell? ⟨g,0,none⟩ = some (.slice ASZ38_0 s0_0.length cSZ38_0) ∧ w'.cell? ⟨g,1,none⟩ = some (.string t368) ∧ w'.cell? ⟨g,2,none⟩ = some (.int .i64 t369)) (ds:=[]) #[false,false,false,false,false,false,false,false,false,false,false,false,false,false,false,false,false,false,false,false,false,false,false,false,false,false,false,false,false,false,false,false,false] (by kernel_rfl) rfl rfl ⟨hcZ38_0,hcZ38_1,hcZ38_2⟩ (fun hHeld => ?_);refine with_tabW impl_valueReader_value.tab8 impl_valueReader_value.bits8 (fun HT_ HW_ => ?_);(generalize w29.drew = w37 at BK360 HI0 HK HB hcZ38_0 hcZ38_1 hcZ38_2 hfZ38_1 hfZ38_2 hHeld ⊢);refine Up.pu 0 (some 32) HT_ ?_;refine Up.pu 1 (some 33) HT_ ?_;refine Up.pu 2 (some 34) HT_ ?_;refine Up.pu 5 (some 37) HT_ ?_;refine Up.pu 6 (some 38) HT_ ?_;refine Up.pu 7 (some 39) HT_ ?_;refine Up.tk 3 (some 35) HT_ HW_ hHeld ?_ (hy:=by rintro w' ⟨s0,s1,s2⟩;go_simp;with_reducible rfl);refine Up.pu 4 (some 36) HT_ ?_;refine Up.tk 8 (some 40) HT_ HW_ hHeld ?_ (hy:=by rintro w' ⟨s0,s1,s2⟩;go_simp;with_reducible rfl);refine Up.pu 9 (some 41) HT_ ?_;refine Up.pu 10 (some 42) HT_ ?_;refine Up.pu 11 (some 43) HT_ ?_;refine Up.pz 12 (some 44) HT_ ?_;refine Up.pz 13 (some 45) HT_ ?_;refine Up.pz 14 (some 46) HT_ ?_;refine Up.pz 15 (some 47) HT_ ?_;refine Up.pz 16 (some 48) HT_ ?_;refine Up.pz 17 (some 49) HT_ ?_;refine Up.pz 18 (some 50) HT_ ?_;refine Up.pz 19 (some 51) HT_ ?_;refine Up.pz 20 (some 52) HT_ ?_;refine Up.pz 21 (some 53) HT_ ?_;refine Up.pz 22 (some 54) HT_ ?_;refine Up.pz 23 (some 55) HT_ ?_;refine Up.pz 24 (some 56) HT_ ?_;refine Up.pz 25 (some 57) HT_ ?_;refine Up.pz 26 (some 58) HT_ ?_;refine Up.pz 27 (some 59) HT_ ?_;refine Up.pz 28 (some 60) HT_ ?_;refine Up.pz 29 (some 61) HT_ ?_;refine Up.pz 30 (some 62) HT_ ?_;refine Up.pu 31 (some 63) HT_ ?_;refine Up.pu 32 (some 31) HT_ ?_;refine done_ (done_of HT_.out (by kernel_rfl)) ?_;(try go_wp2);go_meet
      case rel => exact ⟨_,(false),(by first | rfl | (simp;done) | (simp [*];done)),H',⟨by first | omega | exact Nat.le_refl _⟩,⟨by (with_reducible repeat (first | refine blk_drewN ?_ _ | refine blk_drew ?_ | refine blk_alloc ?_ _));exact BK360.out⟩,⟨Jp105 HI0⟩,⟨Up.Kz HK⟩,⟨Up.By HB (IsS105.ge HI0.out)⟩⟩
    case rest =>
     clear HC25;(try clear c1);(try clear c2);(try clear p2);(try clear c3);(try clear c4);(try clear p6);(try clear c7);(try clear c9);(try clear c11);(try clear c13);(try clear c16);(try clear c23);(try clear c30);(try clear c30b0);(try clear c31);(try clear c31b0);(try clear c31b1);(try clear c32);(try clear c32b0);(try clear c32b1);(try clear c33);(try clear c33b0);(try clear c33b1);obtain ⟨kq,x31_24,rfl,HA,HJ24,BK360,HI0,HK,HB⟩:=hcut;cases kq with
     | zero => exact absurd HA.out (by simp [impl_valueReader_value.j0])
     | succ kj24 =>
      have H:=HA.out;clear HA;(simp only [impl_valueReader_value.j0] at H);by_cases c39 : x31_24 = true
      ·subst c39;(rw [if_pos rfl] at H);replace H:=Up.ip H;obtain ⟨c40,H⟩:=H;have c40b0:=eq_true c40;have c40b1:=decide_eq_true c40;clear c40;replace H:=Up.ip H;obtain ⟨c41,H⟩:=H;have c41b0:=eq_true c41;have c41b1:=decide_eq_true c41;replace H:=Up.ip H;obtain ⟨c42,H⟩:=H;have c42b0:=eq_true c42;have c42b1:=decide_eq_true c42;replace H:=Up.bd H;obtain ⟨⟨t376,t377,t378⟩,A43,H⟩:=H;(try dsimp only at H);by_cases c44 : t376 = true
       ·subst c44;(rw [if_pos rfl] at H);replace H:=Up.bd H;obtain ⟨⟨t379,t380⟩,A45,H⟩:=H;(try dsimp only at H);have H':=Aside0.mk H;clear H;(try go_wp2);replace BK360:=Aside0.mk (blk_drew BK360.out);replace HI0:=Aside0.mk (IsS105.drew HI0.out);replace HK:=Aside0.mk (keep_drew HK.out);replace HB:=Aside0.mk (below_drew1 HB.out);obtain ⟨ASZ47_0,cSZ47_0,HGZ47,hgZ47,HSZ47_0⟩:=HI0.out;have hcZ47_0:=cellS105_0 HGZ47;have hcZ47_1:=cellS105_1 HGZ47;have hcZ47_2:=cellS105_2 HGZ47;have hfZ47_1:=blk_frozen HGZ47 1;have hfZ47_2:=blk_frozen HGZ47 2;clear HGZ47 hgZ47;refine start_ (n:=17) (S:=fun w' => w'.cell? ⟨g,0,none⟩ = some (.slice ASZ47_0 s0_0.length cSZ47_0) ∧ w'.cell? ⟨g,1,none⟩ = some (.string t368) ∧ w'.cell? ⟨g,2,none⟩ = some (.int .i64 t369)) (ds:=[]) #[false,false,false,false,false,false,false,false,false,false,false,false,false,false,false,false,false] (by kernel_rfl) rfl rfl ⟨hcZ47_0,hcZ47_1,hcZ47_2⟩ (fun hHeld => ?_);refine with_tabW impl_valueReader_value.tab9 impl_valueReader_value.bits9 (fun HT_ HW_ => ?_);(generalize wc.drew = w46 at BK360 HI0 HK HB hcZ47_0 hcZ47_1 hcZ47_2 hfZ47_1 hfZ47_2 hHeld ⊢);refine Up.pu 0 (some 64) HT_ ?_;refine Up.pu 1 (some 65) HT_ ?_;refine Up.pu 2 (some 66) HT_ ?_;refine Up.pu 4 (some 68) HT_ ?_;refine Up.pu 5 (some 69) HT_ ?_;refine Up.pu 6 (some 70) HT_ ?_;refine Up.pu 8 (some 72) HT_ ?_;refine Up.pu 9 (some 73) HT_ ?_;refine Up.pu 10 (some 74) HT_ ?_;refine Up.tk 3 (some 67) HT_ HW_ hHeld ?_ (hy:=by rintro w' ⟨s0,s1,s2⟩;go_simp;with_reducible rfl);refine Up.tk 7 (some 71) HT_ HW_ hHeld ?_ (hy:=by rintro w' ⟨s0,s1,s2⟩;go_simp;with_reducible rfl);refine Up.tk 11 (some 75) HT_ HW_ hHeld ?_ (hy:=by rintro w' ⟨s0,s1,s2⟩;go_simp;with_reducible rfl);refine Up.pu 12 (some 76) HT_ ?_;refine Up.pu 13 (some 77) HT_ ?_;refine Up.pu 14 (some 78) HT_ ?_;refine Up.on 15 (some 6) HT_ (fun K hK => ?_);refine box_step ?hg (N:=6) ?hd (cs:=#[.string (⟨#[]⟩ : ByteArray),.int .i64 0,.slice none 0 0,.slice none 0 0]) (t:=27) ?hr ?_;(case hd => rfl);(case hg => rfl);(case hr => first | (go_simp;done) | (go_simp;rfl));intro gb375 hg w48 hbox hb;have HS0_:=(hb.cell (World.block_lt_of_cell? _ _ (hHeld.1))).trans (hHeld.1);have HS1_:=(hb.cell (World.block_lt_of_cell? _ _ (hHeld.2.1))).trans (hHeld.2.1);have HS2_:=(hb.cell (World.block_lt_of_cell? _ _ (hHeld.2.2))).trans (hHeld.2.2);replace HB:=Aside0.mk (below_step (Up.Bt HB (IsS105.ge HI0.out) GE360) hb);have BK375:=Aside0.mk (hbox);have GW375:=Aside0.mk ((by rw [hg];exact (keep_size (w:=w) (g:=g) (row:=none) (Up.Kp HK GW360)) : w.heap.size ≤ gb375));have GE375:=Aside0.mk ((Nat.le_trans HW0.out (by rw [hg];exact (keep_size (w:=w) (g:=g) (row:=none) (Up.Kp HK GW360)) : w.heap.size ≤ gb375) : w0.heap.size ≤ gb375));replace HK:=Aside0.mk (KeepBut.trans (Up.Kp HK GW360) (KeepBut.of_below hb g none) (.inl rfl));have NB360_375:=Up.nl hg BK360;have NB375_360:=Up.ng hg BK360;replace BK360:=Up.KB BK360 hb;have NB0_375:=Aside0.mk ((by rw [hg];exact Nat.ne_of_lt (IsS105.lt (show IsS105 w0 _ g s0_0 t368 t369 from Jp105 HI0)) : g ≠ gb375));have NB375_0:=Aside0.mk ((by rw [hg];exact Nat.ne_of_gt (IsS105.lt (show IsS105 w0 _ g s0_0 t368 t369 from Jp105 HI0)) : gb375 ≠ g));replace HI0:=Aside0.mk (IsS105.below (Jp105 HI0) hb);clear hb hbox hg;refine hK.out _ _ ⟨HS0_,HS1_,HS2_⟩ (fun hHeld => ?_);clear hK K;refine Up.nm 6 ?_;refine Up.on 16 (none) HT_ (fun K hK => ?_);have hs49:=Up.c0 BK375;have hfs49:=blk_frozen BK375.out 0;have hns49_0:=NB360_375.out;have hms49_0:=NB375_360.out;have hs50:=Up.c1 BK375;have hfs50:=blk_frozen BK375.out 1;have hns50_0:=NB360_375.out;have hms50_0:=NB375_360.out;have hs51:=Up.c2 BK375;have hfs51:=blk_frozen BK375.out 2;have hns51_0:=NB360_375.out;have hms51_0:=NB375_360.out;have hs52:=Up.c3 BK375;have hfs52:=blk_frozen BK375.out 3;have hns52_0:=NB360_375.out;have hms52_0:=NB375_360.out;refine skip_ (w1:=?_) (by rfl) rfl ?_ ?_;rotate_left
        ·go_simp;rfl
        refine hK.out _ _ ⟨(Up.cx hHeld.1),(Up.cx hHeld.2.1),(Up.cx hHeld.2.2)⟩ (fun hHeld => ?_);clear hK K;refine done_ (done_of HT_.out (by kernel_rfl)) ?_;obtain ⟨ASZ53_0,cSZ53_0,HGZ53,hgZ53,HSZ53_0⟩:=HI0.out;have hcZ53_0:=cellS105_0 HGZ53;have hcZ53_1:=cellS105_1 HGZ53;have hcZ53_2:=cellS105_2 HGZ53;have hfZ53_1:=blk_frozen HGZ53 1;have hfZ53_2:=blk_frozen HGZ53 2;clear HGZ53 hgZ53;(try go_wp2_with (first | ((with_reducible refine gate_callee (f:=110) rfl ?_);refine Up.gl (some 87) Try.func110 #[.pointer (some ⟨g,0,none⟩),.string (⟨#[40]⟩ : ByteArray)] ?_;(with_reducible refine (impl_valueReader_sees.calls g s0_0 t368 (wrap64 (t369 + 3)) (⟨#[40]⟩ : ByteArray) true t377 t378 w0 _ ?side1 ?side2 A43.out).mono ?_);(case side1 => exact Jp105 HI0);(case side2 => exact Up.By HB (IsS105.ge HI0.out));rintro e w54 ⟨rfl,hi,hb,hk⟩;refine ⟨_,rfl,?_⟩;replace BK360:=Aside0.mk (KeepBut.blk hk (g':=gb360) (o:=.cells #[.string (⟨#[]⟩ : ByteArray),.int .i64 0,.slice none 0 0,.slice none 0 0] 27 (0,0)) (Up.Kx BK360) NB360_0.out (by simp));replace BK375:=Aside0.mk (KeepBut.blk hk (g':=gb375) (o:=.cells #[.string (t368.extract (t369 : Int).toNat ((wrap64 (t369 + 3)) : Int).toNat),.int .i64 0,.slice none 0 0,.slice none 0 0] 27 (0,0)) (Up.Kx BK375) NB375_0.out (by simp));replace HK:=Aside0.mk (KeepBut.trans (Up.Kz HK) hk (.inl rfl));replace HB:=Aside0.mk (hb);replace HI0:=Aside0.mk (hi);(try clear hb);(try clear hb2);(try clear hk);(try clear hi))));replace BK360:=Aside0.mk (blk_drew BK360.out);replace BK375:=Aside0.mk (blk_drew BK375.out);replace HI0:=Aside0.mk (IsS105.drew HI0.out);replace HK:=Aside0.mk (keep_drew HK.out);replace HB:=Aside0.mk (below_drew1 HB.out);obtain ⟨ASZ56_0,cSZ56_0,HGZ56,hgZ56,HSZ56_0⟩:=HI0.out;have hcZ56_0:=cellS105_0 HGZ56;have hcZ56_1:=cellS105_1 HGZ56;have hcZ56_2:=cellS105_2 HGZ56;have hfZ56_1:=blk_frozen HGZ56 1;have hfZ56_2:=blk_frozen HGZ56 2;clear HGZ56 hgZ56;refine start_ (n:=10) (S:=fun w' => w'.cell? ⟨g,0,none⟩ = some (.slice ASZ56_0 s0_0.length cSZ56_0) ∧ w'.cell? ⟨g,1,none⟩ = some (.string t377) ∧ w'.cell? ⟨g,2,none⟩ = some (.int .i64 t378) ∧ w'.cell? ⟨gb375,0,none⟩ = some (.string (t368.extract (t369 : Int).toNat ((wrap64 (t369 + 3)) : Int).toNat)) ∧ w'.cell? ⟨gb375,1,none⟩ = some (.int .i64 0) ∧ w'.cell? ⟨gb375,2,none⟩ = some (.slice none 0 0) ∧ w'.cell? ⟨gb375,3,none⟩ = some (.slice none 0 0)) (ds:=[]) #[false,false,false,false,false,false,false,false,false,false] (by kernel_rfl) rfl rfl ⟨hcZ56_0,hcZ56_1,hcZ56_2,Up.c0 BK375,Up.c1 BK375,Up.c2 BK375,Up.c3 BK375⟩ (fun hHeld => ?_);refine with_tabW impl_valueReader_value.tab13 impl_valueReader_value.bits13 (fun HT_ HW_ => ?_);(generalize w54.drew = w55 at BK360 BK375 HI0 HK HB hcZ56_0 hcZ56_1 hcZ56_2 hfZ56_1 hfZ56_2 hHeld ⊢);refine Up.pu 0 (some 90) HT_ ?_;refine Up.pu 1 (some 91) HT_ ?_;refine Up.pu 2 (some 92) HT_ ?_;refine Up.pu 4 (some 94) HT_ ?_;refine Up.pu 9 (some 99) HT_ ?_;refine Up.tk 3 (some 93) HT_ HW_ hHeld ?_ (hy:=by rintro w' ⟨s0,s1,s2,s3,s4,s5,s6⟩;go_simp;with_reducible rfl);refine Up.tk 5 (some 95) HT_ HW_ hHeld ?_ (hy:=by rintro w' ⟨s0,s1,s2,s3,s4,s5,s6⟩;go_simp;with_reducible rfl);refine Up.on 6 (some 96) HT_ (fun K hK => ?_);refine Up.go Try.func91 #[.slice ASZ56_0 s0_0.length cSZ56_0,.string (t368.extract (t369 : Int).toNat ((wrap64 (t369 + 3)) : Int).toNat)] ?_
        with_reducible refine (impl_recordOf.calls (fun k_ => k_ < w0.heap.size) _ _ s0_0 (t368.extract (t369 : Int).toNat ((wrap64 (t369 + 3)) : Int).toNat) t379 t380 _ ?side1 A45.out).mono ?_
        (case side1 => exact Kd.V_mk cSZ56_0.2 (Kd.F_below (Kd.C_F (Kd.heap_slice 113 k113_heap) HSZ56_0) (Up.By HB (IsS105.ge HI0.out))));rintro e w57 ⟨v381,rfl,ho0,hb⟩;have HS0_:=(hb.cell (World.block_lt_of_cell? _ _ (hHeld.1))).trans (hHeld.1);have HS1_:=(hb.cell (World.block_lt_of_cell? _ _ (hHeld.2.1))).trans (hHeld.2.1);have HS2_:=(hb.cell (World.block_lt_of_cell? _ _ (hHeld.2.2.1))).trans (hHeld.2.2.1);refine ⟨_,rfl,?_⟩;have HO382:=Aside0.mk (Kd.V_lower (Kd.V_mono (ok':=fun k_ => k_ ≠ gb360 ∧ k_ ≠ gb375 ∧ k_ ≠ g) ho0 (fun k_ hk_ => ⟨Or.elim hk_ (fun hs_ => fun e_ => Nat.not_le.2 hs_ (by rw [e_];first | exact GW360.out | exact Nat.le_trans HL.out GW360.out | exact Nat.le_trans HW0.out GW360.out)) (fun hn_ => (Kd.freshB (g:=gb360) (o:=.cells #[.string (⟨#[]⟩ : ByteArray),.int .i64 0,.slice none 0 0,.slice none 0 0] 27 (0,0)) (Up.Kup BK360) k_ hn_)),Or.elim hk_ (fun hs_ => fun e_ => Nat.not_le.2 hs_ (by rw [e_];first | exact GW375.out | exact Nat.le_trans HL.out GW375.out | exact Nat.le_trans HW0.out GW375.out)) (fun hn_ => (Kd.freshB (g:=gb375) (o:=.cells #[.string (t368.extract (t369 : Int).toNat ((wrap64 (t369 + 3)) : Int).toNat),.int .i64 0,.slice none 0 0,.slice none 0 0] 27 (0,0)) (Up.Kup BK375) k_ hn_)),Or.elim hk_ (fun hs_ => fun e_ => Nat.not_le.2 hs_ (by rw [e_];exact IsS105.ge HI0.out)) (fun hn_ => (IsS105.fresh (Jp105 HI0) k_ hn_))⟩)) (keep_size (w:=w) (g:=g) (row:=none) (Up.Kz HK)));replace BK360:=Up.KB BK360 hb;replace BK375:=Aside0.mk (blk_below (g:=gb375) (o:=.cells #[.string (t368.extract (t369 : Int).toNat ((wrap64 (t369 + 3)) : Int).toNat),.int .i64 0,.slice none 0 0,.slice none 0 0] 27 (0,0)) (Up.Kup BK375) hb);replace HK:=Aside0.mk (KeepBut.trans (Up.Kz HK) (KeepBut.of_below hb g none) (.inl rfl));replace HB:=Aside0.mk (below_step (Up.By HB (IsS105.ge HI0.out)) hb);replace HI0:=Aside0.mk (IsS105.below (Jp105 HI0) hb);(try clear hb);(try clear hb2);(try clear hk);(try clear hi);(try clear ho0);obtain ⟨Ao58,co58,eo58⟩:=Kd.V_slice HO382.out;(first | subst eo58 | (injection eo58 with f1_ f2_ f3_;have f4_:=f1_.symm;have f5_:=f3_.symm;clear f1_ f2_ f3_;subst f4_;subst f5_));(have hfl_ : ∀ w',(Instr.field 113 (.agg #[.int .i64 t379,.slice Ao58 t380.length co58]) 1).run Try.prog w' = .ok (.slice Ao58 t380.length co58) w':=fun _ => by kernel_rfl);refine hK.out _ _ ⟨HS0_,HS1_,HS2_,Up.c0 BK375,Up.c1 BK375,Up.c2 BK375,Up.c3 BK375⟩ (fun hHeld => ?_);clear hK K;refine Up.nm 96 ?_;refine Up.pu 7 (some 97) HT_ ?_;refine Up.pu 8 (some 98) HT_ ?_;refine done_ (done_of HT_.out (by kernel_rfl)) ?_;(try go_wp2);go_loopg [99] kj24 (fun kq v99 w' => ∃ (x99_2 : Int) (x1001_2 : ByteArray) (x1002_2 : Int) (x361000_2 : ByteArray) (x361001_2 : Int) (x376002_2 : List (S27)) (u376002 : Value),v99 = .int .i64 x99_2 ∧ Aside0 (impl_valueReader_value.l0 kq (t380.length : Int) x99_2 s0_0 x1001_2 x1002_2 (t368.extract (t369 : Int).toNat ((wrap64 (t369 + 3)) : Int).toNat) 0 x376002_2 = some (r1,r2,r3,r4,r5,r6,r7)) ∧ Aside0 (kq ≤ kj24) ∧ Aside0 (Kd.S kValD 27 w' w.heap.size (fun k_ => k_ ≠ gb360 ∧ k_ ≠ gb375) u376002 x376002_2) ∧ Aside0 (w'.heap[gb360]? = some (.cells #[.string x361000_2,.int .i64 x361001_2,(.slice none 0 0),(.slice none 0 0)] 27 (0,0))) ∧ Aside0 (w'.heap[gb375]? = some (.cells #[.string (t368.extract (t369 : Int).toNat ((wrap64 (t369 + 3)) : Int).toNat),.int .i64 0,u376002,(.slice none 0 0)] 27 (0,0))) ∧ Aside0 (IsS105 w0 w' g s0_0 x1001_2 x1002_2) ∧ Aside0 (KeepBut w w' g none) ∧ Aside0 (Below w0.heap.size w0 w'))
        case atStart => exact ⟨(0),(t377),(t378),((⟨#[]⟩ : ByteArray)),(0),(([] : List (S27))),(.slice none 0 0),(by first | rfl | (simp;done) | (simp [*];done)),H',⟨Nat.le_refl _⟩,⟨by first | exact Kd.R_nil _ _ _ _ _ | exact Kd.N_nil _ _ _ _ _ | exact Kd.V_nil _ _ _ _ _ | exact Kd.Q_nil _ _ _ _ _ | exact Kd.S_nil _ _ _ _ _⟩,⟨by (with_reducible repeat (first | refine blk_drewN ?_ _ | refine blk_drew ?_ | refine blk_alloc ?_ _));exact BK360.out⟩,⟨by (with_reducible repeat (first | refine blk_drewN ?_ _ | refine blk_drew ?_ | refine blk_alloc ?_ _));exact BK375.out⟩,⟨Jp105 HI0⟩,⟨Up.Kz HK⟩,⟨Up.By HB (IsS105.ge HI0.out)⟩⟩
        case round =>
         clear H';(try clear c1);(try clear c2);(try clear p2);(try clear c3);(try clear c4);(try clear p6);(try clear c7);(try clear c9);(try clear c11);(try clear c13);(try clear c16);(try clear c23);(try clear c30);(try clear c30b0);(try clear c31);(try clear c31b0);(try clear c31b1);(try clear c32);(try clear c32b0);(try clear c32b1);(try clear c33);(try clear c33b0);(try clear c33b1);(try clear c39);(try clear c40);(try clear c40b0);(try clear c40b1);(try clear c41);(try clear c41b0);(try clear c41b1);(try clear c42);(try clear c42b0);(try clear c42b1);(try clear c44);(try clear p2);(try clear p6);obtain ⟨x99_2,x1001_2,x1002_2,x361000_2,x361001_2,x376002_2,u376002,rfl,HA,HK2,HO_376002,BK360,BK375,HI0,HK,HB⟩:=hrel;cases gk with
         | zero => exact absurd HA.out (by simp [impl_valueReader_value.l0])
         | succ k2 =>
          have H:=HA.out;clear HA;(simp only [impl_valueReader_value.l0] at H);by_cases c59 : x99_2 < (t380.length : Int)
          ·(rw [if_pos c59] at H);have c59b0:=decide_eq_true c59;clear c59;have HC60:=Aside0.mk H;clear H;go_upto_region 16 with (fail);go_cut [108] (fun v108 wc => ∃ (kq : Nat) (x108_59 : Bool) (x1001_59 : ByteArray) (x1002_59 : Int),v108 = .bool x108_59 ∧ Aside0 (impl_valueReader_value.j2 kq (t380.length : Int) x99_2 x108_59 s0_0 x1001_59 x1002_59 (t368.extract (t369 : Int).toNat ((wrap64 (t369 + 3)) : Int).toNat) 0 x376002_2 = some (r1,r2,r3,r4,r5,r6,r7)) ∧ Aside0 (kq ≤ k2) ∧ Aside0 (Kd.S kValD 27 wc w.heap.size (fun k_ => k_ ≠ gb360 ∧ k_ ≠ gb375) u376002 x376002_2) ∧ Aside0 (wc.heap[gb360]? = some (.cells #[.string x361000_2,.int .i64 x361001_2,(.slice none 0 0),(.slice none 0 0)] 27 (0,0))) ∧ Aside0 (wc.heap[gb375]? = some (.cells #[.string (t368.extract (t369 : Int).toNat ((wrap64 (t369 + 3)) : Int).toNat),.int .i64 0,u376002,(.slice none 0 0)] 27 (0,0))) ∧ Aside0 (IsS105 w0 wc g s0_0 x1001_59 x1002_59) ∧ Aside0 (KeepBut w wc g none) ∧ Aside0 (Below w0.heap.size w0 wc))
           case first =>
            have H:=HC60.out;clear HC60;by_cases c61 : x99_2 > 0
            ·(rw [if_pos c61] at H);have c61b0 : decide (0 < x99_2) = true:=decide_eq_true c61;clear c61;(first | rw [c61b0] | (simp only [i64_w,i32_w];rw [c61b0]) | skip);replace H:=Up.bd H;obtain ⟨⟨t386,t387,t388⟩,A62,H⟩:=H;(try dsimp only at H);have H':=Aside0.mk H;clear H;go_wp2_with (first | (go_at_call 110;(with_reducible refine (impl_valueReader_sees.calls g s0_0 x1001_2 x1002_2 (⟨#[32]⟩ : ByteArray) t386 t387 t388 w0 _ ?side1 ?side2 A62.out).mono ?_);(case side1 => exact Jp105 HI0);(case side2 => exact Up.By HB (IsS105.ge HI0.out));rintro e w63 ⟨rfl,hi,hb,hk⟩;replace HO_376002:=Aside0.mk (Kd.S_mono (Kd.S_keep (IsS105.apartS (show IsS105 w0 _ g s0_0 x1001_2 x1002_2 from Jp105 HI0) (Up.Sup HO_376002) (by decide)) hk (fun _ h => h.2)) (fun _ h => h.1));replace BK360:=Up.kb hk BK360 NB360_0;replace BK375:=Aside0.mk (KeepBut.blk hk (g':=gb375) (o:=.cells #[.string (t368.extract (t369 : Int).toNat ((wrap64 (t369 + 3)) : Int).toNat),.int .i64 0,u376002,.slice none 0 0] 27 (0,0)) (Up.Kup BK375) NB375_0.out (by simp));replace HK:=Aside0.mk (KeepBut.trans (Up.Kz HK) hk (.inl rfl));replace HB:=Aside0.mk (hb);replace HI0:=Aside0.mk (hi);(try clear hb);(try clear hb2);(try clear hk);(try clear hi)));go_meet
             case rel => exact ⟨_,(!t386),(t387),(t388),(by first | rfl | (simp;done) | (simp [*];done)),H',⟨by have:=HJ24.out;have:=HK2.out;first | omega | exact Nat.le_refl _⟩,⟨Up.Sup HO_376002⟩,⟨by (with_reducible repeat (first | refine blk_drewN ?_ _ | refine blk_drew ?_ | refine blk_alloc ?_ _));exact BK360.out⟩,⟨by (with_reducible repeat (first | refine blk_drewN ?_ _ | refine blk_drew ?_ | refine blk_alloc ?_ _));exact BK375.out⟩,⟨Jp105 HI0⟩,⟨Up.Kz HK⟩,⟨Up.By HB (IsS105.ge HI0.out)⟩⟩
            ·(rw [if_neg c61] at H);have c61b0 : decide (0 < x99_2) = false:=decide_eq_false c61;clear c61;(first | rw [c61b0] | (simp only [i64_w,i32_w];rw [c61b0]) | skip);have H':=Aside0.mk H;clear H;go_wp2;go_meet
             case rel => exact ⟨_,(false),(x1001_2),(x1002_2),(by first | rfl | (simp;done) | (simp [*];done)),H',⟨by have:=HJ24.out;have:=HK2.out;first | omega | exact Nat.le_refl _⟩,⟨Up.Sup HO_376002⟩,⟨by (with_reducible repeat (first | refine blk_drewN ?_ _ | refine blk_drew ?_ | refine blk_alloc ?_ _));exact BK360.out⟩,⟨by (with_reducible repeat (first | refine blk_drewN ?_ _ | refine blk_drew ?_ | refine blk_alloc ?_ _));exact BK375.out⟩,⟨Jp105 HI0⟩,⟨Up.Kz HK⟩,⟨Up.By HB (IsS105.ge HI0.out)⟩⟩
           case rest =>
            clear HC60;(try clear c1);(try clear c2);(try clear p2);(try clear c3);(try clear c4);(try clear c5);(try clear c6);(try clear p6);(try clear c7);(try clear c9);(try clear c11);(try clear c13);(try clear c16);(try clear c23);(try clear c30);(try clear c30b0);(try clear c31);(try clear c31b0);(try clear c31b1);(try clear c32);(try clear c32b0);(try clear c32b1);(try clear c33);(try clear c33b0);(try clear c33b1);(try clear c39);(try clear c40);(try clear c40b0);(try clear c40b1);(try clear c41);(try clear c41b0);(try clear c41b1);(try clear c42);(try clear c42b0);(try clear c42b1);(try clear c44);(try clear c59);(try clear c59b0);(try clear c61);(try clear c61b0);(try clear p2);(try clear p6);obtain ⟨kq,x108_59,x1001_59,x1002_59,rfl,HA,HJ59,HO_376002,BK360,BK375,HI0,HK,HB⟩:=hcut;cases kq with
            | zero => exact absurd HA.out (by simp [impl_valueReader_value.j2])
            | succ kj59 =>
             have H:=HA.out;clear HA;(simp only [impl_valueReader_value.j2] at H);by_cases c64 : x108_59 = true
             ·subst c64;(rw [if_pos rfl] at H);(simp only [Option.some.injEq,Prod.mk.injEq] at H);obtain ⟨rfl,rfl,rfl,rfl,rfl,rfl,rfl⟩:=H;have hnb65:=NB375_360.out;have hnc65:=NB360_375.out;have hnb66:=NB375_0.out;have hnc66:=NB0_375.out;have hcz67_0 : wc.cell? ⟨gb375,0,none⟩ = some (.string (t368.extract (t369 : Int).toNat ((wrap64 (t369 + 3)) : Int).toNat)):=(blk_cell BK375.out 0).trans rfl;have hcz67_1:=Up.c1 BK375;have hcz67_2:=Up.c2 BK375;have hcz67_3:=Up.c3 BK375;have hfz67_0:=blk_frozen BK375.out 0;have hfz67_1:=blk_frozen BK375.out 1;have hfz67_2:=blk_frozen BK375.out 2;have hfz67_3:=blk_frozen BK375.out 3;have hnb68:=NB360_0.out;have hnc68:=NB0_360.out;obtain ⟨hcz69_0,hcz69_1,hcz69_2,hcz69_3,hfz69_0,hfz69_1,hfz69_2,hfz69_3⟩:=Up.d4 BK360;obtain ⟨Ao70,co70,eo70⟩:=Kd.S_slice HO_376002.out;subst eo70;go_wp2;refine bodyPost_ret (results_ct rfl _ _ gb360 27 #[.string (t368.extract (t369 : Int).toNat ((wrap64 (t369 + 3)) : Int).toNat),.int .i64 0,.slice Ao70 x376002_2.length co70,.slice none 0 0] (0,0) _ rfl (Up.Kx BK360) Try.underlying27 rfl (by kernel_rfl)) rfl ?_;exact ⟨_,_,by first | rfl | (simp [errW_none,errW_some] <;> rfl) | (simp [*,errW_none,errW_some] <;> rfl),by (with_reducible repeat (first | apply Kd.S_alloc | apply Kd.S_drewN | apply Kd.S_drew | apply Kd.R_alloc | apply Kd.R_drewN | apply Kd.R_drew));exact Kd.S_mono (Sf4 (g:=gb360) HO_376002.out (fun _ hk => hk.1)) (fun _ hk => (by simp [Value.ownBlock])),by first | exact Kd.R_nil _ _ _ _ _ | exact Kd.N_nil _ _ _ _ _ | exact Kd.V_nil _ _ _ _ _ | exact Kd.Q_nil _ _ _ _ _ | exact Kd.S_nil _ _ _ _ _,Jp105 HI0,Up.By HB (IsS105.ge HI0.out),Up.Kz HK,by first | exact ⟨rfl,rfl⟩ | exact ⟨rfl,trivial⟩ | exact HP9.out | trivial⟩
             ·replace c64:=Bool.eq_false_iff.mpr c64;subst c64;(rw [if_neg (show ¬ (false = true) by decide)] at H);replace H:=Up.bd H;obtain ⟨⟨t389,t390,t391,t394,t397,t398,t399⟩,A71,H⟩:=H;(try dsimp only at H);by_cases c72 : t397 = true
              ·subst c72;(rw [if_pos rfl] at H);(replace H:=Up.ip H;obtain ⟨c73,H⟩:=H;have LMc73:=Aside0.mk c73;clear c73;obtain ⟨y401,hy401⟩ : ∃ y_ : List (S27),y_ = (x376002_2 ++ [(⟨t389,t390,t391,t394⟩ : S27)]):=⟨_,rfl⟩);(replace H : (impl_valueReader_value.l0 kj59 (t380.length : Int) (wrap64 (x99_2 + 1)) s0_0 t398 t399 (t368.extract (t369 : Int).toNat ((wrap64 (t369 + 3)) : Int).toNat) 0 y401) = some (r1,r2,r3,r4,r5,r6,r7):=by first | (rw [hy401];with_reducible exact H) | (have H2_:=(Option.bind_some _ _).symm.trans H;rw [hy401];with_reducible exact H2_) | (have H2_:=(Option.bind_some _ _).symm.trans H;with_reducible exact H2_) | with_reducible exact H | (rw [hy401];exact H) | exact H);have Ny401:=Aside0.mk hy401;clear hy401;have H':=Aside0.mk H;clear H;go_wp2_with (first | ((with_reducible refine gate_callee (f:=78) rfl ?_);refine Up.gl (some 112) Try.func78 #[.pointer (some ⟨g,0,none⟩)] ?_;(with_reducible refine (ih kj59 (by have:=HJ24.out;have:=HK2.out;have:=HJ59.out;omega) g s0_0 x1001_59 x1002_59 t389 t390 t391 t394 true t398 t399 w0 _ ?side1 ?side2 A71.out).mono ?_);(case side1 => exact Jp105 HI0);(case side2 => exact Up.By HB (IsS105.ge HI0.out));rintro e w74 ⟨v392,v395,rfl,ho0,ho1,hi,hb,hk,hp_⟩;refine ⟨_,rfl,?_⟩;have HP9:=Aside0.mk hp_;clear hp_;obtain ⟨T_,hT_,hv_,hx_,ht_⟩:=splitS hk (IsS105.apartS (show IsS105 w0 _ g s0_0 x1001_59 x1002_59 from Jp105 HI0) (Up.Sup HO_376002) (by decide)) ho0 (keep_size (w:=w) (g:=g) (row:=none) (Up.Kz HK));have HG1:=Aside0.mk (show gb360 < T_ by rw [hT_];exact blk_lt (Up.Kup BK360));have HG2:=Aside0.mk (show gb375 < T_ by rw [hT_];exact blk_lt (Up.Kup BK375));have HO393:=Aside0.mk hx_;replace HO_376002:=Aside0.mk hv_;have HT9:=Aside0.mk ht_;clear hv_ hx_ ht_ hT_;replace BK360:=Up.kb hk BK360 NB360_0;replace BK375:=Aside0.mk (KeepBut.blk hk (g':=gb375) (o:=.cells #[.string (t368.extract (t369 : Int).toNat ((wrap64 (t369 + 3)) : Int).toNat),.int .i64 0,u376002,.slice none 0 0] 27 (0,0)) (Up.Kup BK375) NB375_0.out (by simp));have HO396:=Aside0.mk (Kd.R_lower ho1 (keep_size (w:=w) (g:=g) (row:=none) (Up.Kz HK)));replace HK:=Aside0.mk (KeepBut.trans (Up.Kz HK) hk (.inl rfl));replace HB:=Aside0.mk (hb);replace HI0:=Aside0.mk (hi);(try clear hb);(try clear hb2);(try clear hk);(try clear hi);(try clear ho0);(try clear ho1)) | ((with_reducible refine gate_dst (N:=8) rfl ?_);refine Up.bx 8 27 #[.string (⟨#[]⟩ : ByteArray),.int .i64 0,.slice none 0 0,.slice none 0 0] ?_;intro gb400 hg w75 hbox hb;have HG9:=Aside0.mk (show T_ ≤ gb400 by rw [hg];exact HT9.out);replace HO_376002:=Aside0.mk (Kd.S_below (Up.Sup HO_376002) hb);replace HO393:=Aside0.mk (Kd.S_below (Kd.S_elderB (Up.Sup HO393) gb400 (Nat.le_of_eq hg.symm)) hb);replace HO396:=Up.RB HO396 hb;replace HB:=Aside0.mk (below_step (Up.By HB (IsS105.ge HI0.out)) hb);have BK400:=Aside0.mk (hbox);have GW400:=Aside0.mk ((by rw [hg];exact (keep_size (w:=w) (g:=g) (row:=none) (Up.Kz HK)) : w.heap.size ≤ gb400));have GE400:=Aside0.mk ((Nat.le_trans HW0.out (by rw [hg];exact (keep_size (w:=w) (g:=g) (row:=none) (Up.Kz HK)) : w.heap.size ≤ gb400) : w0.heap.size ≤ gb400));replace HK:=Aside0.mk (KeepBut.trans (Up.Kz HK) (KeepBut.of_below hb g none) (.inl rfl));have NB360_400:=Up.nl hg BK360;have NB400_360:=Up.ng hg BK360;replace BK360:=Up.KB BK360 hb;have NB375_400:=Aside0.mk ((by rw [hg];exact Nat.ne_of_lt (blk_lt (g:=gb375) (o:=.cells #[.string (t368.extract (t369 : Int).toNat ((wrap64 (t369 + 3)) : Int).toNat),.int .i64 0,u376002,.slice none 0 0] 27 (0,0)) (Up.Kup BK375)) : gb375 ≠ gb400));have NB400_375:=Aside0.mk ((by rw [hg];exact Nat.ne_of_gt (blk_lt (g:=gb375) (o:=.cells #[.string (t368.extract (t369 : Int).toNat ((wrap64 (t369 + 3)) : Int).toNat),.int .i64 0,u376002,.slice none 0 0] 27 (0,0)) (Up.Kup BK375)) : gb400 ≠ gb375));replace BK375:=Aside0.mk (blk_below (g:=gb375) (o:=.cells #[.string (t368.extract (t369 : Int).toNat ((wrap64 (t369 + 3)) : Int).toNat),.int .i64 0,u376002,.slice none 0 0] 27 (0,0)) (Up.Kup BK375) hb);have NB0_400:=Aside0.mk ((by rw [hg];exact Nat.ne_of_lt (IsS105.lt (show IsS105 w0 _ g s0_0 t398 t399 from Jp105 HI0)) : g ≠ gb400));have NB400_0:=Aside0.mk ((by rw [hg];exact Nat.ne_of_gt (IsS105.lt (show IsS105 w0 _ g s0_0 t398 t399 from Jp105 HI0)) : gb400 ≠ g));replace HI0:=Aside0.mk (IsS105.below (Jp105 HI0) hb);clear hb hbox hg;have hnb76:=NB400_360.out;have hnc76:=NB360_400.out;have hnb77:=NB400_375.out;have hnc77:=NB375_400.out;have hnb78:=NB400_0.out;have hnc78:=NB0_400.out;obtain ⟨hcz79_0,hcz79_1,hcz79_2,hcz79_3,hfz79_0,hfz79_1,hfz79_2,hfz79_3⟩:=Up.d4 BK400;obtain ⟨Ao80,co80,eo80⟩:=Kd.S_slice HO393.out;subst eo80;obtain ⟨Ao81,co81,eo81⟩:=Kd.R_slice HO396.out;subst eo81) | ((with_reducible refine gate_store (t:=27) (p:=8) rfl ?_);refine store_event (t:=27) (p:=8) (v:=?vo_w82) (w1:=((((w75.setCell ⟨gb400,0,none⟩ (.string t389)).setCell ⟨gb400,1,none⟩ (.int .i64 t390)).setCell ⟨gb400,2,none⟩ (.slice Ao80 t391.length co80)).setCell ⟨gb400,3,none⟩ (.slice Ao81 t394.length co81))) ?hg ?ho ?hn ?hr ?_;(case ho => rfl);(case hg => rfl);(case hn => rfl);(case hr => first | (go_simp;done) | (go_simp;rfl));intro w82 hw;have n0_ : Aside0 (Kd.S kValD 27 w82 w.heap.size (fun k_ => (k_ ≠ gb360 ∧ k_ ≠ gb375) ∧ k_ < T_) u376002 x376002_2):=⟨(by rw [hw];exact Kd.S_mono (Sf4 (g:=gb400) HO_376002.out (fun k_ hk => Nat.ne_of_lt (Nat.lt_of_lt_of_le hk.2 HG9.out))) (fun _ hk => hk.1))⟩;have n1_ : Aside0 (Kd.S kValD 27 w82 w.heap.size (fun k_ => T_ ≤ k_ ∧ k_ ≠ gb400) (.slice Ao80 t391.length co80) t391):=⟨(by rw [hw];exact Kd.S_mono (Sf4 (g:=gb400) HO393.out (fun _ hk => hk.2)) (fun _ hk => hk.1))⟩;have n2_ : Aside0 (Kd.R (Kd.int .i64) 3 w82 w.heap.size (fun _ => True) (.slice Ao81 t394.length co81) t394):=⟨(by rw [hw];exact (Up.Rq (Kd.R_mono (Kd.R_far (p:=⟨gb400,3,none⟩) (Kd.R_far (p:=⟨gb400,2,none⟩) (Kd.R_far (p:=⟨gb400,1,none⟩) (Kd.R_far (p:=⟨gb400,0,none⟩) (Kd.R_types HO396.out BK400.out (by decide)) (fun _ hk => hk.2) (.string t389)) (fun _ hk => hk.2) (.int .i64 t390)) (fun _ hk => hk.2) (.slice Ao80 t391.length co80)) (fun _ hk => hk.2) (.slice Ao81 t394.length co81)) (fun _ hk => trivial))))⟩;have n3_ : Aside0 (w82.heap[gb360]? = some (.cells #[.string x361000_2,.int .i64 x361001_2,.slice none 0 0,.slice none 0 0] 27 (0,0))):=⟨(by rw [hw];exact (Up.Kx BK360))⟩;have n4_ : Aside0 (w82.heap[gb375]? = some (.cells #[.string (t368.extract (t369 : Int).toNat ((wrap64 (t369 + 3)) : Int).toNat),.int .i64 0,u376002,.slice none 0 0] 27 (0,0))):=⟨(by rw [hw];exact (Up.Kx BK375))⟩;have n5_ : Aside0 (w82.heap[gb400]? = some (.cells #[.string t389,.int .i64 t390,.slice Ao80 t391.length co80,.slice Ao81 t394.length co81] 27 (0,0))):=⟨(by rw [hw];exact (Up.Kx BK400))⟩;have n6_ : Aside0 (IsS105 w0 w82 g s0_0 t398 t399):=⟨(by rw [hw];exact (Jp105 HI0))⟩;have n7_ : Aside0 (KeepBut w w82 g none):=⟨(by rw [hw];exact (Up.Kz HK))⟩;have n8_ : Aside0 (Below w0.heap.size w0 w82):=⟨(by rw [hw];exact (Up.By HB (IsS105.ge HI0.out)))⟩;clear hw HO_376002 HO393 HO396 BK360 BK375 BK400 HI0 HK HB;have HO_376002:=n0_;have HO393:=n1_;have HO396:=n2_;have BK360:=n3_;have BK375:=n4_;have BK400:=n5_;have HI0:=n6_;have HK:=n7_;have HB:=n8_;clear n0_ n1_ n2_ n3_ n4_ n5_ n6_ n7_ n8_;have hnb83:=NB375_360.out;have hnc83:=NB360_375.out;have hnb84:=NB375_0.out;have hnc84:=NB0_375.out;have hcz85_0 : w82.cell? ⟨gb375,0,none⟩ = some (.string (t368.extract (t369 : Int).toNat ((wrap64 (t369 + 3)) : Int).toNat)):=(blk_cell BK375.out 0).trans rfl;have hcz85_1:=Up.c1 BK375;have hcz85_2:=Up.c2 BK375;have hcz85_3:=Up.c3 BK375;have hfz85_0:=blk_frozen BK375.out 0;have hfz85_1:=blk_frozen BK375.out 1;have hfz85_2:=blk_frozen BK375.out 2;have hfz85_3:=blk_frozen BK375.out 3;obtain ⟨hcz86_0,hcz86_1,hcz86_2,hcz86_3,hfz86_0,hfz86_1,hfz86_2,hfz86_3⟩:=Up.d4 BK400) | ((with_reducible refine gate_builtin (b:=.append) (xs:=#[.tmp 119,.tmp 121]) rfl ?_);at_builtin;refine Kd.S_append kValD w.heap.size rfl (.tmp 119) (.tmp 121) 24 27 (.agg #[(.string ⟨#[]⟩),(.int .i64 0),(.slice none 0 0),(.slice none 0 0)]) 72 rfl Try.underlying24 info27 rfl (by decide) (by omega) u376002 x376002_2 (⟨t389,t390,t391,t394⟩ : S27) [.string t389,.int .i64 t390,.slice Ao80 t391.length co80,.slice Ao81 t394.length co81] (fun k_ => k_ ≠ gb360 ∧ k_ ≠ gb375 ∧ k_ ≠ gb400) (fun k_ => T_ ≤ k_ ∧ k_ ≠ gb400) rfl rfl ?aP ?aX ?aF ?aO (Below.refl _ _) ?aS ?aL ?_;(case aP => rw [HP9.out.1];exact kValD_mkM (⟨t389,t390,t391,t394⟩ : S27) (v:=.slice Ao80 t391.length co80) (c:=co80) (c3:=0) HP9.out.2 (Kd.S_reads' HO393.out).2.1 HO393.out);(case aX => exact (fun k_ hk => ⟨⟨Nat.ne_of_gt (Nat.lt_of_lt_of_le HG1.out hk.1),Nat.ne_of_gt (Nat.lt_of_lt_of_le HG2.out hk.1),hk.2⟩,fun he => by have := (HO_376002.out.choose_spec.1 k_ he.symm).2;have := hk.1;omega⟩));(case aF => exact (fun k_ hk => ⟨Kd.freshB (g:=gb360) (o:=.cells #[.string x361000_2,.int .i64 x361001_2,.slice none 0 0,.slice none 0 0] 27 (0,0)) (Up.Kup BK360) k_ hk,Kd.freshB (g:=gb375) (o:=.cells #[.string (t368.extract (t369 : Int).toNat ((wrap64 (t369 + 3)) : Int).toNat),.int .i64 0,u376002,.slice none 0 0] 27 (0,0)) (Up.Kup BK375) k_ hk,Kd.freshB (g:=gb400) (o:=.cells #[.string t389,.int .i64 t390,.slice Ao80 t391.length co80,.slice Ao81 t394.length co81] 27 (0,0)) (Up.Kup BK400) k_ hk⟩));(case aO => exact (Kd.S_mono HO_376002.out (fun k_ hk => ⟨⟨hk.1.1,hk.1.2,Nat.ne_of_lt (Nat.lt_of_lt_of_le hk.2 HG9.out)⟩,fun h_ => by have := hk.2;have := h_.1;omega⟩)));(case aS => exact (keep_size (w:=w) (g:=g) (row:=none) (Up.Kz HK)));(case aL => have:=LMc73.out;omega);intro v402 w87 ho hb hg hat;rw [← Ny401.out] at ho;replace BK360:=Aside0.mk (blk_grown (g:=gb360) (o:=.cells #[.string x361000_2,.int .i64 x361001_2,.slice none 0 0,.slice none 0 0] 27 (0,0)) (Up.Kup BK360) hg (Kd.S_away HO_376002.out (fun _ hk => hk.1.1)));replace BK375:=Aside0.mk (blk_grown (g:=gb375) (o:=.cells #[.string (t368.extract (t369 : Int).toNat ((wrap64 (t369 + 3)) : Int).toNat),.int .i64 0,u376002,.slice none 0 0] 27 (0,0)) (Up.Kup BK375) hg (Kd.S_away HO_376002.out (fun _ hk => hk.1.2)));replace BK400:=Aside0.mk (blk_grown (g:=gb400) (o:=.cells #[.string t389,.int .i64 t390,.slice Ao80 t391.length co80,.slice Ao81 t394.length co81] 27 (0,0)) (Up.Kup BK400) hg (Kd.S_away HO_376002.out (fun k_ hk => Nat.ne_of_lt (Nat.lt_of_lt_of_le hk.2 HG9.out))));replace HB:=Aside0.mk (below_weaken (Up.By HB (IsS105.ge HI0.out)) HL.out hb);replace HI0:=Aside0.mk (IsS105.grown (Jp105 HI0) hg (IsS105.own_neS HI0.out HO_376002.out (by decide)));replace HK:=Aside0.mk (KeepBut.trans (Up.Kz HK) (KeepBut.of_grown hg g) (Kd.S_base2 HO_376002.out));have HO403:=Aside0.mk (ho);clear HO_376002 HO393 HO396 ho hb hg hat;obtain ⟨Ao88,co88,eo88⟩:=Kd.S_slice HO403.out;subst eo88;have hcz89_0 : w87.cell? ⟨gb375,0,none⟩ = some (.string (t368.extract (t369 : Int).toNat ((wrap64 (t369 + 3)) : Int).toNat)):=(blk_cell BK375.out 0).trans rfl;have hcz89_1:=Up.c1 BK375;have hcz89_2:=Up.c2 BK375;have hcz89_3:=Up.c3 BK375;have hfz89_0:=blk_frozen BK375.out 0;have hfz89_1:=blk_frozen BK375.out 1;have hfz89_2:=blk_frozen BK375.out 2;have hfz89_3:=blk_frozen BK375.out 3));go_roundg kj59
               case measure => have:=HJ24.out;have:=HK2.out;have:=HJ59.out;omega
               case rel => exact ⟨(wrap64 (x99_2 + 1)),(t398),(t399),(x361000_2),(x361001_2),(y401),(.slice Ao88 y401.length co88),(by first | rfl | (simp;done) | (simp [*];done)),H',⟨by have:=HJ24.out;have:=HK2.out;have:=HJ59.out;omega⟩,⟨by (with_reducible repeat (first | apply Kd.S_alloc | apply Kd.S_drewN | apply Kd.S_drew | apply Kd.R_alloc | apply Kd.R_drewN | apply Kd.R_drew));exact Kd.S_mono (Kd.S_far (p:=⟨gb375,2,none⟩) (Kd.S_mono HO403.out (fun k_ hk => (⟨hk,hk.2.1⟩ : _ ∧ k_ ≠ gb375))) (fun _ hk => hk.2) (.slice Ao88 y401.length co88)) (fun _ hk => ⟨hk.1.1,hk.1.2.1⟩)⟩,⟨by (with_reducible repeat (first | refine blk_drewN ?_ _ | refine blk_drew ?_ | refine blk_alloc ?_ _));refine blk_far ?_ NB360_375.out _;(with_reducible repeat (first | refine blk_drewN ?_ _ | refine blk_drew ?_ | refine blk_alloc ?_ _));exact BK360.out⟩,⟨by (with_reducible repeat (first | refine blk_drewN ?_ _ | refine blk_drew ?_ | refine blk_alloc ?_ _));refine blk_put (cs:=#[.string (t368.extract (t369 : Int).toNat ((wrap64 (t369 + 3)) : Int).toNat),.int .i64 0,u376002,.slice none 0 0]) ?_ 2 _ rfl;(with_reducible repeat (first | refine blk_drewN ?_ _ | refine blk_drew ?_ | refine blk_alloc ?_ _));exact BK375.out⟩,⟨Jp105 HI0⟩,⟨Up.Kz HK⟩,⟨Up.By HB (IsS105.ge HI0.out)⟩⟩
              ·replace c72:=Bool.eq_false_iff.mpr c72;subst c72;(rw [if_neg (show ¬ (false = true) by decide)] at H);(simp only [Option.some.injEq,Prod.mk.injEq] at H);obtain ⟨rfl,rfl,rfl,rfl,rfl,rfl,rfl⟩:=H;go_wp2_with (first | ((with_reducible refine gate_callee (f:=78) rfl ?_);refine Up.gl (some 112) Try.func78 #[.pointer (some ⟨g,0,none⟩)] ?_;(with_reducible refine (ih kj59 (by have:=HJ24.out;have:=HK2.out;have:=HJ59.out;omega) g s0_0 x1001_59 x1002_59 t389 t390 t391 t394 false t398 t399 w0 _ ?side1 ?side2 A71.out).mono ?_);(case side1 => exact Jp105 HI0);(case side2 => exact Up.By HB (IsS105.ge HI0.out));rintro e w90 ⟨v392,v395,rfl,ho0,ho1,hi,hb,hk,hp_⟩;refine ⟨_,rfl,?_⟩;have HP9:=Aside0.mk hp_;clear hp_;have HO393:=Aside0.mk (Kd.S_lower (Kd.S_newB (Kd.S_newB (Kd.S_new' ho0 (Kd.S_lt (Up.Sup HO_376002))) (g:=gb360) (o:=.cells #[.string x361000_2,.int .i64 x361001_2,.slice none 0 0,.slice none 0 0] 27 (0,0)) (Up.Kup BK360)) (g:=gb375) (o:=.cells #[.string (t368.extract (t369 : Int).toNat ((wrap64 (t369 + 3)) : Int).toNat),.int .i64 0,u376002,.slice none 0 0] 27 (0,0)) (Up.Kup BK375)) (keep_size (w:=w) (g:=g) (row:=none) (Up.Kz HK)));replace HO_376002:=Aside0.mk (Kd.S_mono (Kd.S_told (Kd.S_told (Kd.S_oldK (IsS105.apartS (show IsS105 w0 _ g s0_0 x1001_59 x1002_59 from Jp105 HI0) (Up.Sup HO_376002) (by decide)) hk) (Kd.S_base ho0)) (Kd.R_base ho1)) (fun _ h_ => h_.1));replace BK360:=Up.kb hk BK360 NB360_0;replace BK375:=Aside0.mk (KeepBut.blk hk (g':=gb375) (o:=.cells #[.string (t368.extract (t369 : Int).toNat ((wrap64 (t369 + 3)) : Int).toNat),.int .i64 0,u376002,.slice none 0 0] 27 (0,0)) (Up.Kup BK375) NB375_0.out (by simp));have HO396:=Aside0.mk (Kd.R_lower ho1 (keep_size (w:=w) (g:=g) (row:=none) (Up.Kz HK)));replace HK:=Aside0.mk (KeepBut.trans (Up.Kz HK) hk (.inl rfl));replace HB:=Aside0.mk (hb);replace HI0:=Aside0.mk (hi);(try clear hb);(try clear hb2);(try clear hk);(try clear hi);(try clear ho0);(try clear ho1)) | ((with_reducible refine gate_dst (N:=8) rfl ?_);refine Up.bx 8 27 #[.string (⟨#[]⟩ : ByteArray),.int .i64 0,.slice none 0 0,.slice none 0 0] ?_;intro gb400 hg w91 hbox hb;replace HO_376002:=Aside0.mk (Kd.S_below (Kd.S_elderB (Up.Sup HO_376002) gb400 (Nat.le_of_eq hg.symm)) hb);replace HO393:=Aside0.mk (Kd.S_below (Kd.S_elderB (Up.Sup HO393) gb400 (Nat.le_of_eq hg.symm)) hb);replace HO396:=Up.RB HO396 hb;replace HB:=Aside0.mk (below_step (Up.By HB (IsS105.ge HI0.out)) hb);have BK400:=Aside0.mk (hbox);have GW400:=Aside0.mk ((by rw [hg];exact (keep_size (w:=w) (g:=g) (row:=none) (Up.Kz HK)) : w.heap.size ≤ gb400));have GE400:=Aside0.mk ((Nat.le_trans HW0.out (by rw [hg];exact (keep_size (w:=w) (g:=g) (row:=none) (Up.Kz HK)) : w.heap.size ≤ gb400) : w0.heap.size ≤ gb400));replace HK:=Aside0.mk (KeepBut.trans (Up.Kz HK) (KeepBut.of_below hb g none) (.inl rfl));have NB360_400:=Up.nl hg BK360;have NB400_360:=Up.ng hg BK360;replace BK360:=Up.KB BK360 hb;have NB375_400:=Aside0.mk ((by rw [hg];exact Nat.ne_of_lt (blk_lt (g:=gb375) (o:=.cells #[.string (t368.extract (t369 : Int).toNat ((wrap64 (t369 + 3)) : Int).toNat),.int .i64 0,u376002,.slice none 0 0] 27 (0,0)) (Up.Kup BK375)) : gb375 ≠ gb400));have NB400_375:=Aside0.mk ((by rw [hg];exact Nat.ne_of_gt (blk_lt (g:=gb375) (o:=.cells #[.string (t368.extract (t369 : Int).toNat ((wrap64 (t369 + 3)) : Int).toNat),.int .i64 0,u376002,.slice none 0 0] 27 (0,0)) (Up.Kup BK375)) : gb400 ≠ gb375));replace BK375:=Aside0.mk (blk_below (g:=gb375) (o:=.cells #[.string (t368.extract (t369 : Int).toNat ((wrap64 (t369 + 3)) : Int).toNat),.int .i64 0,u376002,.slice none 0 0] 27 (0,0)) (Up.Kup BK375) hb);have NB0_400:=Aside0.mk ((by rw [hg];exact Nat.ne_of_lt (IsS105.lt (show IsS105 w0 _ g s0_0 t398 t399 from Jp105 HI0)) : g ≠ gb400));have NB400_0:=Aside0.mk ((by rw [hg];exact Nat.ne_of_gt (IsS105.lt (show IsS105 w0 _ g s0_0 t398 t399 from Jp105 HI0)) : gb400 ≠ g));replace HI0:=Aside0.mk (IsS105.below (Jp105 HI0) hb);clear hb hbox hg;have hnb92:=NB400_360.out;have hnc92:=NB360_400.out;have hnb93:=NB400_375.out;have hnc93:=NB375_400.out;have hnb94:=NB400_0.out;have hnc94:=NB0_400.out;obtain ⟨hcz95_0,hcz95_1,hcz95_2,hcz95_3,hfz95_0,hfz95_1,hfz95_2,hfz95_3⟩:=Up.d4 BK400;obtain ⟨Ao96,co96,eo96⟩:=Kd.S_slice HO393.out;subst eo96;obtain ⟨Ao97,co97,eo97⟩:=Kd.R_slice HO396.out;subst eo97;have hnb98:=NB375_360.out;have hnc98:=NB360_375.out;have hnb99:=NB375_0.out;have hnc99:=NB0_375.out;have hcz100_0 : w91.cell? ⟨gb375,0,none⟩ = some (.string (t368.extract (t369 : Int).toNat ((wrap64 (t369 + 3)) : Int).toNat)):=(blk_cell BK375.out 0).trans rfl;have hcz100_1:=Up.c1 BK375;have hcz100_2:=Up.c2 BK375;have hcz100_3:=Up.c3 BK375;have hfz100_0:=blk_frozen BK375.out 0;have hfz100_1:=blk_frozen BK375.out 1;have hfz100_2:=blk_frozen BK375.out 2;have hfz100_3:=blk_frozen BK375.out 3;have hnb101:=NB360_0.out;have hnc101:=NB0_360.out;obtain ⟨hcz102_0,hcz102_1,hcz102_2,hcz102_3,hfz102_0,hfz102_1,hfz102_2,hfz102_3⟩:=Up.d4 BK360;obtain ⟨Ao103,co103,eo103⟩:=Kd.S_slice HO_376002.out;subst eo103));refine bodyPost_ret (results_ct rfl _ _ gb360 27 #[.string (t368.extract (t369 : Int).toNat ((wrap64 (t369 + 3)) : Int).toNat),.int .i64 0,.slice Ao103 x376002_2.length co103,.slice none 0 0] (0,0) _ rfl (Up.Kx BK360) Try.underlying27 rfl (by kernel_rfl)) rfl ?_;exact ⟨_,_,by first | rfl | (simp [errW_none,errW_some] <;> rfl) | (simp [*,errW_none,errW_some] <;> rfl),by (with_reducible repeat (first | apply Kd.S_alloc | apply Kd.S_drewN | apply Kd.S_drew | apply Kd.R_alloc | apply Kd.R_drewN | apply Kd.R_drew));exact Kd.S_mono (Kd.S_far (p:=⟨gb360,3,none⟩) (Kd.S_far (p:=⟨gb360,2,none⟩) (Kd.S_far (p:=⟨gb360,1,none⟩) (Kd.S_far (p:=⟨gb360,0,none⟩) (Kd.S_far (p:=⟨gb400,3,none⟩) (Kd.S_far (p:=⟨gb400,2,none⟩) (Kd.S_far (p:=⟨gb400,1,none⟩) (Kd.S_far (p:=⟨gb400,0,none⟩) (Kd.S_mono (Kd.S_mono HO_376002.out (fun k_ hk => (⟨hk,hk.2⟩ : _ ∧ k_ ≠ gb400))) (fun k_ hk => (⟨hk,hk.1.1.1.1.1⟩ : _ ∧ k_ ≠ gb360))) (fun _ hk => hk.1.2) (.string t389)) (fun _ hk => hk.1.2) (.int .i64 t390)) (fun _ hk => hk.1.2) (.slice Ao96 t391.length co96)) (fun _ hk => hk.1.2) (.slice Ao97 t394.length co97)) (fun _ hk => hk.2) (.string (t368.extract (t369 : Int).toNat ((wrap64 (t369 + 3)) : Int).toNat))) (fun _ hk => hk.2) (.int .i64 0)) (fun _ hk => hk.2) (.slice Ao103 x376002_2.length co103)) (fun _ hk => hk.2) (.slice none 0 0)) (fun _ hk => (by simp [Value.ownBlock])),by first | exact Kd.R_nil _ _ _ _ _ | exact Kd.N_nil _ _ _ _ _ | exact Kd.V_nil _ _ _ _ _ | exact Kd.Q_nil _ _ _ _ _ | exact Kd.S_nil _ _ _ _ _,Jp105 HI0,Up.By HB (IsS105.ge HI0.out),Up.Kz HK,by first | exact ⟨rfl,rfl⟩ | exact ⟨rfl,trivial⟩ | exact HP9.out | trivial⟩
          ·(rw [if_neg c59] at H);have c59b0:=decide_eq_false c59;clear c59;replace H:=Up.bd H;obtain ⟨⟨t383,t384,t385⟩,A104,H⟩:=H;(try dsimp only at H);(simp only [Option.some.injEq,Prod.mk.injEq] at H);obtain ⟨rfl,rfl,rfl,rfl,rfl,rfl,rfl⟩:=H;(try go_wp2);replace HO_376002:=Aside0.mk (Kd.S_drew HO_376002.out);replace BK360:=Aside0.mk (blk_drew BK360.out);replace BK375:=Aside0.mk (blk_drew BK375.out);replace HI0:=Aside0.mk (IsS105.drew HI0.out);replace HK:=Aside0.mk (keep_drew HK.out);replace HB:=Aside0.mk (below_drew1 HB.out);obtain ⟨ASZ106_0,cSZ106_0,HGZ106,hgZ106,HSZ106_0⟩:=HI0.out;have hcZ106_0:=cellS105_0 HGZ106;have hcZ106_1:=cellS105_1 HGZ106;have hcZ106_2:=cellS105_2 HGZ106;have hfZ106_1:=blk_frozen HGZ106 1;have hfZ106_2:=blk_frozen HGZ106 2;clear HGZ106 hgZ106;refine start_ (n:=5) (S:=fun w' => w'.cell? ⟨gb375,0,none⟩ = some (.string (t368.extract (t369 : Int).toNat ((wrap64 (t369 + 3)) : Int).toNat)) ∧ w'.cell? ⟨gb375,1,none⟩ = some (.int .i64 0) ∧ w'.cell? ⟨gb375,2,none⟩ = some (u376002) ∧ w'.cell? ⟨gb375,3,none⟩ = some (.slice none 0 0)) (ds:=[]) #[false,false,false,false,false] (by kernel_rfl) rfl rfl ⟨Up.c0 BK375,Up.c1 BK375,Up.c2 BK375,Up.c3 BK375⟩ (fun hHeld => ?_);(generalize wr.drew = w105 at HO_376002 BK360 BK375 HI0 HK HB hcZ106_0 hcZ106_1 hcZ106_2 hfZ106_1 hfZ106_2 hHeld ⊢);refine Up.pn 1 (some 126) ?_;refine take_ (i:=0) (N:=some 125) (v:=?_) (a':=?_) #[true,true,false,false,false] rfl rfl (by kernel_rfl) (fun _ _ _ h => h) (Or.inl ⟨by rfl,?_⟩) hHeld ?_ ?_;rotate_left
           ·rintro w' ⟨s0,s1,s2,s3⟩;go_simp
            with_reducible rfl
           rotate_left
           ·simp only [Act.put,List.setIfInBounds_toArray,List.set_cons_zero,List.set_cons_succ,i64_w,i32_w];rfl
           refine one_ (i:=2) (N:=some 127) #[true,true,true,false,false] rfl rfl (by kernel_rfl) (by decide) (fun K hK => ?_);refine Up.go Try.func110 #[.pointer (some ⟨g,0,none⟩),.string (⟨#[41]⟩ : ByteArray)] ?_
           with_reducible refine (impl_valueReader_sees.calls g s0_0 x1001_2 x1002_2 (⟨#[41]⟩ : ByteArray) t383 t384 t385 w0 _ ?side1 ?side2 A104.out).mono ?_
           (case side1 => exact Jp105 HI0);(case side2 => exact Up.By HB (IsS105.ge HI0.out));rintro e w107 ⟨rfl,hi,hb,hk⟩;refine ⟨_,rfl,?_⟩;replace HO_376002:=Aside0.mk (Kd.S_mono (Kd.S_keep (IsS105.apartS (show IsS105 w0 _ g s0_0 x1001_2 x1002_2 from Jp105 HI0) (Up.Sup HO_376002) (by decide)) hk (fun _ h => h.2)) (fun _ h => h.1));replace BK360:=Up.kb hk BK360 NB360_0;replace BK375:=Aside0.mk (KeepBut.blk hk (g':=gb375) (o:=.cells #[.string (t368.extract (t369 : Int).toNat ((wrap64 (t369 + 3)) : Int).toNat),.int .i64 0,u376002,.slice none 0 0] 27 (0,0)) (Up.Kup BK375) NB375_0.out (by simp));replace HK:=Aside0.mk (KeepBut.trans (Up.Kz HK) hk (.inl rfl));replace HB:=Aside0.mk (hb);replace HI0:=Aside0.mk (hi);(try clear hb);(try clear hb2);(try clear hk);(try clear hi);obtain ⟨Ao110,co110,eo110⟩:=Kd.S_slice HO_376002.out;(first | subst eo110 | (injection eo110 with f1_ f2_ f3_;have f4_:=f1_.symm;have f5_:=f3_.symm;clear f1_ f2_ f3_;subst f4_;subst f5_));refine hK.out _ _ ⟨Up.c0 BK375,Up.c1 BK375,Up.c2 BK375,Up.c3 BK375⟩ (fun hHeld => ?_);clear hK K;refine Up.nm 127 ?_;refine one_ (i:=3) (N:=none) #[true,true,true,true,false] rfl rfl (by kernel_rfl) (by decide) (fun K hK => ?_);have hs108:=Up.c0 BK360;have hfs108:=blk_frozen BK360.out 0;have hns108_1:=NB375_360.out;have hms108_1:=NB360_375.out;have hs109:=Up.c1 BK360;have hfs109:=blk_frozen BK360.out 1;have hns109_1:=NB375_360.out;have hms109_1:=NB360_375.out;have hs111:=Up.c2 BK360;have hfs111:=blk_frozen BK360.out 2;have hns111_1:=NB375_360.out;have hms111_1:=NB360_375.out;have hs112:=Up.c3 BK360;have hfs112:=blk_frozen BK360.out 3;have hns112_1:=NB375_360.out;have hms112_1:=NB360_375.out;refine skip_ (w1:=?_) (by rfl) rfl ?_ ?_;rotate_left
           ·go_simp;rfl
           refine hK.out _ _ ⟨((cell_far (p:=⟨gb360,_,none⟩) NB375_360.out _).trans (((cell_far (p:=⟨gb360,_,none⟩) NB375_360.out _).trans (((cell_far (p:=⟨gb360,_,none⟩) NB375_360.out _).trans (((cell_far (p:=⟨gb360,_,none⟩) NB375_360.out _).trans (hHeld.1)))))))),((cell_far (p:=⟨gb360,_,none⟩) NB375_360.out _).trans (((cell_far (p:=⟨gb360,_,none⟩) NB375_360.out _).trans (((cell_far (p:=⟨gb360,_,none⟩) NB375_360.out _).trans (((cell_far (p:=⟨gb360,_,none⟩) NB375_360.out _).trans (hHeld.2.1)))))))),((cell_far (p:=⟨gb360,_,none⟩) NB375_360.out _).trans (((cell_far (p:=⟨gb360,_,none⟩) NB375_360.out _).trans (((cell_far (p:=⟨gb360,_,none⟩) NB375_360.out _).trans (((cell_far (p:=⟨gb360,_,none⟩) NB375_360.out _).trans (hHeld.2.2.1)))))))),((cell_far (p:=⟨gb360,_,none⟩) NB375_360.out _).trans (((cell_far (p:=⟨gb360,_,none⟩) NB375_360.out _).trans (((cell_far (p:=⟨gb360,_,none⟩) NB375_360.out _).trans (((cell_far (p:=⟨gb360,_,none⟩) NB375_360.out _).trans (hHeld.2.2.2))))))))⟩ (fun hHeld => ?_);clear hK K;refine Up.pn 4 (some 3) ?_;refine done_ (by kernel_rfl) ?_;(try go_wp2);refine bodyPost_ret (results_ct rfl _ _ gb360 27 #[.string (t368.extract (t369 : Int).toNat ((wrap64 (t369 + 3)) : Int).toNat),.int .i64 0,.slice Ao110 x376002_2.length co110,.slice none 0 0] (0,0) _ rfl (Up.Kx BK360) Try.underlying27 rfl (by kernel_rfl)) rfl ?_;exact ⟨_,_,by first | rfl | (simp [errW_none,errW_some] <;> rfl) | (simp [*,errW_none,errW_some] <;> rfl),by (with_reducible repeat (first | apply Kd.S_alloc | apply Kd.S_drewN | apply Kd.S_drew | apply Kd.R_alloc | apply Kd.R_drewN | apply Kd.R_drew));exact Kd.S_mono (Sf4 (g:=gb360) HO_376002.out (fun _ hk => hk.1)) (fun _ hk => (by simp [Value.ownBlock])),by first | exact Kd.R_nil _ _ _ _ _ | exact Kd.N_nil _ _ _ _ _ | exact Kd.V_nil _ _ _ _ _ | exact Kd.Q_nil _ _ _ _ _ | exact Kd.S_nil _ _ _ _ _,Jp105 HI0,Up.By HB (IsS105.ge HI0.out),Up.Kz HK,by first | exact ⟨rfl,rfl⟩ | exact ⟨rfl,trivial⟩ | exact HP9.out | trivial⟩
       ·replace c44:=Bool.eq_false_iff.mpr c44;subst c44;(rw [if_neg (show ¬ (false = true) by decide)] at H);(simp only [Option.some.injEq,Prod.mk.injEq] at H);obtain ⟨rfl,rfl,rfl,rfl,rfl,rfl,rfl⟩:=H;(try go_wp2);replace BK360:=Aside0.mk (blk_drew BK360.out);replace HI0:=Aside0.mk (IsS105.drew HI0.out);replace HK:=Aside0.mk (keep_drew HK.out);replace HB:=Aside0.mk (below_drew1 HB.out);obtain ⟨ASZ114_0,cSZ114_0,HGZ114,hgZ114,HSZ114_0⟩:=HI0.out;have hcZ114_0:=cellS105_0 HGZ114;have hcZ114_1:=cellS105_1 HGZ114;have hcZ114_2:=cellS105_2 HGZ114;have hfZ114_1:=blk_frozen HGZ114 1;have hfZ114_2:=blk_frozen HGZ114 2;clear HGZ114 hgZ114;refine start_ (n:=17) (S:=fun w' => w'.cell? ⟨g,0,none⟩ = some (.slice ASZ114_0 s0_0.length cSZ114_0) ∧ w'.cell? ⟨g,1,none⟩ = some (.string t368) ∧ w'.cell? ⟨g,2,none⟩ = some (.int .i64 t369)) (ds:=[]) #[false,false,false,false,false,false,false,false,false,false,false,false,false,false,false,false,false] (by kernel_rfl) rfl rfl ⟨hcZ114_0,hcZ114_1,hcZ114_2⟩ (fun hHeld => ?_);refine with_tabW impl_valueReader_value.tab9 impl_valueReader_value.bits9 (fun HT_ HW_ => ?_);(generalize wc.drew = w113 at BK360 HI0 HK HB hcZ114_0 hcZ114_1 hcZ114_2 hfZ114_1 hfZ114_2 hHeld ⊢);refine Up.pu 0 (some 64) HT_ ?_;refine Up.pu 1 (some 65) HT_ ?_;refine Up.pu 2 (some 66) HT_ ?_;refine Up.pu 4 (some 68) HT_ ?_;refine Up.pu 5 (some 69) HT_ ?_;refine Up.pu 6 (some 70) HT_ ?_;refine Up.pu 8 (some 72) HT_ ?_;refine Up.pu 9 (some 73) HT_ ?_;refine Up.pu 10 (some 74) HT_ ?_;refine Up.tk 3 (some 67) HT_ HW_ hHeld ?_ (hy:=by rintro w' ⟨s0,s1,s2⟩;go_simp;with_reducible rfl);refine Up.tk 7 (some 71) HT_ HW_ hHeld ?_ (hy:=by rintro w' ⟨s0,s1,s2⟩;go_simp;with_reducible rfl);refine Up.tk 11 (some 75) HT_ HW_ hHeld ?_ (hy:=by rintro w' ⟨s0,s1,s2⟩;go_simp;with_reducible rfl);refine Up.pu 12 (some 76) HT_ ?_;refine Up.pu 13 (some 77) HT_ ?_;refine Up.pu 14 (some 78) HT_ ?_;refine Up.on 15 (some 6) HT_ (fun K hK => ?_);refine box_step ?hg (N:=6) ?hd (cs:=#[.string (⟨#[]⟩ : ByteArray),.int .i64 0,.slice none 0 0,.slice none 0 0]) (t:=27) ?hr ?_;(case hd => rfl);(case hg => rfl);(case hr => first | (go_simp;done) | (go_simp;rfl));intro gb375 hg w115 hbox hb;have HS0_:=(hb.cell (World.block_lt_of_cell? _ _ (hHeld.1))).trans (hHeld.1);have HS1_:=(hb.cell (World.block_lt_of_cell? _ _ (hHeld.2.1))).trans (hHeld.2.1);have HS2_:=(hb.cell (World.block_lt_of_cell? _ _ (hHeld.2.2))).trans (hHeld.2.2);replace HB:=Aside0.mk (below_step (Up.Bt HB (IsS105.ge HI0.out) GE360) hb);have BK375:=Aside0.mk (hbox);have GW375:=Aside0.mk ((by rw [hg];exact (keep_size (w:=w) (g:=g) (row:=none) (Up.Kp HK GW360)) : w.heap.size ≤ gb375));have GE375:=Aside0.mk ((Nat.le_trans HW0.out (by rw [hg];exact (keep_size (w:=w) (g:=g) (row:=none) (Up.Kp HK GW360)) : w.heap.size ≤ gb375) : w0.heap.size ≤ gb375));replace HK:=Aside0.mk (KeepBut.trans (Up.Kp HK GW360) (KeepBut.of_below hb g none) (.inl rfl));have NB360_375:=Up.nl hg BK360;have NB375_360:=Up.ng hg BK360;replace BK360:=Up.KB BK360 hb;have NB0_375:=Aside0.mk ((by rw [hg];exact Nat.ne_of_lt (IsS105.lt (show IsS105 w0 _ g s0_0 t368 t369 from Jp105 HI0)) : g ≠ gb375));have NB375_0:=Aside0.mk ((by rw [hg];exact Nat.ne_of_gt (IsS105.lt (show IsS105 w0 _ g s0_0 t368 t369 from Jp105 HI0)) : gb375 ≠ g));replace HI0:=Aside0.mk (IsS105.below (Jp105 HI0) hb);clear hb hbox hg;refine hK.out _ _ ⟨HS0_,HS1_,HS2_⟩ (fun hHeld => ?_);clear hK K;refine Up.nm 6 ?_;refine Up.on 16 (none) HT_ (fun K hK => ?_);have hs116:=Up.c0 BK375;have hfs116:=blk_frozen BK375.out 0;have hns116_0:=NB360_375.out;have hms116_0:=NB375_360.out;have hs117:=Up.c1 BK375;have hfs117:=blk_frozen BK375.out 1;have hns117_0:=NB360_375.out;have hms117_0:=NB375_360.out;have hs118:=Up.c2 BK375;have hfs118:=blk_frozen BK375.out 2;have hns118_0:=NB360_375.out;have hms118_0:=NB375_360.out;have hs119:=Up.c3 BK375;have hfs119:=blk_frozen BK375.out 3;have hns119_0:=NB360_375.out;have hms119_0:=NB375_360.out;refine skip_ (w1:=?_) (by rfl) rfl ?_ ?_;rotate_left
        ·go_simp;rfl
        refine hK.out _ _ ⟨(Up.cx hHeld.1),(Up.cx hHeld.2.1),(Up.cx hHeld.2.2)⟩ (fun hHeld => ?_);clear hK K;refine done_ (done_of HT_.out (by kernel_rfl)) ?_;obtain ⟨ASZ120_0,cSZ120_0,HGZ120,hgZ120,HSZ120_0⟩:=HI0.out;have hcZ120_0:=cellS105_0 HGZ120;have hcZ120_1:=cellS105_1 HGZ120;have hcZ120_2:=cellS105_2 HGZ120;have hfZ120_1:=blk_frozen HGZ120 1;have hfZ120_2:=blk_frozen HGZ120 2;clear HGZ120 hgZ120;(try go_wp2_with (first | ((with_reducible refine gate_callee (f:=110) rfl ?_);refine Up.gl (some 87) Try.func110 #[.pointer (some ⟨g,0,none⟩),.string (⟨#[40]⟩ : ByteArray)] ?_;(with_reducible refine (impl_valueReader_sees.calls g s0_0 t368 (wrap64 (t369 + 3)) (⟨#[40]⟩ : ByteArray) false t377 t378 w0 _ ?side1 ?side2 A43.out).mono ?_);(case side1 => exact Jp105 HI0);(case side2 => exact Up.By HB (IsS105.ge HI0.out));rintro e w121 ⟨rfl,hi,hb,hk⟩;refine ⟨_,rfl,?_⟩;replace BK360:=Aside0.mk (KeepBut.blk hk (g':=gb360) (o:=.cells #[.string (⟨#[]⟩ : ByteArray),.int .i64 0,.slice none 0 0,.slice none 0 0] 27 (0,0)) (Up.Kx BK360) NB360_0.out (by simp));replace BK375:=Aside0.mk (KeepBut.blk hk (g':=gb375) (o:=.cells #[.string (t368.extract (t369 : Int).toNat ((wrap64 (t369 + 3)) : Int).toNat),.int .i64 0,.slice none 0 0,.slice none 0 0] 27 (0,0)) (Up.Kx BK375) NB375_0.out (by simp));replace HK:=Aside0.mk (KeepBut.trans (Up.Kz HK) hk (.inl rfl));replace HB:=Aside0.mk (hb);replace HI0:=Aside0.mk (hi);(try clear hb);(try clear hb2);(try clear hk);(try clear hi);have hnb122:=NB375_360.out;have hnc122:=NB360_375.out;have hnb123:=NB375_0.out;have hnc123:=NB0_375.out;have hcz124_0 : w121.cell? ⟨gb375,0,none⟩ = some (.string (t368.extract (t369 : Int).toNat ((wrap64 (t369 + 3)) : Int).toNat)):=(blk_cell BK375.out 0).trans rfl;have hcz124_1:=Up.c1 BK375;have hcz124_2:=Up.c2 BK375;have hcz124_3:=Up.c3 BK375;have hfz124_0:=blk_frozen BK375.out 0;have hfz124_1:=blk_frozen BK375.out 1;have hfz124_2:=blk_frozen BK375.out 2;have hfz124_3:=blk_frozen BK375.out 3;have hnb125:=NB360_0.out;have hnc125:=NB0_360.out;obtain ⟨hcz126_0,hcz126_1,hcz126_2,hcz126_3,hfz126_0,hfz126_1,hfz126_2,hfz126_3⟩:=Up.d4 BK360)));refine bodyPost_ret (results_ct rfl _ _ gb360 27 #[.string (t368.extract (t369 : Int).toNat ((wrap64 (t369 + 3)) : Int).toNat),.int .i64 0,.slice none 0 0,.slice none 0 0] (0,0) _ rfl (Up.Kx BK360) Try.underlying27 rfl (by kernel_rfl)) rfl ?_;exact ⟨_,_,by first | rfl | (simp [errW_none,errW_some] <;> rfl) | (simp [*,errW_none,errW_some] <;> rfl),by first | exact Kd.R_nil _ _ _ _ _ | exact Kd.N_nil _ _ _ _ _ | exact Kd.V_nil _ _ _ _ _ | exact Kd.Q_nil _ _ _ _ _ | exact Kd.S_nil _ _ _ _ _,by first | exact Kd.R_nil _ _ _ _ _ | exact Kd.N_nil _ _ _ _ _ | exact Kd.V_nil _ _ _ _ _ | exact Kd.Q_nil _ _ _ _ _ | exact Kd.S_nil _ _ _ _ _,Jp105 HI0,Up.By HB (IsS105.ge HI0.out),Up.Kz HK,by first | exact ⟨rfl,rfl⟩ | exact ⟨rfl,trivial⟩ | exact HP9.out | trivial⟩
      ·replace c39:=Bool.eq_false_iff.mpr c39;subst c39;(rw [if_neg (show ¬ (false = true) by decide)] at H);replace H:=Up.bd H;obtain ⟨⟨t404,t405,t406,t407⟩,A127,H⟩:=H;(try dsimp only at H);(simp only [Option.some.injEq,Prod.mk.injEq] at H);obtain ⟨rfl,rfl,rfl,rfl,rfl,rfl,rfl⟩:=H;go_wp2_with (first | ((with_reducible refine gate_callee (f:=111) rfl ?_);refine Up.gl (some 130) Try.func111 #[.pointer (some ⟨g,0,none⟩)] ?_;(with_reducible refine (impl_valueReader_number.calls kj24 g s0_0 t368 t369 t404 t405 t406 t407 w0 _ ?side1 ?side2 A127.out).mono ?_);(case side1 => exact Jp105 HI0);(case side2 => exact Up.By HB (IsS105.ge HI0.out));rintro e w128 ⟨rfl,hi,hb,hk⟩;refine ⟨_,rfl,?_⟩;replace BK360:=Up.kb hk BK360 NB360_0;replace HK:=Aside0.mk (KeepBut.trans (Up.Kp HK GW360) hk (.inl rfl));replace HB:=Aside0.mk (hb);replace HI0:=Aside0.mk (hi);(try clear hb);(try clear hb2);(try clear hk);(try clear hi);have hnb129:=NB360_0.out;have hnc129:=NB0_360.out;obtain ⟨hcz130_0,hcz130_1,hcz130_2,hcz130_3,hfz130_0,hfz130_1,hfz130_2,hfz130_3⟩:=Up.d4 BK360));refine bodyPost_ret (results_ct rfl _ _ gb360 27 #[.string (⟨#[110]⟩ : ByteArray),.int .i64 t404,.slice none 0 0,.slice none 0 0] (0,0) _ rfl (Up.Kx BK360) Try.underlying27 rfl (by kernel_rfl)) rfl ?_;exact ⟨_,_,by first | rfl | (simp [errW_none,errW_some] <;> rfl) | (simp [*,errW_none,errW_some] <;> rfl),by first | exact Kd.R_nil _ _ _ _ _ | exact Kd.N_nil _ _ _ _ _ | exact Kd.V_nil _ _ _ _ _ | exact Kd.Q_nil _ _ _ _ _ | exact Kd.S_nil _ _ _ _ _,by first | exact Kd.R_nil _ _ _ _ _ | exact Kd.N_nil _ _ _ _ _ | exact Kd.V_nil _ _ _ _ _ | exact Kd.Q_nil _ _ _ _ _ | exact Kd.S_nil _ _ _ _ _,Jp105 HI0,Up.By HB (IsS105.ge HI0.out),Up.Kz HK,by first | exact ⟨rfl,rfl⟩ | exact ⟨rfl,trivial⟩ | exact HP9.out | trivial⟩
set_option maxHeartbeats 16000000 in
set_option maxRecDepth 100000 in
theorem valueRead_own (k : Nat) (A0 : Option Addr) (c0 : Nat) (l0 : List (List (S113))) (a1 : ByteArray) (r1 : ByteArray) (r2 : Int) (r3 : List (S27)) (r4 : List Int) (r5 : Bool) (w : World) (hr0 : Kd.C (Kd.slice 113 k113) w A0 l0.length l0) (hc0 : l0.length ≤ c0) (h : impl_ValueRead.f k l0 a1 = some (r1,r2,r3,r4,r5)) :
  Calls Try.prog 34 #[.slice A0 l0.length c0,.string a1] w fun e w' => ∃ v2_ v3_ : Value,e = .returned (.tuple #[.agg #[.string r1,.int .i64 r2,v2_,v3_],.bool r5]) ∧ Kd.S kValD 27 w' w.heap.size (fun k_ => some k_ ≠ (v3_ : Value).ownBlock) v2_ r3 ∧ Kd.R (Kd.int .i64) 3 w' w.heap.size (fun _ => True) v3_ r4 ∧ Below w.heap.size w w' ∧ (v3_ = .slice none 0 0 ∧ r4 = []):=by
 have hu27:=Try.underlying27;have hu105:=Try.underlying105;have HR0:=Aside0.mk hr0;have HC0:=Aside0.mk hc0;clear hr0 hc0;have HB:=Aside0.mk (Below.refl w.heap.size w);have H : ((impl_KindsOk.f k l0).bind fun t409 => (if t409 = true then ((impl_valueReader_value.f k l0 a1 0).bind fun bt411 => (if bt411.2.2.2.2.1 = true then (if bt411.2.2.2.2.2.2 = (a1.size : Int) then ((impl_valueFits.f k l0 bt411.1 bt411.2.1 bt411.2.2.1 bt411.2.2.2.1).bind fun t423 => (if t423 = true then (some (bt411.1,bt411.2.1,bt411.2.2.1,bt411.2.2.2.1,true)) else (some ((⟨#[]⟩ : ByteArray),0,([] : List (S27)),([] : List Int),false)))) else (some ((⟨#[]⟩ : ByteArray),0,([] : List (S27)),([] : List Int),false))) else (some ((⟨#[]⟩ : ByteArray),0,([] : List (S27)),([] : List Int),false)))) else (some ((⟨#[]⟩ : ByteArray),0,([] : List (S27)),([] : List Int),false)))) = some (r1,r2,r3,r4,r5):=h;clear h;replace H:=Up.bd H;obtain ⟨t409,A3,H⟩:=H;(try dsimp only at H);by_cases c4 : t409 = true
 ·subst c4;(rw [if_pos rfl] at H);replace H:=Up.bd H;obtain ⟨⟨t411,t412,t413,t416,t419,t420,t421⟩,A5,H⟩:=H;(try dsimp only at H);by_cases c6 : t419 = true
  ·subst c6;(rw [if_pos rfl] at H);by_cases c7 : t421 = (a1.size : Int)
   ·(rw [if_pos c7] at H);have c7b0 : (t421 == (a1.size : Int)) = true:=beq_iff_eq.mpr c7;have c7b1 : (t421 != (a1.size : Int)) = false:=bne_eq_false_iff_eq.mpr c7;clear c7;replace H:=Up.bd H;obtain ⟨t423,A8,H⟩:=H;(try dsimp only at H);by_cases c9 : t423 = true
    ·subst c9;(rw [if_pos rfl] at H);(simp only [Option.some.injEq,Prod.mk.injEq] at H);obtain ⟨rfl,rfl,rfl,rfl,rfl⟩:=H;go_enter Try.func34,Try.ntmps34;go_wp2_with (first | ((with_reducible refine gate_dst (N:=4) rfl ?_);(try (refine gate_guard (by rfl) ?_;dsimp only));refine Up.bx 4 27 #[.string (⟨#[]⟩ : ByteArray),.int .i64 0,.slice none 0 0,.slice none 0 0] ?_;intro gb408 hg w10 hbox hb;have BK408:=Aside0.mk (hbox);have GW408:=Up.gw hg HB;have GE408:=Up.gw hg HB;replace HB:=Up.BB HB hb;clear hb hbox hg) | ((with_reducible refine gate_callee (f:=45) rfl ?_);refine Up.gl (some 10) Try.func45 #[.slice A0 l0.length c0] ?_;(with_reducible refine (impl_KindsOk.calls k _ _ l0 true _ ?side1 ?side2 A3.out).mono ?_);(case side1 => exact Up.Cx HR0 HB);(case side2 => exact HC0.out);rintro e w11 ⟨rfl,hb⟩;refine ⟨_,rfl,?_⟩;replace BK408:=Up.KB BK408 hb;replace HB:=Aside0.mk (below_step (Up.Bx HB) hb);(try clear hb);(try clear hb2);(try clear hk);(try clear hi)) | ((with_reducible refine gate_dst (N:=16) rfl ?_);(try (refine gate_guard (by rfl) ?_;dsimp only));refine Up.bx 16 105 #[.slice A0 l0.length c0,.string a1,.int .i64 0] ?_;intro gb410 hg w12 hbox hb;have BK410:=Aside0.mk (hbox);have GW410:=Up.gw hg HB;have GE410:=Up.gw hg HB;replace HB:=Aside0.mk (below_step (Up.Bx HB) hb);have NB408_410:=Up.nl hg BK408;have NB410_408:=Up.ng hg BK408;replace BK408:=Up.KB BK408 hb;clear hb hbox hg;have HI410:=Aside0.mk (show IsS105 w w12 gb410 l0 a1 0 from ⟨A0,⟨c0,HC0.out⟩,BK410.out,GW410.out,HR0.out⟩);clear BK410) | ((with_reducible refine gate_callee (f:=78) rfl ?_);refine Up.gl (some 19) Try.func78 #[.pointer (some ⟨gb410,0,none⟩)] ?_;(with_reducible refine (value_own k gb410 l0 a1 0 t411 t412 t413 t416 true t420 t421 w _ ?side1 ?side2 A5.out).mono ?_);(case side1 => exact Jp105 HI410);(case side2 => exact Up.By HB (IsS105.ge HI410.out));rintro e w13 ⟨v414,v417,rfl,ho0,ho1,hi,hb,hk,hp_⟩;refine ⟨_,rfl,?_⟩;have HP9:=Aside0.mk hp_;clear hp_;have HO415:=Aside0.mk (Kd.S_lower (Kd.S_newB ho0 (g:=gb408) (o:=.cells #[.string (⟨#[]⟩ : ByteArray),.int .i64 0,.slice none 0 0,.slice none 0 0] 27 (0,0)) (Up.Kup BK408)) (below_size (Up.By HB (IsS105.ge HI410.out))));replace BK408:=Up.kb hk BK408 NB408_410;have HO418:=Aside0.mk (Kd.R_lower ho1 (below_size (Up.By HB (IsS105.ge HI410.out))));replace HB:=Aside0.mk (hb);replace HI410:=Aside0.mk (hi);(try clear hb);(try clear hb2);(try clear hk);(try clear hi);(try clear ho0);(try clear ho1)) | ((with_reducible refine gate_dst (N:=7) rfl ?_);(try (refine gate_guard (by rfl) ?_;dsimp only));refine Up.bx 7 27 #[.string (⟨#[]⟩ : ByteArray),.int .i64 0,.slice none 0 0,.slice none 0 0] ?_;intro gb422 hg w14 hbox hb;replace HO415:=Aside0.mk (Kd.S_below (Kd.S_elderB (Up.Sup HO415) gb422 (Nat.le_of_eq hg.symm)) hb);replace HO418:=Up.RB HO418 hb;have BK422:=Aside0.mk (hbox);have GW422:=Aside0.mk ((by rw [hg];exact (below_size (Up.By HB (IsS105.ge HI410.out))) : w.heap.size ≤ gb422));have GE422:=Aside0.mk ((by rw [hg];exact (below_size (Up.By HB (IsS105.ge HI410.out))) : w.heap.size ≤ gb422));replace HB:=Aside0.mk (below_step (Up.By HB (IsS105.ge HI410.out)) hb);have NB408_422:=Up.nl hg BK408;have NB422_408:=Up.ng hg BK408;replace BK408:=Up.KB BK408 hb;have NB410_422:=Aside0.mk ((by rw [hg];exact Nat.ne_of_lt (IsS105.lt (show IsS105 w _ gb410 l0 t420 t421 from Jp105 HI410)) : gb410 ≠ gb422));have NB422_410:=Aside0.mk ((by rw [hg];exact Nat.ne_of_gt (IsS105.lt (show IsS105 w _ gb410 l0 t420 t421 from Jp105 HI410)) : gb422 ≠ gb410));replace HI410:=Aside0.mk (IsS105.below (Jp105 HI410) hb);clear hb hbox hg;have hnb15:=NB422_408.out;have hnc15:=NB408_422.out;have hnb16:=NB422_410.out;have hnc16:=NB410_422.out;obtain ⟨hcz17_0,hcz17_1,hcz17_2,hcz17_3,hfz17_0,hfz17_1,hfz17_2,hfz17_3⟩:=Up.d4 BK422;obtain ⟨Ao18,co18,eo18⟩:=Kd.S_slice HO415.out;subst eo18;obtain ⟨Ao19,co19,eo19⟩:=Kd.R_slice HO418.out;subst eo19;obtain ⟨ASZ20_0,cSZ20_0,HGZ20,hgZ20,HSZ20_0⟩:=HI410.out;have hcZ20_0:=cellS105_0 HGZ20;have hcZ20_1:=cellS105_1 HGZ20;have hcZ20_2:=cellS105_2 HGZ20;have hfZ20_1:=blk_frozen HGZ20 1;have hfZ20_2:=blk_frozen HGZ20 2;clear HGZ20 hgZ20) | (go_at_call 46;(with_reducible refine (impl_valueFits.calls k _ _ l0 t411 t412 _ _ t413 _ _ t416 true _ ?side1 ?side2 ?side3 ?side4 ?side5 ?side6 A8.out).mono ?_);(case side1 => exact Kd.C_below HR0.out (Up.By HB (IsS105.ge HI410.out)));(case side2 => exact HC0.out);(case side3 => refine (C_val (e:=27) (base:=w.heap.size) (ok:=fun k_ => ((some k_ ≠ (.slice Ao19 t416.length co19 : Value).ownBlock ∧ k_ ≠ gb408) ∧ k_ ≠ gb422)) (n:=t413.length) (c:=co18) ?_).2.2;exact (by (with_reducible repeat (first | apply Kd.S_alloc | apply Kd.S_drewN | apply Kd.S_drew | apply Kd.R_alloc | apply Kd.R_drewN | apply Kd.R_drew));exact (Kd.S_mono (Sf4 (g:=gb422) HO415.out (fun _ hk => hk.2)) (fun _ h_ => h_.1))));(case side4 => exact (C_val HO415.out).2.1);(case side5 => refine (Kd.R_reads' (e:=3) (base:=w.heap.size) (ok:=fun k_ => True) (n:=t416.length) (c:=co19) ?_).2.2;exact (by (with_reducible repeat (first | apply Kd.S_alloc | apply Kd.S_drewN | apply Kd.S_drew | apply Kd.R_alloc | apply Kd.R_drewN | apply Kd.R_drew));exact (Kd.R_mono (Kd.R_far (p:=⟨gb422,3,none⟩) (Kd.R_far (p:=⟨gb422,2,none⟩) (Kd.R_far (p:=⟨gb422,1,none⟩) (Kd.R_far (p:=⟨gb422,0,none⟩) (Kd.R_types HO418.out BK422.out (by decide)) (fun _ hk => hk.2) (.string t411)) (fun _ hk => hk.2) (.int .i64 t412)) (fun _ hk => hk.2) (.slice Ao18 t413.length co18)) (fun _ hk => hk.2) (.slice Ao19 t416.length co19)) (fun _ h_ => h_.1))));(case side6 => exact (Kd.R_reads' HO418.out).2.1);rintro e w21 ⟨rfl,hb⟩;replace HO415:=Aside0.mk (Kd.S_below (by (with_reducible repeat (first | apply Kd.S_alloc | apply Kd.S_drewN | apply Kd.S_drew | apply Kd.R_alloc | apply Kd.R_drewN | apply Kd.R_drew));exact (Kd.S_mono (Sf4 (g:=gb422) HO415.out (fun _ hk => hk.2)) (fun _ h_ => h_.1))) hb);replace HO418:=Aside0.mk (Kd.R_below (by (with_reducible repeat (first | apply Kd.S_alloc | apply Kd.S_drewN | apply Kd.S_drew | apply Kd.R_alloc | apply Kd.R_drewN | apply Kd.R_drew));exact (Kd.R_mono (Kd.R_far (p:=⟨gb422,3,none⟩) (Kd.R_far (p:=⟨gb422,2,none⟩) (Kd.R_far (p:=⟨gb422,1,none⟩) (Kd.R_far (p:=⟨gb422,0,none⟩) (Kd.R_types HO418.out BK422.out (by decide)) (fun _ hk => hk.2) (.string t411)) (fun _ hk => hk.2) (.int .i64 t412)) (fun _ hk => hk.2) (.slice Ao18 t413.length co18)) (fun _ hk => hk.2) (.slice Ao19 t416.length co19)) (fun _ h_ => h_.1))) hb);replace BK408:=Aside0.mk (blk_below (g:=gb408) (o:=.cells #[.string (⟨#[]⟩ : ByteArray),.int .i64 0,.slice none 0 0,.slice none 0 0] 27 (0,0)) (Up.Kx BK408) hb);replace BK422:=Aside0.mk (blk_below (g:=gb422) (o:=.cells #[.string t411,.int .i64 t412,.slice Ao18 t413.length co18,.slice Ao19 t416.length co19] 27 (0,0)) (Up.Kx BK422) hb);replace HB:=Aside0.mk (below_step (Up.By HB (IsS105.ge HI410.out)) hb);replace HI410:=Aside0.mk (IsS105.below (show IsS105 w ((((w14.setCell ⟨gb422,0,none⟩ (.string t411)).setCell ⟨gb422,1,none⟩ (.int .i64 t412)).setCell ⟨gb422,2,none⟩ (.slice Ao18 t413.length co18)).setCell ⟨gb422,3,none⟩ (.slice Ao19 t416.length co19)) gb410 l0 t420 t421 from Jp105 HI410) hb);(try clear hb);(try clear hb2);(try clear hk);(try clear hi);obtain ⟨hcz22_0,hcz22_1,hcz22_2,hcz22_3,hfz22_0,hfz22_1,hfz22_2,hfz22_3⟩:=Up.d4 BK422;have hnb23:=NB408_410.out;have hnc23:=NB410_408.out;obtain ⟨hcz24_0,hcz24_1,hcz24_2,hcz24_3,hfz24_0,hfz24_1,hfz24_2,hfz24_3⟩:=Up.d4 BK408));refine bodyPost_ret (results_ct rfl _ _ gb408 27 #[.string t411,.int .i64 t412,.slice Ao18 t413.length co18,.slice Ao19 t416.length co19] (0,0) _ rfl (Up.Kx BK408) Try.underlying27 rfl (by kernel_rfl)) rfl ?_;exact ⟨_,_,by first | rfl | (simp [errW_none,errW_some] <;> rfl) | (simp [*,errW_none,errW_some] <;> rfl),by (with_reducible repeat (first | apply Kd.S_alloc | apply Kd.S_drewN | apply Kd.S_drew | apply Kd.R_alloc | apply Kd.R_drewN | apply Kd.R_drew));exact Kd.S_mono (Sf4 (g:=gb408) HO415.out (fun _ hk => hk.1.2)) (fun _ hk => hk.1.1.1),by (with_reducible repeat (first | apply Kd.S_alloc | apply Kd.S_drewN | apply Kd.S_drew | apply Kd.R_alloc | apply Kd.R_drewN | apply Kd.R_drew));exact Kd.R_mono (Kd.R_far (p:=⟨gb408,3,none⟩) (Kd.R_far (p:=⟨gb408,2,none⟩) (Kd.R_far (p:=⟨gb408,1,none⟩) (Kd.R_far (p:=⟨gb408,0,none⟩) (Kd.R_types HO418.out BK408.out (by decide)) (fun _ hk => hk.2) (.string t411)) (fun _ hk => hk.2) (.int .i64 t412)) (fun _ hk => hk.2) (.slice Ao18 t413.length co18)) (fun _ hk => hk.2) (.slice Ao19 t416.length co19)) (fun _ hk => trivial),Up.By HB (IsS105.ge HI410.out),by first | exact ⟨rfl,rfl⟩ | exact ⟨rfl,trivial⟩ | exact HP9.out | trivial⟩
    ·replace c9:=Bool.eq_false_iff.mpr c9;subst c9;(rw [if_neg (show ¬ (false = true) by decide)] at H);(simp only [Option.some.injEq,Prod.mk.injEq] at H);obtain ⟨rfl,rfl,rfl,rfl,rfl⟩:=H;go_enter Try.func34,Try.ntmps34;go_wp2_with (first | ((with_reducible refine gate_dst (N:=4) rfl ?_);(try (refine gate_guard (by rfl) ?_;dsimp only));refine Up.bx 4 27 #[.string (⟨#[]⟩ : ByteArray),.int .i64 0,.slice none 0 0,.slice none 0 0] ?_;intro gb408 hg w25 hbox hb;have BK408:=Aside0.mk (hbox);have GW408:=Up.gw hg HB;have GE408:=Up.gw hg HB;replace HB:=Up.BB HB hb;clear hb hbox hg) | ((with_reducible refine gate_callee (f:=45) rfl ?_);refine Up.gl (some 10) Try.func45 #[.slice A0 l0.length c0] ?_;(with_reducible refine (impl_KindsOk.calls k _ _ l0 true _ ?side1 ?side2 A3.out).mono ?_);(case side1 => exact Up.Cx HR0 HB);(case side2 => exact HC0.out);rintro e w26 ⟨rfl,hb⟩;refine ⟨_,rfl,?_⟩;replace BK408:=Up.KB BK408 hb;replace HB:=Aside0.mk (below_step (Up.Bx HB) hb);(try clear hb);(try clear hb2);(try clear hk);(try clear hi)) | ((with_reducible refine gate_dst (N:=16) rfl ?_);(try (refine gate_guard (by rfl) ?_;dsimp only));refine Up.bx 16 105 #[.slice A0 l0.length c0,.string a1,.int .i64 0] ?_;intro gb410 hg w27 hbox hb;have BK410:=Aside0.mk (hbox);have GW410:=Up.gw hg HB;have GE410:=Up.gw hg HB;replace HB:=Aside0.mk (below_step (Up.Bx HB) hb);have NB408_410:=Up.nl hg BK408;have NB410_408:=Up.ng hg BK408;replace BK408:=Up.KB BK408 hb;clear hb hbox hg;have HI410:=Aside0.mk (show IsS105 w w27 gb410 l0 a1 0 from ⟨A0,⟨c0,HC0.out⟩,BK410.out,GW410.out,HR0.out⟩);clear BK410) | ((with_reducible refine gate_callee (f:=78) rfl ?_);refine Up.gl (some 19) Try.func78 #[.pointer (some ⟨gb410,0,none⟩)] ?_;(with_reducible refine (value_own k gb410 l0 a1 0 t411 t412 t413 t416 true t420 t421 w _ ?side1 ?side2 A5.out).mono ?_);(case side1 => exact Jp105 HI410);(case side2 => exact Up.By HB (IsS105.ge HI410.out));rintro e w28 ⟨v414,v417,rfl,ho0,ho1,hi,hb,hk,hp_⟩;refine ⟨_,rfl,?_⟩;have HP9:=Aside0.mk hp_;clear hp_;have HO415:=Aside0.mk (Kd.S_lower (Kd.S_newB ho0 (g:=gb408) (o:=.cells #[.string (⟨#[]⟩ : ByteArray),.int .i64 0,.slice none 0 0,.slice none 0 0] 27 (0,0)) (Up.Kup BK408)) (below_size (Up.By HB (IsS105.ge HI410.out))));replace BK408:=Up.kb hk BK408 NB408_410;have HO418:=Aside0.mk (Kd.R_lower ho1 (below_size (Up.By HB (IsS105.ge HI410.out))));replace HB:=Aside0.mk (hb);replace HI410:=Aside0.mk (hi);(try clear hb);(try clear hb2);(try clear hk);(try clear hi);(try clear ho0);(try clear ho1)) | ((with_reducible refine gate_dst (N:=7) rfl ?_);(try (refine gate_guard (by rfl) ?_;dsimp only));refine Up.bx 7 27 #[.string (⟨#[]⟩ : ByteArray),.int .i64 0,.slice none 0 0,.slice none 0 0] ?_;intro gb422 hg w29 hbox hb;replace HO415:=Aside0.mk (Kd.S_below (Kd.S_elderB (Up.Sup HO415) gb422 (Nat.le_of_eq hg.symm)) hb);replace HO418:=Up.RB HO418 hb;have BK422:=Aside0.mk (hbox);have GW422:=Aside0.mk ((by rw [hg];exact (below_size (Up.By HB (IsS105.ge HI410.out))) : w.heap.size ≤ gb422));have GE422:=Aside0.mk ((by rw [hg];exact (below_size (Up.By HB (IsS105.ge HI410.out))) : w.heap.size ≤ gb422));replace HB:=Aside0.mk (below_step (Up.By HB (IsS105.ge HI410.out)) hb);have NB408_422:=Up.nl hg BK408;have NB422_408:=Up.ng hg BK408;replace BK408:=Up.KB BK408 hb;have NB410_422:=Aside0.mk ((by rw [hg];exact Nat.ne_of_lt (IsS105.lt (show IsS105 w _ gb410 l0 t420 t421 from Jp105 HI410)) : gb410 ≠ gb422));have NB422_410:=Aside0.mk ((by rw [hg];exact Nat.ne_of_gt (IsS105.lt (show IsS105 w _ gb410 l0 t420 t421 from Jp105 HI410)) : gb422 ≠ gb410));replace HI410:=Aside0.mk (IsS105.below (Jp105 HI410) hb);clear hb hbox hg;have hnb30:=NB422_408.out;have hnc30:=NB408_422.out;have hnb31:=NB422_410.out;have hnc31:=NB410_422.out;obtain ⟨hcz32_0,hcz32_1,hcz32_2,hcz32_3,hfz32_0,hfz32_1,hfz32_2,hfz32_3⟩:=Up.d4 BK422;obtain ⟨Ao33,co33,eo33⟩:=Kd.S_slice HO415.out;subst eo33;obtain ⟨Ao34,co34,eo34⟩:=Kd.R_slice HO418.out;subst eo34;obtain ⟨ASZ35_0,cSZ35_0,HGZ35,hgZ35,HSZ35_0⟩:=HI410.out;have hcZ35_0:=cellS105_0 HGZ35;have hcZ35_1:=cellS105_1 HGZ35;have hcZ35_2:=cellS105_2 HGZ35;have hfZ35_1:=blk_frozen HGZ35 1;have hfZ35_2:=blk_frozen HGZ35 2;clear HGZ35 hgZ35) | (go_at_call 46;(with_reducible refine (impl_valueFits.calls k _ _ l0 t411 t412 _ _ t413 _ _ t416 false _ ?side1 ?side2 ?side3 ?side4 ?side5 ?side6 A8.out).mono ?_);(case side1 => exact Kd.C_below HR0.out (Up.By HB (IsS105.ge HI410.out)));(case side2 => exact HC0.out);(case side3 => refine (C_val (e:=27) (base:=w.heap.size) (ok:=fun k_ => ((some k_ ≠ (.slice Ao34 t416.length co34 : Value).ownBlock ∧ k_ ≠ gb408) ∧ k_ ≠ gb422)) (n:=t413.length) (c:=co33) ?_).2.2;exact (by (with_reducible repeat (first | apply Kd.S_alloc | apply Kd.S_drewN | apply Kd.S_drew | apply Kd.R_alloc | apply Kd.R_drewN | apply Kd.R_drew));exact (Kd.S_mono (Sf4 (g:=gb422) HO415.out (fun _ hk => hk.2)) (fun _ h_ => h_.1))));(case side4 => exact (C_val HO415.out).2.1);(case side5 => refine (Kd.R_reads' (e:=3) (base:=w.heap.size) (ok:=fun k_ => True) (n:=t416.length) (c:=co34) ?_).2.2;exact (by (with_reducible repeat (first | apply Kd.S_alloc | apply Kd.S_drewN | apply Kd.S_drew | apply Kd.R_alloc | apply Kd.R_drewN | apply Kd.R_drew));exact (Kd.R_mono (Kd.R_far (p:=⟨gb422,3,none⟩) (Kd.R_far (p:=⟨gb422,2,none⟩) (Kd.R_far (p:=⟨gb422,1,none⟩) (Kd.R_far (p:=⟨gb422,0,none⟩) (Kd.R_types HO418.out BK422.out (by decide)) (fun _ hk => hk.2) (.string t411)) (fun _ hk => hk.2) (.int .i64 t412)) (fun _ hk => hk.2) (.slice Ao33 t413.length co33)) (fun _ hk => hk.2) (.slice Ao34 t416.length co34)) (fun _ h_ => h_.1))));(case side6 => exact (Kd.R_reads' HO418.out).2.1);rintro e w36 ⟨rfl,hb⟩;replace HO415:=Aside0.mk (Kd.S_below (by (with_reducible repeat (first | apply Kd.S_alloc | apply Kd.S_drewN | apply Kd.S_drew | apply Kd.R_alloc | apply Kd.R_drewN | apply Kd.R_drew));exact (Kd.S_mono (Sf4 (g:=gb422) HO415.out (fun _ hk => hk.2)) (fun _ h_ => h_.1))) hb);replace HO418:=Aside0.mk (Kd.R_below (by (with_reducible repeat (first | apply Kd.S_alloc | apply Kd.S_drewN | apply Kd.S_drew | apply Kd.R_alloc | apply Kd.R_drewN | apply Kd.R_drew));exact (Kd.R_mono (Kd.R_far (p:=⟨gb422,3,none⟩) (Kd.R_far (p:=⟨gb422,2,none⟩) (Kd.R_far (p:=⟨gb422,1,none⟩) (Kd.R_far (p:=⟨gb422,0,none⟩) (Kd.R_types HO418.out BK422.out (by decide)) (fun _ hk => hk.2) (.string t411)) (fun _ hk => hk.2) (.int .i64 t412)) (fun _ hk => hk.2) (.slice Ao33 t413.length co33)) (fun _ hk => hk.2) (.slice Ao34 t416.length co34)) (fun _ h_ => h_.1))) hb);replace BK408:=Aside0.mk (blk_below (g:=gb408) (o:=.cells #[.string (⟨#[]⟩ : ByteArray),.int .i64 0,.slice none 0 0,.slice none 0 0] 27 (0,0)) (Up.Kx BK408) hb);replace BK422:=Aside0.mk (blk_below (g:=gb422) (o:=.cells #[.string t411,.int .i64 t412,.slice Ao33 t413.length co33,.slice Ao34 t416.length co34] 27 (0,0)) (Up.Kx BK422) hb);replace HB:=Aside0.mk (below_step (Up.By HB (IsS105.ge HI410.out)) hb);replace HI410:=Aside0.mk (IsS105.below (show IsS105 w ((((w29.setCell ⟨gb422,0,none⟩ (.string t411)).setCell ⟨gb422,1,none⟩ (.int .i64 t412)).setCell ⟨gb422,2,none⟩ (.slice Ao33 t413.length co33)).setCell ⟨gb422,3,none⟩ (.slice Ao34 t416.length co34)) gb410 l0 t420 t421 from Jp105 HI410) hb);(try clear hb);(try clear hb2);(try clear hk);(try clear hi);have hnb37:=NB408_410.out;have hnc37:=NB410_408.out;obtain ⟨hcz38_0,hcz38_1,hcz38_2,hcz38_3,hfz38_0,hfz38_1,hfz38_2,hfz38_3⟩:=Up.d4 BK408));refine bodyPost_ret (results_ct rfl _ _ gb408 27 #[.string (⟨#[]⟩ : ByteArray),.int .i64 0,.slice none 0 0,.slice none 0 0] (0,0) _ rfl (Up.Kx BK408) Try.underlying27 rfl (by kernel_rfl)) rfl ?_;exact ⟨_,_,by first | rfl | (simp [errW_none,errW_some] <;> rfl) | (simp [*,errW_none,errW_some] <;> rfl),by first | exact Kd.R_nil _ _ _ _ _ | exact Kd.N_nil _ _ _ _ _ | exact Kd.V_nil _ _ _ _ _ | exact Kd.Q_nil _ _ _ _ _ | exact Kd.S_nil _ _ _ _ _,by first | exact Kd.R_nil _ _ _ _ _ | exact Kd.N_nil _ _ _ _ _ | exact Kd.V_nil _ _ _ _ _ | exact Kd.Q_nil _ _ _ _ _ | exact Kd.S_nil _ _ _ _ _,Up.By HB (IsS105.ge HI410.out),by first | exact ⟨rfl,rfl⟩ | exact ⟨rfl,trivial⟩ | exact HP9.out | trivial⟩
   ·(rw [if_neg c7] at H);have c7b0 : (t421 == (a1.size : Int)) = false:=beq_eq_false_iff_ne.mpr c7;have c7b1 : (t421 != (a1.size : Int)) = true:=bne_iff_ne.mpr c7;(simp only [Option.some.injEq,Prod.mk.injEq] at H);obtain ⟨rfl,rfl,rfl,rfl,rfl⟩:=H;go_enter Try.func34,Try.ntmps34;go_wp2_with (first | ((with_reducible refine gate_dst (N:=4) rfl ?_);(try (refine gate_guard (by rfl) ?_;dsimp only));refine Up.bx 4 27 #[.string (⟨#[]⟩ : ByteArray),.int .i64 0,.slice none 0 0,.slice none 0 0] ?_;intro gb408 hg w39 hbox hb;have BK408:=Aside0.mk (hbox);have GW408:=Up.gw hg HB;have GE408:=Up.gw hg HB;replace HB:=Up.BB HB hb;clear hb hbox hg) | ((with_reducible refine gate_callee (f:=45) rfl ?_);refine Up.gl (some 10) Try.func45 #[.slice A0 l0.length c0] ?_;(with_reducible refine (impl_KindsOk.calls k _ _ l0 true _ ?side1 ?side2 A3.out).mono ?_);(case side1 => exact Up.Cx HR0 HB);(case side2 => exact HC0.out);rintro e w40 ⟨rfl,hb⟩;refine ⟨_,rfl,?_⟩;replace BK408:=Up.KB BK408 hb;replace HB:=Aside0.mk (below_step (Up.Bx HB) hb);(try clear hb);(try clear hb2);(try clear hk);(try clear hi)) | ((with_reducible refine gate_dst (N:=16) rfl ?_);(try (refine gate_guard (by rfl) ?_;dsimp only));refine Up.bx 16 105 #[.slice A0 l0.length c0,.string a1,.int .i64 0] ?_;intro gb410 hg w41 hbox hb;have BK410:=Aside0.mk (hbox);have GW410:=Up.gw hg HB;have GE410:=Up.gw hg HB;replace HB:=Aside0.mk (below_step (Up.Bx HB) hb);have NB408_410:=Up.nl hg BK408;have NB410_408:=Up.ng hg BK408;replace BK408:=Up.KB BK408 hb;clear hb hbox hg;have HI410:=Aside0.mk (show IsS105 w w41 gb410 l0 a1 0 from ⟨A0,⟨c0,HC0.out⟩,BK410.out,GW410.out,HR0.out⟩);clear BK410) | ((with_reducible refine gate_callee (f:=78) rfl ?_);refine Up.gl (some 19) Try.func78 #[.pointer (some ⟨gb410,0,none⟩)] ?_;(with_reducible refine (value_own k gb410 l0 a1 0 t411 t412 t413 t416 true t420 t421 w _ ?side1 ?side2 A5.out).mono ?_);(case side1 => exact Jp105 HI410);(case side2 => exact Up.By HB (IsS105.ge HI410.out));rintro e w42 ⟨v414,v417,rfl,ho0,ho1,hi,hb,hk,hp_⟩;refine ⟨_,rfl,?_⟩;have HP9:=Aside0.mk hp_;clear hp_;have HO415:=Aside0.mk (Kd.S_lower (Kd.S_newB ho0 (g:=gb408) (o:=.cells #[.string (⟨#[]⟩ : ByteArray),.int .i64 0,.slice none 0 0,.slice none 0 0] 27 (0,0)) (Up.Kup BK408)) (below_size (Up.By HB (IsS105.ge HI410.out))));replace BK408:=Up.kb hk BK408 NB408_410;have HO418:=Aside0.mk (Kd.R_lower ho1 (below_size (Up.By HB (IsS105.ge HI410.out))));replace HB:=Aside0.mk (hb);replace HI410:=Aside0.mk (hi);(try clear hb);(try clear hb2);(try clear hk);(try clear hi);(try clear ho0);(try clear ho1)) | ((with_reducible refine gate_dst (N:=7) rfl ?_);(try (refine gate_guard (by rfl) ?_;dsimp only));refine Up.bx 7 27 #[.string (⟨#[]⟩ : ByteArray),.int .i64 0,.slice none 0 0,.slice none 0 0] ?_;intro gb422 hg w43 hbox hb;replace HO415:=Aside0.mk (Kd.S_below (Kd.S_elderB (Up.Sup HO415) gb422 (Nat.le_of_eq hg.symm)) hb);replace HO418:=Up.RB HO418 hb;have BK422:=Aside0.mk (hbox);have GW422:=Aside0.mk ((by rw [hg];exact (below_size (Up.By HB (IsS105.ge HI410.out))) : w.heap.size ≤ gb422));have GE422:=Aside0.mk ((by rw [hg];exact (below_size (Up.By HB (IsS105.ge HI410.out))) : w.heap.size ≤ gb422));replace HB:=Aside0.mk (below_step (Up.By HB (IsS105.ge HI410.out)) hb);have NB408_422:=Up.nl hg BK408;have NB422_408:=Up.ng hg BK408;replace BK408:=Up.KB BK408 hb;have NB410_422:=Aside0.mk ((by rw [hg];exact Nat.ne_of_lt (IsS105.lt (show IsS105 w _ gb410 l0 t420 t421 from Jp105 HI410)) : gb410 ≠ gb422));have NB422_410:=Aside0.mk ((by rw [hg];exact Nat.ne_of_gt (IsS105.lt (show IsS105 w _ gb410 l0 t420 t421 from Jp105 HI410)) : gb422 ≠ gb410));replace HI410:=Aside0.mk (IsS105.below (Jp105 HI410) hb);clear hb hbox hg;have hnb44:=NB422_408.out;have hnc44:=NB408_422.out;have hnb45:=NB422_410.out;have hnc45:=NB410_422.out;obtain ⟨hcz46_0,hcz46_1,hcz46_2,hcz46_3,hfz46_0,hfz46_1,hfz46_2,hfz46_3⟩:=Up.d4 BK422;obtain ⟨Ao47,co47,eo47⟩:=Kd.S_slice HO415.out;subst eo47;obtain ⟨Ao48,co48,eo48⟩:=Kd.R_slice HO418.out;subst eo48;obtain ⟨ASZ49_0,cSZ49_0,HGZ49,hgZ49,HSZ49_0⟩:=HI410.out;have hcZ49_0:=cellS105_0 HGZ49;have hcZ49_1:=cellS105_1 HGZ49;have hcZ49_2:=cellS105_2 HGZ49;have hfZ49_1:=blk_frozen HGZ49 1;have hfZ49_2:=blk_frozen HGZ49 2;clear HGZ49 hgZ49;have hnb50:=NB408_410.out;have hnc50:=NB410_408.out;obtain ⟨hcz51_0,hcz51_1,hcz51_2,hcz51_3,hfz51_0,hfz51_1,hfz51_2,hfz51_3⟩:=Up.d4 BK408));refine bodyPost_ret (results_ct rfl _ _ gb408 27 #[.string (⟨#[]⟩ : ByteArray),.int .i64 0,.slice none 0 0,.slice none 0 0] (0,0) _ rfl (Up.Kx BK408) Try.underlying27 rfl (by kernel_rfl)) rfl ?_;exact ⟨_,_,by first | rfl | (simp [errW_none,errW_some] <;> rfl) | (simp [*,errW_none,errW_some] <;> rfl),by first | exact Kd.R_nil _ _ _ _ _ | exact Kd.N_nil _ _ _ _ _ | exact Kd.V_nil _ _ _ _ _ | exact Kd.Q_nil _ _ _ _ _ | exact Kd.S_nil _ _ _ _ _,by first | exact Kd.R_nil _ _ _ _ _ | exact Kd.N_nil _ _ _ _ _ | exact Kd.V_nil _ _ _ _ _ | exact Kd.Q_nil _ _ _ _ _ | exact Kd.S_nil _ _ _ _ _,Up.By HB (IsS105.ge HI410.out),by first | exact ⟨rfl,rfl⟩ | exact ⟨rfl,trivial⟩ | exact HP9.out | trivial⟩
  ·replace c6:=Bool.eq_false_iff.mpr c6;subst c6;(rw [if_neg (show ¬ (false = true) by decide)] at H);(simp only [Option.some.injEq,Prod.mk.injEq] at H);obtain ⟨rfl,rfl,rfl,rfl,rfl⟩:=H;go_enter Try.func34,Try.ntmps34;go_wp2_with (first | ((with_reducible refine gate_dst (N:=4) rfl ?_);(try (refine gate_guard (by rfl) ?_;dsimp only));refine Up.bx 4 27 #[.string (⟨#[]⟩ : ByteArray),.int .i64 0,.slice none 0 0,.slice none 0 0] ?_;intro gb408 hg w52 hbox hb;have BK408:=Aside0.mk (hbox);have GW408:=Up.gw hg HB;have GE408:=Up.gw hg HB;replace HB:=Up.BB HB hb;clear hb hbox hg) | ((with_reducible refine gate_callee (f:=45) rfl ?_);refine Up.gl (some 10) Try.func45 #[.slice A0 l0.length c0] ?_;(with_reducible refine (impl_KindsOk.calls k _ _ l0 true _ ?side1 ?side2 A3.out).mono ?_);(case side1 => exact Up.Cx HR0 HB);(case side2 => exact HC0.out);rintro e w53 ⟨rfl,hb⟩;refine ⟨_,rfl,?_⟩;replace BK408:=Up.KB BK408 hb;replace HB:=Aside0.mk (below_step (Up.Bx HB) hb);(try clear hb);(try clear hb2);(try clear hk);(try clear hi)) | ((with_reducible refine gate_dst (N:=16) rfl ?_);(try (refine gate_guard (by rfl) ?_;dsimp only));refine Up.bx 16 105 #[.slice A0 l0.length c0,.string a1,.int .i64 0] ?_;intro gb410 hg w54 hbox hb;have BK410:=Aside0.mk (hbox);have GW410:=Up.gw hg HB;have GE410:=Up.gw hg HB;replace HB:=Aside0.mk (below_step (Up.Bx HB) hb);have NB408_410:=Up.nl hg BK408;have NB410_408:=Up.ng hg BK408;replace BK408:=Up.KB BK408 hb;clear hb hbox hg;have HI410:=Aside0.mk (show IsS105 w w54 gb410 l0 a1 0 from ⟨A0,⟨c0,HC0.out⟩,BK410.out,GW410.out,HR0.out⟩);clear BK410) | ((with_reducible refine gate_callee (f:=78) rfl ?_);refine Up.gl (some 19) Try.func78 #[.pointer (some ⟨gb410,0,none⟩)] ?_;(with_reducible refine (value_own k gb410 l0 a1 0 t411 t412 t413 t416 false t420 t421 w _ ?side1 ?side2 A5.out).mono ?_);(case side1 => exact Jp105 HI410);(case side2 => exact Up.By HB (IsS105.ge HI410.out));rintro e w55 ⟨v414,v417,rfl,ho0,ho1,hi,hb,hk,hp_⟩;refine ⟨_,rfl,?_⟩;have HP9:=Aside0.mk hp_;clear hp_;have HO415:=Aside0.mk (Kd.S_lower (Kd.S_newB ho0 (g:=gb408) (o:=.cells #[.string (⟨#[]⟩ : ByteArray),.int .i64 0,.slice none 0 0,.slice none 0 0] 27 (0,0)) (Up.Kup BK408)) (below_size (Up.By HB (IsS105.ge HI410.out))));replace BK408:=Up.kb hk BK408 NB408_410;have HO418:=Aside0.mk (Kd.R_lower ho1 (below_size (Up.By HB (IsS105.ge HI410.out))));replace HB:=Aside0.mk (hb);replace HI410:=Aside0.mk (hi);(try clear hb);(try clear hb2);(try clear hk);(try clear hi);(try clear ho0);(try clear ho1)) | ((with_reducible refine gate_dst (N:=7) rfl ?_);(try (refine gate_guard (by rfl) ?_;dsimp only));refine Up.bx 7 27 #[.string (⟨#[]⟩ : ByteArray),.int .i64 0,.slice none 0 0,.slice none 0 0] ?_;intro gb422 hg w56 hbox hb;replace HO415:=Aside0.mk (Kd.S_below (Kd.S_elderB (Up.Sup HO415) gb422 (Nat.le_of_eq hg.symm)) hb);replace HO418:=Up.RB HO418 hb;have BK422:=Aside0.mk (hbox);have GW422:=Aside0.mk ((by rw [hg];exact (below_size (Up.By HB (IsS105.ge HI410.out))) : w.heap.size ≤ gb422));have GE422:=Aside0.mk ((by rw [hg];exact (below_size (Up.By HB (IsS105.ge HI410.out))) : w.heap.size ≤ gb422));replace HB:=Aside0.mk (below_step (Up.By HB (IsS105.ge HI410.out)) hb);have NB408_422:=Up.nl hg BK408;have NB422_408:=Up.ng hg BK408;replace BK408:=Up.KB BK408 hb;have NB410_422:=Aside0.mk ((by rw [hg];exact Nat.ne_of_lt (IsS105.lt (show IsS105 w _ gb410 l0 t420 t421 from Jp105 HI410)) : gb410 ≠ gb422));have NB422_410:=Aside0.mk ((by rw [hg];exact Nat.ne_of_gt (IsS105.lt (show IsS105 w _ gb410 l0 t420 t421 from Jp105 HI410)) : gb422 ≠ gb410));replace HI410:=Aside0.mk (IsS105.below (Jp105 HI410) hb);clear hb hbox hg;have hnb57:=NB422_408.out;have hnc57:=NB408_422.out;have hnb58:=NB422_410.out;have hnc58:=NB410_422.out;obtain ⟨hcz59_0,hcz59_1,hcz59_2,hcz59_3,hfz59_0,hfz59_1,hfz59_2,hfz59_3⟩:=Up.d4 BK422;obtain ⟨Ao60,co60,eo60⟩:=Kd.S_slice HO415.out;subst eo60;obtain ⟨Ao61,co61,eo61⟩:=Kd.R_slice HO418.out;subst eo61;have hnb62:=NB408_410.out;have hnc62:=NB410_408.out;obtain ⟨hcz63_0,hcz63_1,hcz63_2,hcz63_3,hfz63_0,hfz63_1,hfz63_2,hfz63_3⟩:=Up.d4 BK408));refine bodyPost_ret (results_ct rfl _ _ gb408 27 #[.string (⟨#[]⟩ : ByteArray),.int .i64 0,.slice none 0 0,.slice none 0 0] (0,0) _ rfl (Up.Kx BK408) Try.underlying27 rfl (by kernel_rfl)) rfl ?_;exact ⟨_,_,by first | rfl | (simp [errW_none,errW_some] <;> rfl) | (simp [*,errW_none,errW_some] <;> rfl),by first | exact Kd.R_nil _ _ _ _ _ | exact Kd.N_nil _ _ _ _ _ | exact Kd.V_nil _ _ _ _ _ | exact Kd.Q_nil _ _ _ _ _ | exact Kd.S_nil _ _ _ _ _,by first | exact Kd.R_nil _ _ _ _ _ | exact Kd.N_nil _ _ _ _ _ | exact Kd.V_nil _ _ _ _ _ | exact Kd.Q_nil _ _ _ _ _ | exact Kd.S_nil _ _ _ _ _,Up.By HB (IsS105.ge HI410.out),by first | exact ⟨rfl,rfl⟩ | exact ⟨rfl,trivial⟩ | exact HP9.out | trivial⟩
 ·replace c4:=Bool.eq_false_iff.mpr c4;subst c4;(rw [if_neg (show ¬ (false = true) by decide)] at H);(simp only [Option.some.injEq,Prod.mk.injEq] at H);obtain ⟨rfl,rfl,rfl,rfl,rfl⟩:=H;go_enter Try.func34,Try.ntmps34;go_wp2_with (first | ((with_reducible refine gate_dst (N:=4) rfl ?_);(try (refine gate_guard (by rfl) ?_;dsimp only));refine Up.bx 4 27 #[.string (⟨#[]⟩ : ByteArray),.int .i64 0,.slice none 0 0,.slice none 0 0] ?_;intro gb408 hg w64 hbox hb;have BK408:=Aside0.mk (hbox);have GW408:=Up.gw hg HB;have GE408:=Up.gw hg HB;replace HB:=Up.BB HB hb;clear hb hbox hg) | ((with_reducible refine gate_callee (f:=45) rfl ?_);refine Up.gl (some 10) Try.func45 #[.slice A0 l0.length c0] ?_;(with_reducible refine (impl_KindsOk.calls k _ _ l0 false _ ?side1 ?side2 A3.out).mono ?_);(case side1 => exact Up.Cx HR0 HB);(case side2 => exact HC0.out);rintro e w65 ⟨rfl,hb⟩;refine ⟨_,rfl,?_⟩;replace BK408:=Up.KB BK408 hb;replace HB:=Aside0.mk (below_step (Up.Bx HB) hb);(try clear hb);(try clear hb2);(try clear hk);(try clear hi);obtain ⟨hcz66_0,hcz66_1,hcz66_2,hcz66_3,hfz66_0,hfz66_1,hfz66_2,hfz66_3⟩:=Up.d4 BK408));refine bodyPost_ret (results_ct rfl _ _ gb408 27 #[.string (⟨#[]⟩ : ByteArray),.int .i64 0,.slice none 0 0,.slice none 0 0] (0,0) _ rfl (Up.Kx BK408) Try.underlying27 rfl (by kernel_rfl)) rfl ?_;exact ⟨_,_,by first | rfl | (simp [errW_none,errW_some] <;> rfl) | (simp [*,errW_none,errW_some] <;> rfl),by first | exact Kd.R_nil _ _ _ _ _ | exact Kd.N_nil _ _ _ _ _ | exact Kd.V_nil _ _ _ _ _ | exact Kd.Q_nil _ _ _ _ _ | exact Kd.S_nil _ _ _ _ _,by first | exact Kd.R_nil _ _ _ _ _ | exact Kd.N_nil _ _ _ _ _ | exact Kd.V_nil _ _ _ _ _ | exact Kd.Q_nil _ _ _ _ _ | exact Kd.S_nil _ _ _ _ _,Up.Bx HB,by first | exact ⟨rfl,rfl⟩ | exact ⟨rfl,trivial⟩ | exact HP9.out | trivial⟩
end
abbrev S113 := OFnExactValueRead.S113
abbrev k113 := OFnExactValueRead.k113
def cntRec (x : S113) : Nat := 1 + (x.f1.map fun _ => 1).sum
theorem fits_kRecs : Fits False (Kd.slice 113 k113) tyRecordS (fun xs => (xs.map cntRec).sum) := fits_slice ((fits_int_pair (fits_slice fits_str)).iso _)
/-- What the reader makes is the call's own. -/
theorem implVal_any (A : Option Addr) (c : Nat) (K : List (List S113)) (s t : ByteArray) (n : Int) (ps : List S27) (b : Bool) (w : World) (hr : Kd.C (Kd.slice 113 k113) w A K.length K) (hc : K.length ≤ c) (h : ∃ k, OFnExactValueRead.impl_ValueRead.f k K s = some (t, n, ps, [], b)) :
    Calls Try.prog 34 #[.slice A K.length c, .string s] w fun e w' => ∃ B d, e = .returned (.tuple #[.agg #[.string t, .int .i64 n, .slice B ps.length d, .slice none 0 0], .bool b]) ∧ ValOwn w' w.heap.size ⟨t, n, ps, []⟩ (.slice B ps.length d) (.slice none 0 0) ∧ Below w.heap.size w w' := by
  obtain ⟨k, hk⟩ := h
  refine (valueRead_own k A c K s _ _ _ _ _ w hr hc hk).mono ?_
  rintro e w' ⟨v2, v3, rfl, h2, h3, hb, rfl, _⟩
  obtain ⟨B, d, rfl⟩ := Kd.S_slice h2
  exact ⟨B, d, rfl, ValOwn.mk (⟨t, n, ps, []⟩ : S27) rfl (Kd.S_mono (Kd.S_bound h2) (fun k h => h.2.1)), hb⟩
def ValC (w : World) (ps : List S27) (D D3 : Option Addr) : Prop := Kd.C OFnExactValueRead.k27 w D ps.length ps ∧ Kd.C (Kd.int .i64) w D3 0 []
theorem ValC.below {w w1 : World} {ps : List S27} {D D3 : Option Addr} (h : ValC w ps D D3) (hb : Below w.heap.size w w1) : ValC w1 ps D D3 := ⟨Kd.C_below h.1 hb, Kd.C_below h.2 hb⟩
theorem specVal_any (A : Option Addr) (c : Nat) (K : List (List S113)) (s t : ByteArray) (n : Int) (ps : List S27) (b : Bool) (w : World) (hr : Kd.C (Kd.slice 113 k113) w A K.length K) (hc : K.length ≤ c) (h : ∃ k, OFnExactValueRead.spec_ValueRead.f k K s = some (t, n, ps, [], b)) :
    Calls Try.prog 33 #[.slice A K.length c, .string s] w fun e w' => ∃ D d D3 d3, e = .returned (.tuple #[.agg #[.string t, .int .i64 n, .slice D ps.length d, .slice D3 0 d3], .bool b]) ∧ ValC w' ps D D3 ∧ ps.length ≤ d ∧ Below w.heap.size w w' := by
  obtain ⟨k, hk⟩ := h
  refine (OFnExactValueRead.spec_ValueRead.calls k A c K s _ _ _ _ _ w hr hc hk).mono ?_
  rintro e w' ⟨v2, v3, rfl, h2, h3, hb⟩
  obtain ⟨D, d, rfl, hd, q2⟩ := Kd.R_reads h2
  obtain ⟨D3, d3, rfl, _, q3⟩ := Kd.R_reads h3
  exact ⟨D, d, D3, d3, rfl, ⟨q2, q3⟩, hd, hb⟩
theorem eqV_any {t : ByteArray} {n : Int} {ps : List S27} (hk : ∃ k, OFnExactValueRead.laws_eqValue.f k t n ps [] t n ps [] = some true) (B : Option Addr) (d0 : Nat) (D D3 : Option Addr) (d d3 : Nat) {base : Nat} (W : World) (h1 : ValOwn W base ⟨t, n, ps, []⟩ (.slice B ps.length d0) (.slice none 0 0)) (h2 : ValC W ps D D3) (h3 : ps.length ≤ d) :
    Calls Try.prog 24 #[.agg #[.string t, .int .i64 n, .slice B ps.length d0, .slice none 0 0], .agg #[.string t, .int .i64 n, .slice D ps.length d, .slice D3 0 d3]] W fun e w' => e = .returned (.bool true) ∧ Below W.heap.size W w' := by
  obtain ⟨k, hk⟩ := hk
  obtain ⟨A2, c2, A3, c3, e2, e3, l2, g2, l3, g3⟩ := h1.reads
  injection e2 with q1 _ q3
  injection e3 with p1 _ p3
  subst q1 q3 p1 p3
  exact OFnExactValueRead.laws_eqValue.calls k t n B d0 ps none 0 [] t n D d ps D3 d3 [] true W g2 l2 g3 l3 h2.1 h3 h2.2 (Nat.zero_le _) hk
/-- What the law's functions come to. -/
structure VFacts (l0 : List (List OFnExactValueRead.S124)) (K : List (List S113)) (s t : ByteArray) (n : Int) (ps : List S27) (b : Bool) : Prop where
  to_ : ∃ k, OFnExactValueRead.laws_toRecordSS.f k l0 = some K
  eqK : ∃ k, OFnExactValueRead.laws_eqRecordSS.f k K K = some true
  impl : ∃ k, OFnExactValueRead.impl_ValueRead.f k K s = some (t, n, ps, [], b)
  spec : ∃ k, OFnExactValueRead.spec_ValueRead.f k K s = some (t, n, ps, [], b)
  eqV : ∃ k, OFnExactValueRead.laws_eqValue.f k t n ps [] t n ps [] = some true
  cnt : (K.map fun xs => (xs.map cntRec).sum).sum ≤ 8999998
  cntP : ∀ m, (ps.map (cntV m)).sum ≤ 8999998
set_option maxHeartbeats 4000000 in
set_option maxRecDepth 100000 in
theorem law (A0 : Option Addr) (c0 : Nat) (l0 : List (List OFnExactValueRead.S124)) (a1 : ByteArray) (w : World) (hr0 : Kd.C (Kd.slice 124 OFnExactValueRead.k124) w A0 l0.length l0) (hc0 : l0.length ≤ c0) (hL : a1.size ≤ 1048576 → ∃ L : Int, (∃ k, OFnExactValueRead.laws_szRecordSS.f k l0 1048576 = some L) ∧ (0 ≤ L → ∃ K t n ps b, VFacts l0 K a1 t n ps b)) :
    Calls Try.prog 10 #[.slice A0 l0.length c0, .string a1] w fun e w' => e = .returned (.bool true) ∧ Below w.heap.size w w' := by
  by_cases hbig : (a1.size : Int) > 1048576
  · go_enter Try.func10, Try.ntmps10
    go_wp2
    go_ret
    exact ⟨rfl, Below.refl _ _⟩
  obtain ⟨L, ⟨k1, h1⟩, hM⟩ := hL (by omega)
  have hu_ := Try.underlying27
  have H1 := Aside0.mk h1
  have HR := Aside0.mk hr0
  have HB := Aside0.mk (Below.refl w.heap.size w)
  clear h1 hr0 hL
  by_cases hneg : L < 0
  · go_enter Try.func10, Try.ntmps10
    go_wp2_with (go_at_call 18; refine (OFnExactValueRead.laws_szRecordSS.calls k1 A0 c0 l0 1048576 L _ (Kd.C_below HR.out HB.out) hc0 H1.out).mono ?_; rintro e w1 ⟨rfl, hb⟩; replace HB := Aside0.mk (below_step HB.out hb); clear hb)
    go_ret
    exact ⟨rfl, HB.out⟩
  · obtain ⟨K, t, n, ps, b, hM⟩ := hM (by omega)
    have HM := Aside0.mk hM
    clear hM
    go_enter Try.func10, Try.ntmps10
    go_wp2_with fail
    refine (OFnExactValueRead.laws_szRecordSS.calls k1 A0 c0 l0 1048576 L _ (Kd.C_below HR.out HB.out) hc0 H1.out).mono ?_
    rintro e w1 ⟨rfl, hb⟩
    replace HB := Aside0.mk (below_step HB.out hb)
    clear hb
    go_wp2_with fail
    refine (OFnExactValueRead.laws_toRecordSS.calls HM.out.to_.choose A0 c0 l0 K _ (Kd.C_below HR.out HB.out) hc0 HM.out.to_.choose_spec).mono ?_
    rintro e w2 ⟨v_w2, rfl, ho, hb⟩
    replace HB := Aside0.mk (below_step HB.out hb)
    obtain ⟨A2, c2, rfl, hc2, hC2⟩ := Kd.R_reads ho
    clear ho hb
    go_wp2_with fail
    refine (specVal_any A2 c2 K a1 t n ps b _ hC2 hc2 HM.out.spec).mono ?_
    rintro e w3 ⟨D1, e1, D2, e2, rfl, hq, hle, hb⟩
    replace HB := Aside0.mk (below_step HB.out hb)
    have HW := Aside0.mk hq
    have HLE := Aside0.mk hle
    clear hb hq hle hC2
    go_wp2_with fail
    obtain ⟨g8, hg8⟩ : ∃ g, g = w3.heap.size := ⟨_, rfl⟩
    obtain ⟨y3, hy3⟩ : ∃ W, W = w3.alloc (.cells #[.string t, .int .i64 n, .slice D1 ps.length e1, .slice D2 0 e2] 27) := ⟨_, rfl⟩
    rw [← hy3]
    try rw [← hg8]
    have BK8 := Aside0.mk (show y3.heap[g8]? = some (.cells #[.string t, .int .i64 n, .slice D1 ps.length e1, .slice D2 0 e2] 27 (0, 0)) by rw [hy3, hg8]; exact heap_alloc_new w3 _)
    have hb3 : Below w3.heap.size w3 y3 := by rw [hy3]; exact below_alloc (Below.refl _ _) _
    replace HW := Aside0.mk (HW.out.below hb3)
    replace HB := Aside0.mk (below_step HB.out hb3)
    have HBw := Aside0.mk (Below.refl y3.heap.size y3)
    clear hy3 hg8 hb3
    refine (OFnExactValueRead.laws_toRecordSS.calls HM.out.to_.choose A0 c0 l0 K _ (Kd.C_below HR.out HB.out) hc0 HM.out.to_.choose_spec).mono ?_
    rintro e w4 ⟨v4, rfl, ho, hb⟩
    have HL3 := Aside0.mk (show w.heap.size ≤ y3.heap.size from HB.out.size)
    have GL8 := Aside0.mk (blk_lt BK8.out)
    replace HB := Aside0.mk (below_step HB.out hb)
    replace HBw := Aside0.mk (below_step HBw.out hb)
    obtain ⟨A4, c4, rfl, hc4, hC4⟩ := Kd.R_reads ho
    obtain ⟨s4, hs4, hin4, hct4⟩ := R_slots fits_kRecs ho c4 hc4
    have HS4 := Aside0.mk (show RowOf (Cel w4 tyRecordS) 1 (.slice A4 K.length c4) s4 from hs4)
    have HI4 := Aside0.mk (show ∀ p ∈ s4, y3.heap.size ≤ p.1 ∧ p.1 < w4.heap.size from fun p hp => ⟨(hin4 p hp).2, RowOf.mem hs4 p hp⟩)
    have HT4 := Aside0.mk (show 1 + s4.length ≤ 9000000 by have h : s4.length ≤ 8999998 := Nat.le_trans (Nat.le_of_eq hct4) HM.out.cnt; omega)
    have HC4 := Aside0.mk hC4
    have HB4 := Aside0.mk (Below.refl w4.heap.size w4)
    clear ho hb hs4 hin4 hct4 hC4
    -- g0
    go_wp2_with fail
    refine (implVal_any A4 c4 K a1 t n ps b _ (Kd.C_below HC4.out HB4.out) hc4 HM.out.impl).mono ?_
    rintro e w5 ⟨B1, d1, rfl, hs, hb⟩
    have HL4 := Aside0.mk (show y3.heap.size ≤ w4.heap.size from HBw.out.size)
    replace HB := Aside0.mk (below_step HB.out hb)
    replace HBw := Aside0.mk (below_step HBw.out hb)
    replace HB4 := Aside0.mk (below_step HB4.out hb)
    have HG := Aside0.mk hs
    have HL5 := Aside0.mk hb.size
    clear hs hb
    obtain ⟨lv, t1, t2, r1, r2, hin, hnd, hct⟩ := HG.out.slots
    have HR1 := Aside0.mk r1
    have HR2 := Aside0.mk r2
    have HI5 := Aside0.mk (show ∀ q ∈ t1 ++ t2, w4.heap.size ≤ q.1 ∧ q.1 < w5.heap.size from fun q hq => by
      refine ⟨hin q hq, ?_⟩
      rcases List.mem_append.1 hq with hq | hq
      · exact RowOf.memV r1 q hq
      · exact RowOf.mem r2 q hq)
    have HD5 := Aside0.mk (show ((t1 ++ t2).map key).Nodup from hnd)
    have HT5 := Aside0.mk (show 1 + (t1 ++ t2).length ≤ 9000000 by rw [hct]; have := HM.out.cntP lv; simp only [List.map_nil, List.sum_nil]; omega)
    have HTP := Aside0.mk (TP.refl w5)
    clear r1 r2 hin hnd hct
    replace BK8 := Aside0.mk ((HBw.out.block g8 GL8.out).trans BK8.out)
    obtain ⟨hx0, hx1, hx2, hx3, hf0, hf1, hf2, hf3⟩ := Up.d4 BK8
    have hlt8 : g8 < w5.heap.size := blk_lt BK8.out
    go_wp2_with fail
    clear hx0 hx1 hx2 hx3 hf0 hf1 hf2 hf3
    obtain ⟨g11, hg11⟩ : ∃ g, g = w5.heap.size := ⟨_, rfl⟩
    obtain ⟨y5, hy5⟩ : ∃ W, W = w5.alloc (.cells #[.string t, .int .i64 n, .slice B1 ps.length d1, .slice none 0 0] 27) := ⟨_, rfl⟩
    rw [← hy5]
    try rw [← hg11]
    have BK11 := Aside0.mk (show y5.heap[g11]? = some (.cells #[.string t, .int .i64 n, .slice B1 ps.length d1, .slice none 0 0] 27 (0, 0)) by rw [hy5, hg11]; exact heap_alloc_new w5 _)
    have hb : Below w5.heap.size w5 y5 := by rw [hy5]; exact below_alloc (Below.refl _ _) _
    have GE11 := Aside0.mk (show w5.heap.size ≤ g11 from Nat.le_of_eq hg11.symm)
    clear hg11 hy5
    replace HB := Aside0.mk (below_step HB.out hb)
    replace HBw := Aside0.mk (below_step HBw.out hb)
    replace HB4 := Aside0.mk (below_step HB4.out hb)
    replace BK8 := Aside0.mk (blk_below BK8.out hb)
    replace HG := Aside0.mk (HG.out.step (fun k _ hlt => hb.block k hlt))
    replace HTP := Aside0.mk (HTP.out.trans (TP.of_below hb))
    clear hb
    refine (eqV_any HM.out.eqV B1 d1 D1 D2 e1 e2 _ HG.out (HW.out.below HBw.out) HLE.out).mono ?_
    rintro e w6 ⟨rfl, hb⟩
    replace HB := Aside0.mk (below_step HB.out hb)
    replace HBw := Aside0.mk (below_step HBw.out hb)
    replace HB4 := Aside0.mk (below_step HB4.out hb)
    replace BK8 := Aside0.mk (blk_below BK8.out hb)
    replace BK11 := Aside0.mk (blk_below BK11.out hb)
    replace HG := Aside0.mk (HG.out.step (fun k _ hlt => hb.block k hlt))
    replace HTP := Aside0.mk (HTP.out.trans (TP.of_below hb))
    clear hb
    -- the argument stays
    go_wp2_with fail
    refine (OFnExactValueRead.laws_toRecordSS.calls HM.out.to_.choose A0 c0 l0 K _ (Kd.C_below HR.out HB.out) hc0 HM.out.to_.choose_spec).mono ?_
    rintro e w7 ⟨v, rfl, ho, hb⟩
    replace HB := Aside0.mk (below_step HB.out hb)
    replace HBw := Aside0.mk (below_step HBw.out hb)
    replace HB4 := Aside0.mk (below_step HB4.out hb)
    replace BK8 := Aside0.mk (blk_below BK8.out hb)
    replace BK11 := Aside0.mk (blk_below BK11.out hb)
    replace HG := Aside0.mk (HG.out.step (fun k _ hlt => hb.block k hlt))
    replace HTP := Aside0.mk (HTP.out.trans (TP.of_below hb))
    obtain ⟨A7, c7, rfl, hc7, hC7⟩ := Kd.R_reads ho
    clear ho hb
    go_wp2_with fail
    refine (OFnExactValueRead.laws_eqRecordSS.calls HM.out.eqK.choose A4 c4 K A7 c7 K true _ (Kd.C_below HC4.out HB4.out) hc4 hC7 hc7 HM.out.eqK.choose_spec).mono ?_
    rintro e w8 ⟨rfl, hb⟩
    replace HB := Aside0.mk (below_step HB.out hb)
    replace HBw := Aside0.mk (below_step HBw.out hb)
    replace HB4 := Aside0.mk (below_step HB4.out hb)
    replace BK8 := Aside0.mk (blk_below BK8.out hb)
    replace BK11 := Aside0.mk (blk_below BK11.out hb)
    replace HG := Aside0.mk (HG.out.step (fun k _ hlt => hb.block k hlt))
    replace HTP := Aside0.mk (HTP.out.trans (TP.of_below hb))
    clear hb hC7
    -- its marks
    go_wp2_with fail
    refine (markRecordSS_any _ s4 1 rfl _ (HS4.out.tp (TP.of_below HB4.out)) (Nat.le_refl _) HT4.out).mono ?_
    rintro e w9 ⟨rfl, hm⟩
    replace HB := Aside0.mk (hm.below_of (fun p hp => Nat.le_trans HL3.out (HI4.out p hp).1) HB.out HB.out.size)
    replace HBw := Aside0.mk (hm.below_of (fun p hp => (HI4.out p hp).1) HBw.out HBw.out.size)
    replace HG := Aside0.mk (HG.out.step (fun k hk hlt => hm.far k hlt (fun p hp he => by have := (HI4.out p hp).2; omega)))
    replace BK8 := Aside0.mk ((hm.far g8 (blk_lt BK8.out) (fun p hp he => by have h1 := (HI4.out p hp).1; have h2 := GL8.out; omega)).trans BK8.out)
    replace BK11 := Aside0.mk ((hm.far g11 (blk_lt BK11.out) (fun p hp he => by have h1 := (HI4.out p hp).2; have h2 := GE11.out; have h3 := HL5.out; omega)).trans BK11.out)
    replace HTP := Aside0.mk (HTP.out.trans hm.tp)
    obtain ⟨N4, hN4⟩ : ∃ N, N = 1 + s4.length := ⟨_, rfl⟩
    rw [← hN4]
    clear hm hN4 HB4 HC4 HS4 HI4 HT4
    have hN4 : ¬ ((N4 : Int) < 0) := by omega
    obtain ⟨hx0, hx1, hx2, hx3, hf0, hf1, hf2, hf3⟩ := Up.d4 BK8
    obtain ⟨hz0, hz1, hz2, hz3, hg0, hg1, hg2, hg3⟩ := Up.d4 BK11
    go_wp2_with fail
    clear hx0 hx1 hx2 hx3 hf0 hf1 hf2 hf3
    clear hz0 hz1 hz2 hz3 hg0 hg1 hg2 hg3
    refine (eqV_any HM.out.eqV B1 d1 D1 D2 e1 e2 _ HG.out (HW.out.below HBw.out) HLE.out).mono ?_
    rintro e w10 ⟨rfl, hb⟩
    replace HB := Aside0.mk (below_step HB.out hb)
    replace HBw := Aside0.mk (below_step HBw.out hb)
    replace BK8 := Aside0.mk (blk_below BK8.out hb)
    replace BK11 := Aside0.mk (blk_below BK11.out hb)
    replace HTP := Aside0.mk (HTP.out.trans (TP.of_below hb))
    clear hb HG
    -- the result's marks
    obtain ⟨hz0, hz1, hz2, hz3, hg0, hg1, hg2, hg3⟩ := Up.d4 BK11
    go_wp2_with fail
    clear hz0 hz1 hz2 hz3 hg0 hg1 hg2 hg3
    refine (markValue_any lv _ _ _ t1 _ t2 1 rfl _ (RowOf.tpV HTP.out HR1.out) (HR2.out.tp HTP.out) (Nat.le_refl _) HT5.out).mono ?_
    rintro e w11 ⟨rfl, hm⟩
    replace HB := Aside0.mk (hm.below_of (fun p hp => Nat.le_trans HL3.out (Nat.le_trans HL4.out (HI5.out p hp).1)) HB.out HB.out.size)
    replace HBw := Aside0.mk (hm.below_of (fun p hp => Nat.le_trans HL4.out (HI5.out p hp).1) HBw.out HBw.out.size)
    replace BK8 := Aside0.mk ((hm.far g8 (blk_lt BK8.out) (fun p hp he => by have h1 := (HI5.out p hp).1; have h2 := GL8.out; have h3 := HL4.out; omega)).trans BK8.out)
    replace BK11 := Aside0.mk ((hm.far g11 (blk_lt BK11.out) (fun p hp he => by have h1 := (HI5.out p hp).2; have h2 := GE11.out; omega)).trans BK11.out)
    replace HTP := Aside0.mk (HTP.out.trans hm.tp)
    have HH := Aside0.mk (hm.held HD5.out)
    have HB5 := Aside0.mk (Below.refl w11.heap.size w11)
    obtain ⟨N5, hN5⟩ : ∃ N, N = 1 + (t1 ++ t2).length := ⟨_, rfl⟩
    have HN5 := Aside0.mk hN5
    rw [← hN5]
    clear hm hN5 HD5 HI5
    obtain ⟨hz0, hz1, hz2, hz3, hg0, hg1, hg2, hg3⟩ := Up.d4 BK11
    go_wp2_with fail
    clear hz0 hz1 hz2 hz3 hg0 hg1 hg2 hg3
    refine (heldValue_any lv _ _ _ t1 _ t2 1 rfl _ (RowOf.tpV HTP.out HR1.out) (HR2.out.tp HTP.out) (Nat.le_refl _) HT5.out (HH.out.below HB5.out)).mono ?_
    rintro e w12 ⟨rfl, hb⟩
    rw [← HN5.out]
    replace HB := Aside0.mk (below_step HB.out hb)
    replace HBw := Aside0.mk (below_step HBw.out hb)
    replace HB5 := Aside0.mk (below_step HB5.out hb)
    replace BK8 := Aside0.mk (blk_below BK8.out hb)
    replace BK11 := Aside0.mk (blk_below BK11.out hb)
    replace HTP := Aside0.mk (HTP.out.trans (TP.of_below hb))
    clear hb
    have hN5 : ¬ ((N5 : Int) < 0) := by omega
    -- once more
    go_wp2_with fail
    refine (OFnExactValueRead.laws_toRecordSS.calls HM.out.to_.choose A0 c0 l0 K _ (Kd.C_below HR.out HB.out) hc0 HM.out.to_.choose_spec).mono ?_
    rintro e w13 ⟨v, rfl, ho, hb⟩
    replace HB := Aside0.mk (below_step HB.out hb)
    replace HBw := Aside0.mk (below_step HBw.out hb)
    replace HB5 := Aside0.mk (below_step HB5.out hb)
    replace BK8 := Aside0.mk (blk_below BK8.out hb)
    replace BK11 := Aside0.mk (blk_below BK11.out hb)
    replace HTP := Aside0.mk (HTP.out.trans (TP.of_below hb))
    obtain ⟨A13, c13, rfl, hc13, hC13⟩ := Kd.R_reads ho
    clear ho hb
    go_wp2_with fail
    refine (implVal_any A13 c13 K a1 t n ps b _ hC13 hc13 HM.out.impl).mono ?_
    rintro e w14 ⟨G1, d2, rfl, hs, hb⟩
    have HG := Aside0.mk hs
    replace HB := Aside0.mk (below_step HB.out hb)
    replace HBw := Aside0.mk (below_step HBw.out hb)
    replace HB5 := Aside0.mk (below_step HB5.out hb)
    replace BK8 := Aside0.mk (blk_below BK8.out hb)
    replace BK11 := Aside0.mk (blk_below BK11.out hb)
    replace HTP := Aside0.mk (HTP.out.trans (TP.of_below hb))
    clear hs hb hC13
    obtain ⟨hx0, hx1, hx2, hx3, hf0, hf1, hf2, hf3⟩ := Up.d4 BK8
    have hlt8 : g8 < w14.heap.size := blk_lt BK8.out
    go_wp2_with fail
    clear hx0 hx1 hx2 hx3 hf0 hf1 hf2 hf3
    obtain ⟨g16, hg16⟩ : ∃ g, g = w14.heap.size := ⟨_, rfl⟩
    obtain ⟨y14, hy14⟩ : ∃ W, W = w14.alloc (.cells #[.string t, .int .i64 n, .slice G1 ps.length d2, .slice none 0 0] 27) := ⟨_, rfl⟩
    rw [← hy14]
    try rw [← hg16]
    have BK16 := Aside0.mk (show y14.heap[g16]? = some (.cells #[.string t, .int .i64 n, .slice G1 ps.length d2, .slice none 0 0] 27 (0, 0)) by rw [hy14, hg16]; exact heap_alloc_new w14 _)
    have hb : Below w14.heap.size w14 y14 := by rw [hy14]; exact below_alloc (Below.refl _ _) _
    clear hg16 hy14 BK16
    replace HB := Aside0.mk (below_step HB.out hb)
    replace HBw := Aside0.mk (below_step HBw.out hb)
    replace HB5 := Aside0.mk (below_step HB5.out hb)
    replace BK8 := Aside0.mk (blk_below BK8.out hb)
    replace BK11 := Aside0.mk (blk_below BK11.out hb)
    replace HG := Aside0.mk (HG.out.step (fun k _ hlt => hb.block k hlt))
    replace HTP := Aside0.mk (HTP.out.trans (TP.of_below hb))
    clear hb
    refine (eqV_any HM.out.eqV G1 d2 D1 D2 e1 e2 _ HG.out (HW.out.below HBw.out) HLE.out).mono ?_
    rintro e w15 ⟨rfl, hb⟩
    replace HB := Aside0.mk (below_step HB.out hb)
    replace HB5 := Aside0.mk (below_step HB5.out hb)
    replace BK11 := Aside0.mk (blk_below BK11.out hb)
    replace HTP := Aside0.mk (HTP.out.trans (TP.of_below hb))
    clear hb HG HBw BK8
    obtain ⟨hz0, hz1, hz2, hz3, hg0, hg1, hg2, hg3⟩ := Up.d4 BK11
    go_wp2_with fail
    clear hz0 hz1 hz2 hz3 hg0 hg1 hg2 hg3
    refine (heldValue_any lv _ _ _ t1 _ t2 1 rfl _ (RowOf.tpV HTP.out HR1.out) (HR2.out.tp HTP.out) (Nat.le_refl _) HT5.out (HH.out.below HB5.out)).mono ?_
    rintro e w16 ⟨rfl, hb⟩
    rw [← HN5.out]
    replace HB := Aside0.mk (below_step HB.out hb)
    clear hb
    go_wp2
    go_ret
    exact ⟨rfl, HB.out⟩
theorem fin (A0 : Option Addr) (c0 : Nat) (l0 : List (List OFnExactValueRead.S124)) (a1 : ByteArray) (w : World) (hr0 : Kd.C (Kd.slice 124 OFnExactValueRead.k124) w A0 l0.length l0) (hc0 : l0.length ≤ c0) (g : gL (gL gRecord) l0) (_ : gStr a1) :
    Calls Try.prog 10 #[.slice A0 l0.length c0, .string a1] w fun e w' => e = .returned (.bool true) ∧ Below w.heap.size w w' := by
  refine law A0 c0 l0 a1 w hr0 hc0 (fun hs => ?_)
  obtain ⟨L, hL, h⟩ := Pure.FnExactValueRead l0 a1 g hs
  refine ⟨L, hL, fun h0 => ?_⟩
  obtain ⟨K, t, n, ps, b, h1, h2, h3, h4, h5, h6, h7⟩ := h h0
  exact ⟨K, t, n, ps, b, h1, h2, h3, h4, h5, h6, h7 cntV (fun _ => rfl) (fun _ _ => rfl)⟩
end Go.Proofs.Ytdgmlakgnbmbbaa.Hand
