/- The law FnExactShelfFunc answers true, for every shelf within the bounds of the reading and every two numbers: its functions are walked, and what they write is told cell by cell. -/
import Derived.Test.YtcdamcfklehedaaOFnExactShelfFuncx0
import Derived.Test.YtcdamcfklehedaaOFnExactShelfFuncx1
import Derived.Test.YtcdamcfklehedaaOFnExactShelfFuncx2
import Derived.Test.YtcdamcfklehedaaOFnExactShelfFuncx3
import Derived.Test.YtcdamcfklehedaaPureFnExactShelfFunc
namespace Go.Proofs.Ytcdamcfklehedaa.Hand
open Go.RowKit Go.Proofs.YtcdamcfklehedaaW.PrintWords Go.Proofs.YtcdamcfklehedaaW.PrintLast Go.Proofs.YtcdamcfklehedaaW.PrintMore Go.Proofs.Ytcdamcfklehedaa Go.Proofs.Ytcdamcfklehedaa.Pure Go.Proofs.Ytcdamcfklehedaa.Base
set_option linter.unusedVariables false
set_option linter.unusedSimpArgs false
/-! Rows that are written in place: rows seen through a shorter room, rows inside rows, nothing shared between them. -/
def cutV : Value → Nat → Value
  | .slice A n _, c => .slice A n c
  | v, _ => v
@[go_sem] theorem cutV_slice (A : Option Addr) (n c d : Nat) : cutV (.slice A n c) d = .slice A n d := rfl
section
variable {α β : Type} {d : Kd α} {e g n c base : Nat} {ok ok' oki : Nat → Prop} {w w1 W : World} {v : Value} {xs : List α}
/-- A row of the call's own, its elements apart, seen through a room of its own. -/
def sl {α : Type} (e : Nat) (d : Kd α) : Kd (List α) where
  sz := 1
  E := e :: d.E
  K := fun w xs cs => ∃ A c, cs = [.slice A xs.length c] ∧ xs.length ≤ c ∧ d.C w A xs.length xs
  M := fun w base ok xs cs => ∃ v c, cs = [cutV v c] ∧ xs.length ≤ c ∧ Kd.S d e w base ok v xs
  K_len := by
    rintro w x cs ⟨A, c, rfl, _⟩
    rfl
  K_one := by
    rintro w x cs ⟨A, c, rfl, _⟩ u hu
    rw [List.mem_singleton.1 hu]
    rfl
  K_below := by
    rintro w w1 x cs hb ⟨A, c, rfl, hl, hr⟩
    exact ⟨A, c, rfl, hl, Kd.C_below hr hb⟩
  K_of_M := by
    rintro w base ok x cs ⟨v, c, rfl, hl, h⟩
    obtain ⟨A, c', rfl, _, hr⟩ := Kd.S_reads h
    exact ⟨A, c, rfl, hl, hr⟩
  M_mono := by
    rintro w base ok ok' x cs hok ⟨v, c, rfl, hl, h⟩
    exact ⟨v, c, rfl, hl, Kd.S_mono h hok⟩
  M_bound := by
    rintro w base ok x cs ⟨v, c, rfl, hl, h⟩
    exact ⟨v, c, rfl, hl, Kd.S_bound h⟩
  M_move := by
    rintro w w1 base ok x cs hm ⟨v, c, rfl, hl, h⟩
    exact ⟨v, c, rfl, hl, Kd.S_move h hm⟩
  M_lower := by
    rintro w base base' ok x cs hb ⟨v, c, rfl, hl, h⟩
    exact ⟨v, c, rfl, hl, Kd.S_lower h hb⟩
/-- Two in line that lead to nothing in common. -/
def pr {α β : Type} (a : Kd α) (b : Kd β) : Kd (α × β) where
  sz := a.sz + b.sz
  E := a.E ++ b.E
  K := fun w x cs => ∃ c0 c1, cs = c0 ++ c1 ∧ a.K w x.1 c0 ∧ b.K w x.2 c1
  M := fun w base ok x cs => ∃ c0 c1, cs = c0 ++ c1 ∧ ∃ p : Nat → Prop, a.M w base (fun k => ok k ∧ p k) x.1 c0 ∧ b.M w base (fun k => ok k ∧ ¬ p k) x.2 c1
  K_len := by
    rintro w x cs ⟨c0, c1, rfl, h0, h1⟩
    rw [List.length_append, a.K_len h0, b.K_len h1]
  K_one := by
    rintro w x cs ⟨c0, c1, rfl, h0, h1⟩ u hu
    rcases List.mem_append.1 hu with hu | hu
    · exact a.K_one h0 u hu
    · exact b.K_one h1 u hu
  K_below := by
    rintro w w1 x cs hb ⟨c0, c1, rfl, h0, h1⟩
    exact ⟨c0, c1, rfl, a.K_below hb h0, b.K_below hb h1⟩
  K_of_M := by
    rintro w base ok x cs ⟨c0, c1, rfl, p, h0, h1⟩
    exact ⟨c0, c1, rfl, a.K_of_M h0, b.K_of_M h1⟩
  M_mono := by
    rintro w base ok ok' x cs hok ⟨c0, c1, rfl, p, h0, h1⟩
    exact ⟨c0, c1, rfl, p, a.M_mono (fun k hk => ⟨hok k hk.1, hk.2⟩) h0, b.M_mono (fun k hk => ⟨hok k hk.1, hk.2⟩) h1⟩
  M_bound := by
    rintro w base ok x cs ⟨c0, c1, rfl, p, h0, h1⟩
    refine ⟨c0, c1, rfl, p, a.M_mono ?_ (a.M_bound h0), b.M_mono ?_ (b.M_bound h1)⟩
    · rintro k ⟨⟨h2, hp⟩, h3, h4, q, hq, hc⟩
      exact ⟨⟨h2, h3, h4, q, List.mem_append_left _ hq, hc⟩, hp⟩
    · rintro k ⟨⟨h2, hp⟩, h3, h4, q, hq, hc⟩
      exact ⟨⟨h2, h3, h4, q, List.mem_append_right _ hq, hc⟩, hp⟩
  M_move := by
    rintro w w1 base ok x cs hm ⟨c0, c1, rfl, p, h0, h1⟩
    exact ⟨c0, c1, rfl, p, a.M_move (fun k hk => hm k hk.1) h0, b.M_move (fun k hk => hm k hk.1) h1⟩
  M_lower := by
    rintro w base base' ok x cs hb ⟨c0, c1, rfl, p, h0, h1⟩
    exact ⟨c0, c1, rfl, p, a.M_lower hb h0, b.M_lower hb h1⟩
theorem S_imp {d d' : Kd α} (hs : d.sz = d'.sz) (hM : ∀ w base ok x cs, d.M w base ok x cs → d'.M w base ok x cs) (h : Kd.S d e w base ok v xs) : Kd.S d' e w base ok v xs := by
  obtain ⟨f, h0, inner, ho, hr⟩ := h
  refine ⟨f, h0, inner, ?_, ?_, fun j p hj => hM _ _ _ _ _ ?_⟩
  · have : (Kd.tag f d).sz = (Kd.tag f d').sz := hs
    rw [← this]; exact ho
  · have : (Kd.tag f d).sz = (Kd.tag f d').sz := hs
    rw [← this]; exact hr.1
  · have := hr.2 j p hj
    have e2 : (Kd.tag f d).sz = (Kd.tag f d').sz := hs
    rw [e2] at this; exact this
/-- Elements that lead to nothing: any row of them is one whose elements are apart. -/
theorem S_flat (hE : d.E = []) (h : d.R e w base ok v xs) : Kd.S d e w base ok v xs := by
  obtain ⟨h0, inner, ho, hr⟩ := h
  refine Kd.S_bare ⟨h0, inner, ho, hr.imp_ (fun p c hp => d.M_mono (fun k hk => ?_) (d.M_bound hp))⟩
  obtain ⟨_, _, _, q, hq, _⟩ := hk
  rw [hE] at hq
  cases hq
/-- Element i, to be written: its cells (in the block g), and how it is put back. -/
theorem S_take_ {cap : Nat} (h : Kd.S d e W base ok (.slice (some ⟨g, 0, none⟩) n cap) xs) (z : α) (i : Nat) (h1 : i < n) :
    ∃ (oki : Nat → Prop) (c : List Value), d.M W base oki (xs.getD i z) c ∧ (∀ j u, c[j]? = some u → W.cell? ⟨g, i * d.sz + j, none⟩ = some u ∧ W.frozen? ⟨g, i * d.sz + j, none⟩ = false) ∧ (∀ k, oki k → ok k ∧ k ≠ g) ∧ ok g ∧ Kd.H d e W base ok (.slice (some ⟨g, 0, none⟩) n cap) xs i oki c := by
  obtain ⟨oki, c, hcl, hM, hcc, hfr, hoki, hH⟩ := Kd.S_elem h z (i : Int) (by omega) (by omega)
  simp only [Int.toNat_natCast] at hcc hM hfr
  refine ⟨oki, c, hM, fun j u hu => ⟨hcc j u hu, hfr j⟩, hoki, ?_, hH⟩
  obtain ⟨f, hf⟩ := h
  exact hf.1 g rfl
end
/-! What is marked: the cells of a nested structure that hold numbers and texts, in order. -/
section
abbrev Slot := Nat × Nat × Bool
/-- The cells of an element, in line: a number, a text, a row of elements. -/
inductive Ty where
  | nil | int (t : Ty) | str (t : Ty) | row (e t : Ty)
def Ty.sz : Ty → Nat
  | .nil => 0
  | .int t => t.sz + 1
  | .str t => t.sz + 1
  | .row _ t => t.sz + 1
def RowOf (P : Nat → Nat → List Slot → Prop) (sz : Nat) (v : Value) (s : List Slot) : Prop :=
  (∃ c, v = .slice none 0 c ∧ s = []) ∨ ∃ g n c, v = .slice (some ⟨g, 0, none⟩) n c ∧ n ≤ c ∧ n ≤ maxLen ∧ ∃ ss : List (List Slot), ss.length = n ∧ s = ss.flatten ∧ ∀ j t, ss[j]? = some t → P g (j * sz) t
def Cel (w : World) : Ty → Nat → Nat → List Slot → Prop
  | .nil, _, _, sl => sl = []
  | .int t, g, o, sl => (∃ i, w.cell? ⟨g, o, none⟩ = some (.int .i64 i)) ∧ w.frozen? ⟨g, o, none⟩ = false ∧ ∃ r, sl = (g, o, false) :: r ∧ Cel w t g (o + 1) r
  | .str t, g, o, sl => (∃ s, w.cell? ⟨g, o, none⟩ = some (.string s)) ∧ w.frozen? ⟨g, o, none⟩ = false ∧ ∃ r, sl = (g, o, true) :: r ∧ Cel w t g (o + 1) r
  | .row e t, g, o, sl => ∃ v s r, w.cell? ⟨g, o, none⟩ = some v ∧ RowOf (Cel w e) e.sz v s ∧ sl = s ++ r ∧ Cel w t g (o + 1) r
theorem RowOf.imp {P Q : Nat → Nat → List Slot → Prop} {sz : Nat} {v : Value} {s : List Slot} (h : RowOf P sz v s) (hi : ∀ g o t, P g o t → Q g o t) : RowOf Q sz v s := by
  rcases h with h | ⟨g, n, c, hv, h1, h2, ss, h3, h4, h5⟩
  · exact .inl h
  · exact .inr ⟨g, n, c, hv, h1, h2, ss, h3, h4, fun j t hj => hi _ _ _ (h5 j t hj)⟩
theorem RowOf.slice {P : Nat → Nat → List Slot → Prop} {sz : Nat} {v : Value} {s : List Slot} (h : RowOf P sz v s) : ∃ A n c, v = .slice A n c := by
  rcases h with ⟨c, h, _⟩ | ⟨g, n, c, hv, _⟩
  · exact ⟨_, _, _, h⟩
  · exact ⟨_, _, _, hv⟩
/-- What was a slice, a text, a number is one still: a slice the same. -/
structure TP (w w' : World) : Prop where
  env : w'.os = w.os ∧ w'.tape = w.tape ∧ w'.output = w.output
  size : w.heap.size ≤ w'.heap.size
  sl : ∀ a A n c, w.cell? a = some (.slice A n c) → w'.cell? a = some (.slice A n c)
  str : ∀ a s, w.cell? a = some (.string s) → ∃ s', w'.cell? a = some (.string s')
  int : ∀ a i, w.cell? a = some (.int .i64 i) → ∃ i', w'.cell? a = some (.int .i64 i')
  fz : ∀ a, a.block < w.heap.size → w.frozen? a = false → w'.frozen? a = false
theorem TP.refl (w : World) : TP w w := ⟨⟨rfl, rfl, rfl⟩, Nat.le_refl _, fun _ _ _ _ h => h, fun _ s h => ⟨s, h⟩, fun _ i h => ⟨i, h⟩, fun _ _ h => h⟩
theorem TP.of_below {w w' : World} (h : Below w.heap.size w w') : TP w w' :=
  ⟨⟨h.os, h.tape, h.output⟩, h.size, fun a _ _ _ hc => (h.cell (World.block_lt_of_cell? w a hc)).trans hc, fun a s hc => ⟨s, (h.cell (World.block_lt_of_cell? w a hc)).trans hc⟩, fun a i hc => ⟨i, (h.cell (World.block_lt_of_cell? w a hc)).trans hc⟩,
    fun a ha hf => (h.frozen ha).trans hf⟩
theorem Cel.tp {w w' : World} (h : TP w w') : ∀ (t : Ty) (g o : Nat) (sl : List Slot), Cel w t g o sl → Cel w' t g o sl
  | .nil, _, _, _, hc => hc
  | .int t, g, o, _, ⟨⟨_, hc⟩, hf, r, hr, ht⟩ => ⟨h.int _ _ hc, h.fz _ (World.block_lt_of_cell? w _ hc) hf, r, hr, Cel.tp h t g (o + 1) r ht⟩
  | .str t, g, o, _, ⟨⟨_, hc⟩, hf, r, hr, ht⟩ => ⟨h.str _ _ hc, h.fz _ (World.block_lt_of_cell? w _ hc) hf, r, hr, Cel.tp h t g (o + 1) r ht⟩
  | .row e t, g, o, _, ⟨v, s, r, hc, hv, hr, ht⟩ => ⟨v, s, r, by
      obtain ⟨A, n, c, rfl⟩ := hv.slice
      exact h.sl _ _ _ _ hc, hv.imp (Cel.tp h e), hr, Cel.tp h t g (o + 1) r ht⟩
theorem RowOf.tp {w w' : World} (h : TP w w') {e : Ty} {v : Value} {s : List Slot} (hr : RowOf (Cel w e) e.sz v s) : RowOf (Cel w' e) e.sz v s := hr.imp (Cel.tp h e)
/-- The value of a mark. -/
def mkv (t : Bool) (k : Nat) : Value := if t then .string (mtx k) else .int .i64 (k : Int)
/-- From w to w' the cells of sl were written, in order, with the marks from a on. -/
structure Marked (w w' : World) (sl : List Slot) (a : Nat) : Prop where
  tp : TP w w'
  far : ∀ b, b < w.heap.size → (∀ p ∈ sl, p.1 ≠ b) → w'.heap[b]? = w.heap[b]?
  off : ∀ b o, b < w.heap.size → (∀ p ∈ sl, ¬ (p.1 = b ∧ p.2.1 = o)) → w'.cell? ⟨b, o, none⟩ = w.cell? ⟨b, o, none⟩
  at_ : (sl.map fun p => (p.1, p.2.1)).Nodup → ∀ j p, sl[j]? = some p → w'.cell? ⟨p.1, p.2.1, none⟩ = some (mkv p.2.2 (a + j))
theorem Marked.nil {w w' : World} (h : Below w.heap.size w w') (a : Nat) : Marked w w' [] a :=
  ⟨TP.of_below h, fun b hb _ => h.block b hb, fun b o hb _ => h.cell (p := ⟨b, o, none⟩) hb, fun _ j p hj => by simp at hj⟩
theorem TP.trans {w w1 w2 : World} (h : TP w w1) (k : TP w1 w2) : TP w w2 :=
  ⟨⟨k.env.1.trans h.env.1, k.env.2.1.trans h.env.2.1, k.env.2.2.trans h.env.2.2⟩, Nat.le_trans h.size k.size, fun a A n c hc => k.sl _ _ _ _ (h.sl _ _ _ _ hc), fun a s hc => by obtain ⟨s', hs⟩ := h.str _ _ hc; exact k.str _ _ hs, fun a i hc => by obtain ⟨s', hs⟩ := h.int _ _ hc; exact k.int _ _ hs,
    fun a ha hf => k.fz _ (Nat.lt_of_lt_of_le ha h.size) (h.fz _ ha hf)⟩
def likes (u v : Value) : Prop := (∃ s s', u = .string s ∧ v = .string s') ∨ ∃ i i', u = .int .i64 i ∧ v = .int .i64 i'
theorem TP.set (w : World) (a : Addr) {u v : Value} (hc : w.cell? a = some u) (hl : likes u v) : TP w (w.setCell a v) := by
  have hs : (w.setCell a v).cell? a = some v := World.cell?_setCell_same _ _ _ hc
  refine ⟨⟨rfl, rfl, rfl⟩, by simp, fun b A n c hb => ?_, fun b s hb => ?_, fun b i hb => ?_, fun b hb hf => by simpa using hf⟩
  · by_cases e : a = b
    · subst e
      rw [hc] at hb
      rcases hl with ⟨s, s', rfl, _⟩ | ⟨i, i', rfl, _⟩ <;> cases hb
    · rw [World.cell?_setCell_other _ _ _ _ e]; exact hb
  · by_cases e : a = b
    · subst e
      rw [hc] at hb
      rcases hl with ⟨s, s', rfl, rfl⟩ | ⟨i, i', rfl, _⟩
      · exact ⟨_, hs⟩
      · cases hb
    · exact ⟨s, by rw [World.cell?_setCell_other _ _ _ _ e]; exact hb⟩
  · by_cases e : a = b
    · subst e
      rw [hc] at hb
      rcases hl with ⟨s, s', rfl, rfl⟩ | ⟨i, i', rfl, rfl⟩
      · cases hb
      · exact ⟨_, hs⟩
    · exact ⟨i, by rw [World.cell?_setCell_other _ _ _ _ e]; exact hb⟩
theorem likes_mkv {t : Bool} {u : Value} (k : Nat) (h : (t = true ∧ ∃ s, u = .string s) ∨ (t = false ∧ ∃ i, u = .int .i64 i)) : likes u (mkv t k) := by
  rcases h with ⟨rfl, s, rfl⟩ | ⟨rfl, i, rfl⟩
  · exact .inl ⟨_, _, rfl, rfl⟩
  · exact .inr ⟨_, _, rfl, rfl⟩
/-- One cell is written. -/
theorem Marked.one (w : World) {g o : Nat} {t : Bool} {u : Value} (k : Nat) (hc : w.cell? ⟨g, o, none⟩ = some u) (h : (t = true ∧ ∃ s, u = .string s) ∨ (t = false ∧ ∃ i, u = .int .i64 i)) : Marked w (w.setCell ⟨g, o, none⟩ (mkv t k)) [(g, o, t)] k where
  tp := TP.set w _ hc (likes_mkv k h)
  far := fun b hb hn => Below.heap_setCell w _ _ b (fun e => hn _ (List.mem_singleton.2 rfl) e.symm)
  off := fun b o' hb hn => World.cell?_setCell_other _ _ _ _ (fun e => by
    injection e with e1 e2
    exact hn _ (List.mem_singleton.2 rfl) ⟨e1, e2⟩)
  at_ := fun _ j p hj => by
    cases j with
    | zero =>
      obtain rfl : (g, o, t) = p := by simpa using hj
      exact World.cell?_setCell_same _ _ _ hc
    | succ j => simp at hj
theorem Marked.then {w w1 w2 : World} {s1 s2 : List Slot} {a : Nat} (h : Marked w w1 s1 a) (k : Marked w1 w2 s2 (a + s1.length)) : Marked w w2 (s1 ++ s2) a where
  tp := h.tp.trans k.tp
  far := fun b hb hn => (k.far b (Nat.lt_of_lt_of_le hb h.tp.size) (fun p hp => hn p (List.mem_append_right _ hp))).trans (h.far b hb (fun p hp => hn p (List.mem_append_left _ hp)))
  off := fun b o hb hn => (k.off b o (Nat.lt_of_lt_of_le hb h.tp.size) (fun p hp => hn p (List.mem_append_right _ hp))).trans (h.off b o hb (fun p hp => hn p (List.mem_append_left _ hp)))
  at_ := fun hnd j p hj => by
    rw [List.map_append, List.nodup_append] at hnd
    obtain ⟨hn1, hn2, hne⟩ := hnd
    rcases Nat.lt_or_ge j s1.length with hlt | hge
    · rw [List.getElem?_append_left hlt] at hj
      have hp := List.mem_of_getElem? hj
      have h1 := h.at_ hn1 j p hj
      rw [k.off _ _ (World.block_lt_of_cell? w1 _ h1) (fun q hq e => hne (p.1, p.2.1) (List.mem_map.2 ⟨p, hp, rfl⟩) (q.1, q.2.1) (List.mem_map.2 ⟨q, hq, rfl⟩) (by rw [e.1, e.2]))]
      exact h1
    · rw [List.getElem?_append_right hge] at hj
      have := k.at_ hn2 _ p hj
      rw [show a + s1.length + (j - s1.length) = a + j by omega] at this
      exact this
theorem Marked.below {w w1 w2 : World} {s : List Slot} {a : Nat} (h : Marked w w1 s a) (k : Below w1.heap.size w1 w2) : Marked w w2 s a := by
  have := Marked.then h (Marked.nil k (a + s.length))
  rwa [List.append_nil] at this
theorem Marked.more {w wr w2 : World} {s s2 : List Slot} {a K : Nat} (h : Marked w wr s a) (hK : K = a + s.length) (k : Marked wr w2 s2 K) : Marked w w2 (s ++ s2) a := by
  subst hK
  exact Marked.then h k
/-- A number's cell, a text's cell is written. -/
theorem Marked.putI {w wr : World} {s : List Slot} {a K g o : Nat} {z : Int} (ki : Int) (h : Marked w wr s a) (hK : K = a + s.length) (hki : ki = (K : Int)) (hc : w.cell? ⟨g, o, none⟩ = some (.int .i64 z)) : Marked w (wr.setCell ⟨g, o, none⟩ (.int .i64 ki)) (s ++ [(g, o, false)]) a := by
  subst hki
  obtain ⟨z', hz⟩ := h.tp.int _ _ hc
  exact Marked.more h hK (Marked.one _ (t := false) _ hz (.inr ⟨rfl, _, rfl⟩))
theorem Marked.putS {w wr : World} {s : List Slot} {a K g o : Nat} {z : ByteArray} (h : Marked w wr s a) (hK : K = a + s.length) (hc : w.cell? ⟨g, o, none⟩ = some (.string z)) : Marked w (wr.setCell ⟨g, o, none⟩ (.string (mtx K))) (s ++ [(g, o, true)]) a := by
  obtain ⟨z', hz⟩ := h.tp.str _ _ hc
  exact Marked.more h hK (Marked.one _ (t := true) _ hz (.inl ⟨rfl, _, rfl⟩))
theorem TP.fz' {w w' : World} (h : TP w w') {a : Addr} {v : Value} (hc : w.cell? a = some v) (hf : w.frozen? a = false) : w'.frozen? a = false := h.fz _ (World.block_lt_of_cell? w _ hc) hf
/-- What lies below the blocks that are marked stays. -/
theorem Marked.below_of {B : Nat} {w0 w w' : World} {s : List Slot} {a : Nat} (h : Marked w w' s a) (hs : ∀ p ∈ s, B ≤ p.1) (hb : Below B w0 w) (hB : B ≤ w.heap.size) : Below B w0 w' :=
  ⟨h.tp.env.1.trans hb.os, h.tp.env.2.1.trans hb.tape, h.tp.env.2.2.trans hb.output, Nat.le_trans hb.size h.tp.size, fun k hk => (h.far k (by omega) (fun p hp e => by have := hs p hp; omega)).trans (hb.block k hk)⟩
theorem Marked.kept {w w' : World} {s : List Slot} {a : Nat} (h : Marked w w' s a) : Kept w w' (fun k => ∃ p ∈ s, p.1 = k) := ⟨h.tp.size, fun i hi hn => h.far i hi (fun p hp e => hn ⟨p, hp, e⟩)⟩
/-- The blocks of what is marked are there. -/
theorem Cel.mem {w : World} : ∀ (t : Ty) (g o : Nat) (sl : List Slot), Cel w t g o sl → ∀ p ∈ sl, ∃ v, w.cell? ⟨p.1, p.2.1, none⟩ = some v
  | .nil, _, _, _, hc, p, hp => by
    obtain rfl : _ = [] := hc
    cases hp
  | .int t, g, o, _, ⟨⟨_, hc⟩, hf, r, rfl, ht⟩, p, hp => by
    rcases List.mem_cons.1 hp with rfl | hp
    · exact ⟨_, hc⟩
    · exact Cel.mem t _ _ r ht p hp
  | .str t, g, o, _, ⟨⟨_, hc⟩, hf, r, rfl, ht⟩, p, hp => by
    rcases List.mem_cons.1 hp with rfl | hp
    · exact ⟨_, hc⟩
    · exact Cel.mem t _ _ r ht p hp
  | .row e t, g, o, _, ⟨v, s, r, hc, hv, rfl, ht⟩, p, hp => by
    rcases List.mem_append.1 hp with hp | hp
    · rcases hv with ⟨_, _, rfl⟩ | ⟨g', n, c, _, _, _, ss, _, rfl, h5⟩
      · cases hp
      · obtain ⟨l, hl, hpl⟩ := List.mem_flatten.1 hp
        obtain ⟨j, hj⟩ := List.getElem?_of_mem hl
        exact Cel.mem e _ _ l (h5 j l hj) p hpl
    · exact Cel.mem t _ _ r ht p hp
theorem RowOf.mem {w : World} {e : Ty} {v : Value} {s : List Slot} (hr : RowOf (Cel w e) e.sz v s) (p : Slot) (hp : p ∈ s) : p.1 < w.heap.size := by
  rcases hr with ⟨_, _, rfl⟩ | ⟨g', n, c, _, _, _, ss, _, rfl, h5⟩
  · cases hp
  · obtain ⟨l, hl, hpl⟩ := List.mem_flatten.1 hp
    obtain ⟨j, hj⟩ := List.getElem?_of_mem hl
    obtain ⟨v, hc⟩ := Cel.mem e _ _ l (h5 j l hj) p hpl
    exact World.block_lt_of_cell? w _ hc
theorem RowOf.all {P : Nat → Nat → List Slot → Prop} {sz : Nat} {v : Value} {s : List Slot} (h : RowOf P sz v s) : ∃ (A : Option Addr) (n c : Nat) (ss : List (List Slot)), v = .slice A n c ∧ n ≤ c ∧ n ≤ maxLen ∧ ss.length = n ∧ s = ss.flatten ∧ ∀ j t, ss[j]? = some t → ∃ g, A = some ⟨g, 0, none⟩ ∧ P g (j * sz) t := by
  rcases h with ⟨c, rfl, rfl⟩ | ⟨g, n, c, rfl, h1, h2, ss, h3, rfl, h5⟩
  · exact ⟨none, 0, c, [], rfl, Nat.zero_le _, Nat.zero_le _, rfl, rfl, fun j t hj => by simp at hj⟩
  · exact ⟨_, n, c, ss, rfl, h1, h2, h3, rfl, fun j t hj => ⟨g, rfl, h5 j t hj⟩⟩
theorem take_flat {α : Type} {ss : List (List α)} {i : Nat} {t : List α} (h : ss[i]? = some t) : (ss.take (i + 1)).flatten = (ss.take i).flatten ++ t := by
  obtain ⟨hl, rfl⟩ := List.getElem?_eq_some_iff.1 h
  rw [List.take_succ_eq_append_getElem hl, List.flatten_append]
  simp
theorem mem_take_flat {α : Type} {ss : List (List α)} {i : Nat} {p : α} (h : p ∈ (ss.take i).flatten) : p ∈ ss.flatten := by
  obtain ⟨l, hl, hp⟩ := List.mem_flatten.1 h
  exact List.mem_flatten.2 ⟨l, List.mem_of_mem_take hl, hp⟩
theorem flat_le {α : Type} (ss : List (List α)) (i : Nat) : (ss.take i).flatten.length ≤ ss.flatten.length := by
  have := List.take_append_drop i ss
  have h2 : ss.flatten.length = (ss.take i).flatten.length + (ss.drop i).flatten.length := by
    rw [← List.length_append, ← List.flatten_append, this]
  omega
end
theorem mText_any (k : Nat) {ki : Int} (hki : ki = (k : Int)) (h1 : 1 ≤ k) (h2 : k ≤ 9000000) (w : World) : Calls Try.prog 60 #[.int .i64 ki] w fun e w' => e = .returned (.string (mtx k)) ∧ Below w.heap.size w w' := by
  subst hki
  obtain ⟨q, hq⟩ := markText_any k h1 (by omega)
  exact OFnExactShelfFunc.laws_markText.calls q _ _ w hq
abbrev tyInt : Ty := (.int .nil)
abbrev tyString : Ty := (.str .nil)
abbrev tyIns : Ty := (.str (.int (.int .nil)))
abbrev tyRecord : Ty := (.int (.row tyString .nil))
abbrev tyRecordS : Ty := (.row tyRecord .nil)
abbrev tyFunc : Ty := (.int (.row tyString (.row tyString (.row tyString (.row tyInt (.row tyIns .nil))))))
abbrev tyModule : Ty := (.row tyRecord (.row tyFunc (.row tyInt .nil)))
set_option maxHeartbeats 2000000 in
set_option maxRecDepth 100000 in
theorem markIntS_any (v : Value) (s : List Slot) (a : Nat) {ai : Int} (hai : ai = (a : Int)) (w : World) (hs : RowOf (Cel w tyInt) 1 v s) (h1 : 1 ≤ a) (hb : a + s.length ≤ 9000000) :
    Calls Try.prog 34 #[v, .int .i64 ai] w fun e w' => e = .returned (.int .i64 ((a + s.length : Nat) : Int)) ∧ Marked w w' s a := by
  subst hai
  obtain ⟨A, n, c, ss, rfl, hnc, hcm, hn, rfl, hel⟩ := hs.all
  have HEL := Aside0.mk hel
  have HN := Aside0.mk hn
  have HM := Aside0.mk (show Marked w w (ss.take 0).flatten a from Marked.nil (Below.refl _ _) a)
  have hnm : n ≤ 9223372036854775807 := by unfold maxLen at hcm; omega
  clear hel hn hs hcm hnc
  go_enter Try.func34, Try.ntmps34
  go_wp2
  go_loopw [1, 5] (fun v1 v5 wr => ∃ i K : Nat, i ≤ n ∧ v5 = .int .i64 i ∧ v1 = .int .i64 K ∧ 1 ≤ K ∧ K ≤ 9000000 ∧ Aside0 (K = a + (ss.take i).flatten.length) ∧ Aside0 (Marked w wr (ss.take i).flatten a)) (fun _ v5 _ => n - (intOf v5).toNat)
  case atStart => exact ⟨0, a, Nat.zero_le _, rfl, rfl, h1, by omega, ⟨by simp⟩, HM⟩
  case round =>
    clear HM
    obtain ⟨i, K0, hi, rfl, rfl, hK1, hK2, HK, HM⟩ := hrel
    by_cases hlt : i < n
    · have hsl := List.getElem?_eq_getElem (show i < ss.length by have := HN.out; omega)
      obtain ⟨g, hA, hc⟩ := HEL.out i _ hsl
      subst hA
      generalize ss[i]'(by have := HN.out; omega) = t at hsl hc
      have HS := Aside0.mk hsl
      rw [Nat.mul_one] at hc
      obtain ⟨⟨z0, hx0⟩, hf0, r0, ht0, hrn⟩ := hc
      obtain rfl : r0 = [] := hrn
      have HT := Aside0.mk (show t = [(g, i, false)] by rw [ht0]; first | done | simp)
      clear ht0 hsl
      have HX0 := Aside0.mk (show w.cell? ⟨g, i, none⟩ = some (.int .i64 z0) from hx0)
      have HF0 := Aside0.mk (show w.frozen? ⟨g, i, none⟩ = false from hf0)
      clear hx0 hf0
      have hle : K0 + (1) ≤ 9000000 := by
        have h1 := take_flat HS.out
        have h2 := flat_le ss (i + 1)
        have h3 := HK.out
        rw [h1, HT.out] at h2
        (try simp only [List.length_append, List.length_cons, List.length_nil, Nat.zero_add] at h2)
        omega
      obtain ⟨y0_, hx0⟩ := HM.out.tp.int _ _ HX0.out
      have hf0 := HM.out.tp.fz' HX0.out HF0.out
      go_wp2
      go_roundw
      case rel =>
        replace HM := Aside0.mk (Marked.putI (K := K0) ((K0 : Int)) HM.out (by have := HK.out; (try simp only [List.length_append, List.length_cons, List.length_nil] at this); (try simp only [List.length_append, List.length_cons, List.length_nil]); omega) (by omega) HX0.out)
        exact ⟨i + 1, K0 + 1, by omega, by go_num, by first | rfl | go_num, by omega, by omega, ⟨by rw [take_flat HS.out, HT.out]; have := HK.out; (try simp only [List.length_append, List.length_cons, List.length_nil] at this); (try simp only [List.length_append, List.length_cons, List.length_nil]); omega⟩, ⟨by rw [take_flat HS.out, HT.out]; have := HM.out; simpa only [List.append_assoc] using this⟩⟩
      case measure => simp [intOf]; omega
    · have hin : i = ss.length := by have := HN.out; omega
      have HL := Aside0.mk hin
      clear hin
      go_wp2
      go_ret
      have e := HK.out
      subst e
      rw [HL.out, List.take_length] at HM ⊢
      exact ⟨rfl, HM.out⟩
set_option maxHeartbeats 2000000 in
set_option maxRecDepth 100000 in
theorem markStringS_any (v : Value) (s : List Slot) (a : Nat) {ai : Int} (hai : ai = (a : Int)) (w : World) (hs : RowOf (Cel w tyString) 1 v s) (h1 : 1 ≤ a) (hb : a + s.length ≤ 9000000) :
    Calls Try.prog 41 #[v, .int .i64 ai] w fun e w' => e = .returned (.int .i64 ((a + s.length : Nat) : Int)) ∧ Marked w w' s a := by
  subst hai
  obtain ⟨A, n, c, ss, rfl, hnc, hcm, hn, rfl, hel⟩ := hs.all
  have HEL := Aside0.mk hel
  have HN := Aside0.mk hn
  have HM := Aside0.mk (show Marked w w (ss.take 0).flatten a from Marked.nil (Below.refl _ _) a)
  have hnm : n ≤ 9223372036854775807 := by unfold maxLen at hcm; omega
  clear hel hn hs hcm hnc
  go_enter Try.func41, Try.ntmps41
  go_wp2
  go_loopw [1, 5] (fun v1 v5 wr => ∃ i K : Nat, i ≤ n ∧ v5 = .int .i64 i ∧ v1 = .int .i64 K ∧ 1 ≤ K ∧ K ≤ 9000000 ∧ Aside0 (K = a + (ss.take i).flatten.length) ∧ Aside0 (Marked w wr (ss.take i).flatten a)) (fun _ v5 _ => n - (intOf v5).toNat)
  case atStart => exact ⟨0, a, Nat.zero_le _, rfl, rfl, h1, by omega, ⟨by simp⟩, HM⟩
  case round =>
    clear HM
    obtain ⟨i, K0, hi, rfl, rfl, hK1, hK2, HK, HM⟩ := hrel
    by_cases hlt : i < n
    · have hsl := List.getElem?_eq_getElem (show i < ss.length by have := HN.out; omega)
      obtain ⟨g, hA, hc⟩ := HEL.out i _ hsl
      subst hA
      generalize ss[i]'(by have := HN.out; omega) = t at hsl hc
      have HS := Aside0.mk hsl
      rw [Nat.mul_one] at hc
      obtain ⟨⟨z0, hx0⟩, hf0, r0, ht0, hrn⟩ := hc
      obtain rfl : r0 = [] := hrn
      have HT := Aside0.mk (show t = [(g, i, true)] by rw [ht0]; first | done | simp)
      clear ht0 hsl
      have HX0 := Aside0.mk (show w.cell? ⟨g, i, none⟩ = some (.string z0) from hx0)
      have HF0 := Aside0.mk (show w.frozen? ⟨g, i, none⟩ = false from hf0)
      clear hx0 hf0
      have hle : K0 + (1) ≤ 9000000 := by
        have h1 := take_flat HS.out
        have h2 := flat_le ss (i + 1)
        have h3 := HK.out
        rw [h1, HT.out] at h2
        (try simp only [List.length_append, List.length_cons, List.length_nil, Nat.zero_add] at h2)
        omega
      go_wp2_with fail
      refine (mText_any (K0) (by omega) (by omega) (by omega) _).mono ?_
      rintro e w1 ⟨rfl, hb⟩
      replace HM := Aside0.mk (HM.out.below hb)
      clear hb
      obtain ⟨y0_, hx0⟩ := HM.out.tp.str _ _ HX0.out
      have hf0 := HM.out.tp.fz' HX0.out HF0.out
      go_wp2
      go_roundw
      case rel =>
        replace HM := Aside0.mk (Marked.putS (K := K0) HM.out (by have := HK.out; (try simp only [List.length_append, List.length_cons, List.length_nil] at this); (try simp only [List.length_append, List.length_cons, List.length_nil]); omega) HX0.out)
        exact ⟨i + 1, K0 + 1, by omega, by go_num, by first | rfl | go_num, by omega, by omega, ⟨by rw [take_flat HS.out, HT.out]; have := HK.out; (try simp only [List.length_append, List.length_cons, List.length_nil] at this); (try simp only [List.length_append, List.length_cons, List.length_nil]); omega⟩, ⟨by rw [take_flat HS.out, HT.out]; have := HM.out; simpa only [List.append_assoc] using this⟩⟩
      case measure => simp [intOf]; omega
    · have hin : i = ss.length := by have := HN.out; omega
      have HL := Aside0.mk hin
      clear hin
      go_wp2
      go_ret
      have e := HK.out
      subst e
      rw [HL.out, List.take_length] at HM ⊢
      exact ⟨rfl, HM.out⟩
set_option maxHeartbeats 2000000 in
set_option maxRecDepth 100000 in
theorem markInsS_any (v : Value) (s : List Slot) (a : Nat) {ai : Int} (hai : ai = (a : Int)) (w : World) (hs : RowOf (Cel w tyIns) 3 v s) (h1 : 1 ≤ a) (hb : a + s.length ≤ 9000000) :
    Calls Try.prog 42 #[v, .int .i64 ai] w fun e w' => e = .returned (.int .i64 ((a + s.length : Nat) : Int)) ∧ Marked w w' s a := by
  subst hai
  obtain ⟨A, n, c, ss, rfl, hnc, hcm, hn, rfl, hel⟩ := hs.all
  have HEL := Aside0.mk hel
  have HN := Aside0.mk hn
  have HM := Aside0.mk (show Marked w w (ss.take 0).flatten a from Marked.nil (Below.refl _ _) a)
  have hnm : n ≤ 9223372036854775807 := by unfold maxLen at hcm; omega
  clear hel hn hs hcm hnc
  go_enter Try.func42, Try.ntmps42
  go_wp2
  go_loopw [1, 5] (fun v1 v5 wr => ∃ i K : Nat, i ≤ n ∧ v5 = .int .i64 i ∧ v1 = .int .i64 K ∧ 1 ≤ K ∧ K ≤ 9000000 ∧ Aside0 (K = a + (ss.take i).flatten.length) ∧ Aside0 (Marked w wr (ss.take i).flatten a)) (fun _ v5 _ => n - (intOf v5).toNat)
  case atStart => exact ⟨0, a, Nat.zero_le _, rfl, rfl, h1, by omega, ⟨by simp⟩, HM⟩
  case round =>
    clear HM
    obtain ⟨i, K0, hi, rfl, rfl, hK1, hK2, HK, HM⟩ := hrel
    by_cases hlt : i < n
    · have hsl := List.getElem?_eq_getElem (show i < ss.length by have := HN.out; omega)
      obtain ⟨g, hA, hc⟩ := HEL.out i _ hsl
      subst hA
      generalize ss[i]'(by have := HN.out; omega) = t at hsl hc
      have HS := Aside0.mk hsl
      obtain ⟨⟨z0, hx0⟩, hf0, r0, ht0, ⟨z1, hx1⟩, hf1, r1, ht1, ⟨z2, hx2⟩, hf2, r2, ht2, hrn⟩ := hc
      obtain rfl : r2 = [] := hrn
      subst ht2
      subst ht1
      have HT := Aside0.mk (show t = [(g, i * 3, true)] ++ [(g, i * 3 + 1, false)] ++ [(g, i * 3 + 2, false)] by rw [ht0]; first | done | simp)
      clear ht0 hsl
      have HX0 := Aside0.mk (show w.cell? ⟨g, i * 3, none⟩ = some (.string z0) from hx0)
      have HF0 := Aside0.mk (show w.frozen? ⟨g, i * 3, none⟩ = false from hf0)
      clear hx0 hf0
      have HX1 := Aside0.mk (show w.cell? ⟨g, i * 3 + 1, none⟩ = some (.int .i64 z1) from hx1)
      have HF1 := Aside0.mk (show w.frozen? ⟨g, i * 3 + 1, none⟩ = false from hf1)
      clear hx1 hf1
      have HX2 := Aside0.mk (show w.cell? ⟨g, i * 3 + 2, none⟩ = some (.int .i64 z2) from hx2)
      have HF2 := Aside0.mk (show w.frozen? ⟨g, i * 3 + 2, none⟩ = false from hf2)
      clear hx2 hf2
      have hle : K0 + (1 + 1 + 1) ≤ 9000000 := by
        have h1 := take_flat HS.out
        have h2 := flat_le ss (i + 1)
        have h3 := HK.out
        rw [h1, HT.out] at h2
        (try simp only [List.length_append, List.length_cons, List.length_nil, Nat.zero_add] at h2)
        omega
      go_wp2_with fail
      refine (mText_any (K0) (by omega) (by omega) (by omega) _).mono ?_
      rintro e w1 ⟨rfl, hb⟩
      replace HM := Aside0.mk (HM.out.below hb)
      clear hb
      obtain ⟨y0_, hx0⟩ := HM.out.tp.str _ _ HX0.out
      have hf0 := HM.out.tp.fz' HX0.out HF0.out
      obtain ⟨y1_, hx1⟩ := HM.out.tp.int _ _ HX1.out
      have hf1 := HM.out.tp.fz' HX1.out HF1.out
      obtain ⟨y2_, hx2⟩ := HM.out.tp.int _ _ HX2.out
      have hf2 := HM.out.tp.fz' HX2.out HF2.out
      go_wp2
      go_roundw
      case rel =>
        replace HM := Aside0.mk (Marked.putS (K := K0) HM.out (by have := HK.out; (try simp only [List.length_append, List.length_cons, List.length_nil] at this); (try simp only [List.length_append, List.length_cons, List.length_nil]); omega) HX0.out)
        replace HM := Aside0.mk (Marked.putI (K := K0 + 1) ((K0 : Int) + 1) HM.out (by have := HK.out; (try simp only [List.length_append, List.length_cons, List.length_nil] at this); (try simp only [List.length_append, List.length_cons, List.length_nil]); omega) (by omega) HX1.out)
        replace HM := Aside0.mk (Marked.putI (K := K0 + 2) ((K0 : Int) + 1 + 1) HM.out (by have := HK.out; (try simp only [List.length_append, List.length_cons, List.length_nil] at this); (try simp only [List.length_append, List.length_cons, List.length_nil]); omega) (by omega) HX2.out)
        exact ⟨i + 1, K0 + 3, by omega, by go_num, by first | rfl | go_num, by omega, by omega, ⟨by rw [take_flat HS.out, HT.out]; have := HK.out; (try simp only [List.length_append, List.length_cons, List.length_nil] at this); (try simp only [List.length_append, List.length_cons, List.length_nil]); omega⟩, ⟨by rw [take_flat HS.out, HT.out]; have := HM.out; simpa only [List.append_assoc] using this⟩⟩
      case measure => simp [intOf]; omega
    · have hin : i = ss.length := by have := HN.out; omega
      have HL := Aside0.mk hin
      clear hin
      go_wp2
      go_ret
      have e := HK.out
      subst e
      rw [HL.out, List.take_length] at HM ⊢
      exact ⟨rfl, HM.out⟩
set_option maxHeartbeats 2000000 in
set_option maxRecDepth 100000 in
theorem markRecordS_any (v : Value) (s : List Slot) (a : Nat) {ai : Int} (hai : ai = (a : Int)) (w : World) (hs : RowOf (Cel w tyRecord) 2 v s) (h1 : 1 ≤ a) (hb : a + s.length ≤ 9000000) :
    Calls Try.prog 32 #[v, .int .i64 ai] w fun e w' => e = .returned (.int .i64 ((a + s.length : Nat) : Int)) ∧ Marked w w' s a := by
  subst hai
  obtain ⟨A, n, c, ss, rfl, hnc, hcm, hn, rfl, hel⟩ := hs.all
  have HEL := Aside0.mk hel
  have HN := Aside0.mk hn
  have HM := Aside0.mk (show Marked w w (ss.take 0).flatten a from Marked.nil (Below.refl _ _) a)
  have hnm : n ≤ 9223372036854775807 := by unfold maxLen at hcm; omega
  clear hel hn hs hcm hnc
  go_enter Try.func32, Try.ntmps32
  go_wp2
  go_loopw [1, 5] (fun v1 v5 wr => ∃ i K : Nat, i ≤ n ∧ v5 = .int .i64 i ∧ v1 = .int .i64 K ∧ 1 ≤ K ∧ K ≤ 9000000 ∧ Aside0 (K = a + (ss.take i).flatten.length) ∧ Aside0 (Marked w wr (ss.take i).flatten a)) (fun _ v5 _ => n - (intOf v5).toNat)
  case atStart => exact ⟨0, a, Nat.zero_le _, rfl, rfl, h1, by omega, ⟨by simp⟩, HM⟩
  case round =>
    clear HM
    obtain ⟨i, K0, hi, rfl, rfl, hK1, hK2, HK, HM⟩ := hrel
    by_cases hlt : i < n
    · have hsl := List.getElem?_eq_getElem (show i < ss.length by have := HN.out; omega)
      obtain ⟨g, hA, hc⟩ := HEL.out i _ hsl
      subst hA
      generalize ss[i]'(by have := HN.out; omega) = t at hsl hc
      have HS := Aside0.mk hsl
      obtain ⟨⟨z0, hx0⟩, hf0, r0, ht0, v1, s1, r1, hx1, hv1, ht1, hrn⟩ := hc
      obtain rfl : r1 = [] := hrn
      subst ht1
      have HT := Aside0.mk (show t = [(g, i * 2, false)] ++ s1 by rw [ht0]; first | done | simp)
      clear ht0 hsl
      have HX0 := Aside0.mk (show w.cell? ⟨g, i * 2, none⟩ = some (.int .i64 z0) from hx0)
      have HF0 := Aside0.mk (show w.frozen? ⟨g, i * 2, none⟩ = false from hf0)
      clear hx0 hf0
      obtain ⟨A1, n1, c1, rfl⟩ := hv1.slice
      have HX1 := Aside0.mk (show w.cell? ⟨g, i * 2 + 1, none⟩ = some (.slice A1 n1 c1) from hx1)
      have HV1 := Aside0.mk hv1
      clear hx1 hv1
      have hle : K0 + (1 + s1.length) ≤ 9000000 := by
        have h1 := take_flat HS.out
        have h2 := flat_le ss (i + 1)
        have h3 := HK.out
        rw [h1, HT.out] at h2
        (try simp only [List.length_append, List.length_cons, List.length_nil, Nat.zero_add] at h2)
        omega
      obtain ⟨y0_, hx0⟩ := HM.out.tp.int _ _ HX0.out
      have hf0 := HM.out.tp.fz' HX0.out HF0.out
      have hx1 := HM.out.tp.sl _ _ _ _ HX1.out
      go_wp2_with fail
      replace HM := Aside0.mk (Marked.putI (K := K0) ((K0 : Int)) HM.out (by have := HK.out; (try simp only [List.length_append, List.length_cons, List.length_nil] at this); (try simp only [List.length_append, List.length_cons, List.length_nil]); omega) (by omega) HX0.out)
      clear hx0 hf0 hx1
      refine (markStringS_any _ s1 (K0 + 1) (by omega) _ (RowOf.tp HM.out.tp HV1.out) (by omega) (by omega)).mono ?_
      rintro e w1 ⟨rfl, hm⟩
      replace HM := Aside0.mk (Marked.more HM.out (K := K0 + 1) (by have := HK.out; (try simp only [List.length_append, List.length_cons, List.length_nil] at this); (try simp only [List.length_append, List.length_cons, List.length_nil]); omega) hm)
      obtain ⟨K1, hK1⟩ : ∃ K_ : Nat, K_ = K0 + 1 + s1.length := ⟨_, rfl⟩
      rw [← hK1]
      have HE1 := Aside0.mk hK1
      replace HK := Aside0.mk (show K1 = a + ((ss.take i).flatten ++ [(g, i * 2, false)] ++ s1).length by have := HK.out; (try simp only [List.length_append, List.length_cons, List.length_nil] at this); (try simp only [List.length_append, List.length_cons, List.length_nil]); omega)
      have lK1 : K1 ≤ 9000000 := by omega
      have mK1 : 1 ≤ K1 := by omega
      clear hK1 hm
      go_wp2
      go_roundw
      case rel =>
        exact ⟨i + 1, K1, by omega, by go_num, by first | rfl | go_num, by omega, by omega, ⟨by rw [take_flat HS.out, HT.out]; have := HK.out; (try simp only [List.length_append, List.length_cons, List.length_nil] at this); (try simp only [List.length_append, List.length_cons, List.length_nil]); omega⟩, ⟨by rw [take_flat HS.out, HT.out]; have := HM.out; simpa only [List.append_assoc] using this⟩⟩
      case measure => simp [intOf]; omega
    · have hin : i = ss.length := by have := HN.out; omega
      have HL := Aside0.mk hin
      clear hin
      go_wp2
      go_ret
      have e := HK.out
      subst e
      rw [HL.out, List.take_length] at HM ⊢
      exact ⟨rfl, HM.out⟩
set_option maxHeartbeats 2000000 in
set_option maxRecDepth 100000 in
theorem markFuncS_any (v : Value) (s : List Slot) (a : Nat) {ai : Int} (hai : ai = (a : Int)) (w : World) (hs : RowOf (Cel w tyFunc) 6 v s) (h1 : 1 ≤ a) (hb : a + s.length ≤ 9000000) :
    Calls Try.prog 33 #[v, .int .i64 ai] w fun e w' => e = .returned (.int .i64 ((a + s.length : Nat) : Int)) ∧ Marked w w' s a := by
  subst hai
  obtain ⟨A, n, c, ss, rfl, hnc, hcm, hn, rfl, hel⟩ := hs.all
  have HEL := Aside0.mk hel
  have HN := Aside0.mk hn
  have HM := Aside0.mk (show Marked w w (ss.take 0).flatten a from Marked.nil (Below.refl _ _) a)
  have hnm : n ≤ 9223372036854775807 := by unfold maxLen at hcm; omega
  clear hel hn hs hcm hnc
  go_enter Try.func33, Try.ntmps33
  go_wp2
  go_loopw [1, 5] (fun v1 v5 wr => ∃ i K : Nat, i ≤ n ∧ v5 = .int .i64 i ∧ v1 = .int .i64 K ∧ 1 ≤ K ∧ K ≤ 9000000 ∧ Aside0 (K = a + (ss.take i).flatten.length) ∧ Aside0 (Marked w wr (ss.take i).flatten a)) (fun _ v5 _ => n - (intOf v5).toNat)
  case atStart => exact ⟨0, a, Nat.zero_le _, rfl, rfl, h1, by omega, ⟨by simp⟩, HM⟩
  case round =>
    clear HM
    obtain ⟨i, K0, hi, rfl, rfl, hK1, hK2, HK, HM⟩ := hrel
    by_cases hlt : i < n
    · have hsl := List.getElem?_eq_getElem (show i < ss.length by have := HN.out; omega)
      obtain ⟨g, hA, hc⟩ := HEL.out i _ hsl
      subst hA
      generalize ss[i]'(by have := HN.out; omega) = t at hsl hc
      have HS := Aside0.mk hsl
      obtain ⟨⟨z0, hx0⟩, hf0, r0, ht0, v1, s1, r1, hx1, hv1, ht1, v2, s2, r2, hx2, hv2, ht2, v3, s3, r3, hx3, hv3, ht3, v4, s4, r4, hx4, hv4, ht4, v5, s5, r5, hx5, hv5, ht5, hrn⟩ := hc
      obtain rfl : r5 = [] := hrn
      subst ht5
      subst ht4
      subst ht3
      subst ht2
      subst ht1
      have HT := Aside0.mk (show t = [(g, i * 6, false)] ++ s1 ++ s2 ++ s3 ++ s4 ++ s5 by rw [ht0]; first | done | simp)
      clear ht0 hsl
      have HX0 := Aside0.mk (show w.cell? ⟨g, i * 6, none⟩ = some (.int .i64 z0) from hx0)
      have HF0 := Aside0.mk (show w.frozen? ⟨g, i * 6, none⟩ = false from hf0)
      clear hx0 hf0
      obtain ⟨A1, n1, c1, rfl⟩ := hv1.slice
      have HX1 := Aside0.mk (show w.cell? ⟨g, i * 6 + 1, none⟩ = some (.slice A1 n1 c1) from hx1)
      have HV1 := Aside0.mk hv1
      clear hx1 hv1
      obtain ⟨A2, n2, c2, rfl⟩ := hv2.slice
      have HX2 := Aside0.mk (show w.cell? ⟨g, i * 6 + 2, none⟩ = some (.slice A2 n2 c2) from hx2)
      have HV2 := Aside0.mk hv2
      clear hx2 hv2
      obtain ⟨A3, n3, c3, rfl⟩ := hv3.slice
      have HX3 := Aside0.mk (show w.cell? ⟨g, i * 6 + 3, none⟩ = some (.slice A3 n3 c3) from hx3)
      have HV3 := Aside0.mk hv3
      clear hx3 hv3
      obtain ⟨A4, n4, c4, rfl⟩ := hv4.slice
      have HX4 := Aside0.mk (show w.cell? ⟨g, i * 6 + 4, none⟩ = some (.slice A4 n4 c4) from hx4)
      have HV4 := Aside0.mk hv4
      clear hx4 hv4
      obtain ⟨A5, n5, c5, rfl⟩ := hv5.slice
      have HX5 := Aside0.mk (show w.cell? ⟨g, i * 6 + 5, none⟩ = some (.slice A5 n5 c5) from hx5)
      have HV5 := Aside0.mk hv5
      clear hx5 hv5
      have hle : K0 + (1 + s1.length + s2.length + s3.length + s4.length + s5.length) ≤ 9000000 := by
        have h1 := take_flat HS.out
        have h2 := flat_le ss (i + 1)
        have h3 := HK.out
        rw [h1, HT.out] at h2
        (try simp only [List.length_append, List.length_cons, List.length_nil, Nat.zero_add] at h2)
        omega
      obtain ⟨y0_, hx0⟩ := HM.out.tp.int _ _ HX0.out
      have hf0 := HM.out.tp.fz' HX0.out HF0.out
      have hx1 := HM.out.tp.sl _ _ _ _ HX1.out
      go_wp2_with fail
      replace HM := Aside0.mk (Marked.putI (K := K0) ((K0 : Int)) HM.out (by have := HK.out; (try simp only [List.length_append, List.length_cons, List.length_nil] at this); (try simp only [List.length_append, List.length_cons, List.length_nil]); omega) (by omega) HX0.out)
      clear hx0 hf0 hx1
      refine (markStringS_any _ s1 (K0 + 1) (by omega) _ (RowOf.tp HM.out.tp HV1.out) (by omega) (by omega)).mono ?_
      rintro e w1 ⟨rfl, hm⟩
      replace HM := Aside0.mk (Marked.more HM.out (K := K0 + 1) (by have := HK.out; (try simp only [List.length_append, List.length_cons, List.length_nil] at this); (try simp only [List.length_append, List.length_cons, List.length_nil]); omega) hm)
      obtain ⟨K1, hK1⟩ : ∃ K_ : Nat, K_ = K0 + 1 + s1.length := ⟨_, rfl⟩
      rw [← hK1]
      have HE1 := Aside0.mk hK1
      replace HK := Aside0.mk (show K1 = a + ((ss.take i).flatten ++ [(g, i * 6, false)] ++ s1).length by have := HK.out; (try simp only [List.length_append, List.length_cons, List.length_nil] at this); (try simp only [List.length_append, List.length_cons, List.length_nil]); omega)
      have lK1 : K1 ≤ 9000000 := by omega
      have mK1 : 1 ≤ K1 := by omega
      clear hK1 hm
      replace hle : K1 + (s2.length + s3.length + s4.length + s5.length) ≤ 9000000 := by have := HE1.out; omega
      have hx2 := HM.out.tp.sl _ _ _ _ HX2.out
      go_wp2_with fail
      clear hx2
      refine (markStringS_any _ s2 (K1) (by omega) _ (RowOf.tp HM.out.tp HV2.out) (by omega) (by omega)).mono ?_
      rintro e w2 ⟨rfl, hm⟩
      replace HM := Aside0.mk (Marked.more HM.out (K := K1) (by have := HK.out; (try simp only [List.length_append, List.length_cons, List.length_nil] at this); (try simp only [List.length_append, List.length_cons, List.length_nil]); omega) hm)
      obtain ⟨K2, hK2⟩ : ∃ K_ : Nat, K_ = K1 + s2.length := ⟨_, rfl⟩
      rw [← hK2]
      have HE2 := Aside0.mk hK2
      replace HK := Aside0.mk (show K2 = a + ((ss.take i).flatten ++ [(g, i * 6, false)] ++ s1 ++ s2).length by have := HK.out; (try simp only [List.length_append, List.length_cons, List.length_nil] at this); (try simp only [List.length_append, List.length_cons, List.length_nil]); omega)
      have lK2 : K2 ≤ 9000000 := by omega
      have mK2 : 1 ≤ K2 := by omega
      clear hK2 hm
      replace hle : K2 + (s3.length + s4.length + s5.length) ≤ 9000000 := by have := HE2.out; omega
      have hx3 := HM.out.tp.sl _ _ _ _ HX3.out
      go_wp2_with fail
      clear hx3
      refine (markStringS_any _ s3 (K2) (by omega) _ (RowOf.tp HM.out.tp HV3.out) (by omega) (by omega)).mono ?_
      rintro e w3 ⟨rfl, hm⟩
      replace HM := Aside0.mk (Marked.more HM.out (K := K2) (by have := HK.out; (try simp only [List.length_append, List.length_cons, List.length_nil] at this); (try simp only [List.length_append, List.length_cons, List.length_nil]); omega) hm)
      obtain ⟨K3, hK3⟩ : ∃ K_ : Nat, K_ = K2 + s3.length := ⟨_, rfl⟩
      rw [← hK3]
      have HE3 := Aside0.mk hK3
      replace HK := Aside0.mk (show K3 = a + ((ss.take i).flatten ++ [(g, i * 6, false)] ++ s1 ++ s2 ++ s3).length by have := HK.out; (try simp only [List.length_append, List.length_cons, List.length_nil] at this); (try simp only [List.length_append, List.length_cons, List.length_nil]); omega)
      have lK3 : K3 ≤ 9000000 := by omega
      have mK3 : 1 ≤ K3 := by omega
      clear hK3 hm
      replace hle : K3 + (s4.length + s5.length) ≤ 9000000 := by have := HE3.out; omega
      have hx4 := HM.out.tp.sl _ _ _ _ HX4.out
      go_wp2_with fail
      clear hx4
      refine (markIntS_any _ s4 (K3) (by omega) _ (RowOf.tp HM.out.tp HV4.out) (by omega) (by omega)).mono ?_
      rintro e w4 ⟨rfl, hm⟩
      replace HM := Aside0.mk (Marked.more HM.out (K := K3) (by have := HK.out; (try simp only [List.length_append, List.length_cons, List.length_nil] at this); (try simp only [List.length_append, List.length_cons, List.length_nil]); omega) hm)
      obtain ⟨K4, hK4⟩ : ∃ K_ : Nat, K_ = K3 + s4.length := ⟨_, rfl⟩
      rw [← hK4]
      have HE4 := Aside0.mk hK4
      replace HK := Aside0.mk (show K4 = a + ((ss.take i).flatten ++ [(g, i * 6, false)] ++ s1 ++ s2 ++ s3 ++ s4).length by have := HK.out; (try simp only [List.length_append, List.length_cons, List.length_nil] at this); (try simp only [List.length_append, List.length_cons, List.length_nil]); omega)
      have lK4 : K4 ≤ 9000000 := by omega
      have mK4 : 1 ≤ K4 := by omega
      clear hK4 hm
      replace hle : K4 + (s5.length) ≤ 9000000 := by have := HE4.out; omega
      have hx5 := HM.out.tp.sl _ _ _ _ HX5.out
      go_wp2_with fail
      clear hx5
      refine (markInsS_any _ s5 (K4) (by omega) _ (RowOf.tp HM.out.tp HV5.out) (by omega) (by omega)).mono ?_
      rintro e w5 ⟨rfl, hm⟩
      replace HM := Aside0.mk (Marked.more HM.out (K := K4) (by have := HK.out; (try simp only [List.length_append, List.length_cons, List.length_nil] at this); (try simp only [List.length_append, List.length_cons, List.length_nil]); omega) hm)
      obtain ⟨K5, hK5⟩ : ∃ K_ : Nat, K_ = K4 + s5.length := ⟨_, rfl⟩
      rw [← hK5]
      have HE5 := Aside0.mk hK5
      replace HK := Aside0.mk (show K5 = a + ((ss.take i).flatten ++ [(g, i * 6, false)] ++ s1 ++ s2 ++ s3 ++ s4 ++ s5).length by have := HK.out; (try simp only [List.length_append, List.length_cons, List.length_nil] at this); (try simp only [List.length_append, List.length_cons, List.length_nil]); omega)
      have lK5 : K5 ≤ 9000000 := by omega
      have mK5 : 1 ≤ K5 := by omega
      clear hK5 hm
      go_wp2
      go_roundw
      case rel =>
        exact ⟨i + 1, K5, by omega, by go_num, by first | rfl | go_num, by omega, by omega, ⟨by rw [take_flat HS.out, HT.out]; have := HK.out; (try simp only [List.length_append, List.length_cons, List.length_nil] at this); (try simp only [List.length_append, List.length_cons, List.length_nil]); omega⟩, ⟨by rw [take_flat HS.out, HT.out]; have := HM.out; simpa only [List.append_assoc] using this⟩⟩
      case measure => simp [intOf]; omega
    · have hin : i = ss.length := by have := HN.out; omega
      have HL := Aside0.mk hin
      clear hin
      go_wp2
      go_ret
      have e := HK.out
      subst e
      rw [HL.out, List.take_length] at HM ⊢
      exact ⟨rfl, HM.out⟩
set_option maxHeartbeats 2000000 in
set_option maxRecDepth 100000 in
theorem markModuleS_any (v : Value) (s : List Slot) (a : Nat) {ai : Int} (hai : ai = (a : Int)) (w : World) (hs : RowOf (Cel w tyModule) 3 v s) (h1 : 1 ≤ a) (hb : a + s.length ≤ 9000000) :
    Calls Try.prog 14 #[v, .int .i64 ai] w fun e w' => e = .returned (.int .i64 ((a + s.length : Nat) : Int)) ∧ Marked w w' s a := by
  subst hai
  obtain ⟨A, n, c, ss, rfl, hnc, hcm, hn, rfl, hel⟩ := hs.all
  have HEL := Aside0.mk hel
  have HN := Aside0.mk hn
  have HM := Aside0.mk (show Marked w w (ss.take 0).flatten a from Marked.nil (Below.refl _ _) a)
  have hnm : n ≤ 9223372036854775807 := by unfold maxLen at hcm; omega
  clear hel hn hs hcm hnc
  go_enter Try.func14, Try.ntmps14
  go_wp2
  go_loopw [1, 5] (fun v1 v5 wr => ∃ i K : Nat, i ≤ n ∧ v5 = .int .i64 i ∧ v1 = .int .i64 K ∧ 1 ≤ K ∧ K ≤ 9000000 ∧ Aside0 (K = a + (ss.take i).flatten.length) ∧ Aside0 (Marked w wr (ss.take i).flatten a)) (fun _ v5 _ => n - (intOf v5).toNat)
  case atStart => exact ⟨0, a, Nat.zero_le _, rfl, rfl, h1, by omega, ⟨by simp⟩, HM⟩
  case round =>
    clear HM
    obtain ⟨i, K0, hi, rfl, rfl, hK1, hK2, HK, HM⟩ := hrel
    by_cases hlt : i < n
    · have hsl := List.getElem?_eq_getElem (show i < ss.length by have := HN.out; omega)
      obtain ⟨g, hA, hc⟩ := HEL.out i _ hsl
      subst hA
      generalize ss[i]'(by have := HN.out; omega) = t at hsl hc
      have HS := Aside0.mk hsl
      obtain ⟨v0, s0, r0, hx0, hv0, ht0, v1, s1, r1, hx1, hv1, ht1, v2, s2, r2, hx2, hv2, ht2, hrn⟩ := hc
      obtain rfl : r2 = [] := hrn
      subst ht2
      subst ht1
      have HT := Aside0.mk (show t = s0 ++ s1 ++ s2 by rw [ht0]; first | done | simp)
      clear ht0 hsl
      obtain ⟨A0, n0, c0, rfl⟩ := hv0.slice
      have HX0 := Aside0.mk (show w.cell? ⟨g, i * 3, none⟩ = some (.slice A0 n0 c0) from hx0)
      have HV0 := Aside0.mk hv0
      clear hx0 hv0
      obtain ⟨A1, n1, c1, rfl⟩ := hv1.slice
      have HX1 := Aside0.mk (show w.cell? ⟨g, i * 3 + 1, none⟩ = some (.slice A1 n1 c1) from hx1)
      have HV1 := Aside0.mk hv1
      clear hx1 hv1
      obtain ⟨A2, n2, c2, rfl⟩ := hv2.slice
      have HX2 := Aside0.mk (show w.cell? ⟨g, i * 3 + 2, none⟩ = some (.slice A2 n2 c2) from hx2)
      have HV2 := Aside0.mk hv2
      clear hx2 hv2
      have hle : K0 + (s0.length + s1.length + s2.length) ≤ 9000000 := by
        have h1 := take_flat HS.out
        have h2 := flat_le ss (i + 1)
        have h3 := HK.out
        rw [h1, HT.out] at h2
        (try simp only [List.length_append, List.length_cons, List.length_nil, Nat.zero_add] at h2)
        omega
      have hx0 := HM.out.tp.sl _ _ _ _ HX0.out
      go_wp2_with fail
      clear hx0
      refine (markRecordS_any _ s0 (K0) (by omega) _ (RowOf.tp HM.out.tp HV0.out) (by omega) (by omega)).mono ?_
      rintro e w1 ⟨rfl, hm⟩
      replace HM := Aside0.mk (Marked.more HM.out (K := K0) (by have := HK.out; (try simp only [List.length_append, List.length_cons, List.length_nil] at this); (try simp only [List.length_append, List.length_cons, List.length_nil]); omega) hm)
      obtain ⟨K1, hK1⟩ : ∃ K_ : Nat, K_ = K0 + s0.length := ⟨_, rfl⟩
      rw [← hK1]
      have HE1 := Aside0.mk hK1
      replace HK := Aside0.mk (show K1 = a + ((ss.take i).flatten ++ s0).length by have := HK.out; (try simp only [List.length_append, List.length_cons, List.length_nil] at this); (try simp only [List.length_append, List.length_cons, List.length_nil]); omega)
      have lK1 : K1 ≤ 9000000 := by omega
      have mK1 : 1 ≤ K1 := by omega
      clear hK1 hm
      replace hle : K1 + (s1.length + s2.length) ≤ 9000000 := by have := HE1.out; omega
      have hx1 := HM.out.tp.sl _ _ _ _ HX1.out
      go_wp2_with fail
      clear hx1
      refine (markFuncS_any _ s1 (K1) (by omega) _ (RowOf.tp HM.out.tp HV1.out) (by omega) (by omega)).mono ?_
      rintro e w2 ⟨rfl, hm⟩
      replace HM := Aside0.mk (Marked.more HM.out (K := K1) (by have := HK.out; (try simp only [List.length_append, List.length_cons, List.length_nil] at this); (try simp only [List.length_append, List.length_cons, List.length_nil]); omega) hm)
      obtain ⟨K2, hK2⟩ : ∃ K_ : Nat, K_ = K1 + s1.length := ⟨_, rfl⟩
      rw [← hK2]
      have HE2 := Aside0.mk hK2
      replace HK := Aside0.mk (show K2 = a + ((ss.take i).flatten ++ s0 ++ s1).length by have := HK.out; (try simp only [List.length_append, List.length_cons, List.length_nil] at this); (try simp only [List.length_append, List.length_cons, List.length_nil]); omega)
      have lK2 : K2 ≤ 9000000 := by omega
      have mK2 : 1 ≤ K2 := by omega
      clear hK2 hm
      replace hle : K2 + (s2.length) ≤ 9000000 := by have := HE2.out; omega
      have hx2 := HM.out.tp.sl _ _ _ _ HX2.out
      go_wp2_with fail
      clear hx2
      refine (markIntS_any _ s2 (K2) (by omega) _ (RowOf.tp HM.out.tp HV2.out) (by omega) (by omega)).mono ?_
      rintro e w3 ⟨rfl, hm⟩
      replace HM := Aside0.mk (Marked.more HM.out (K := K2) (by have := HK.out; (try simp only [List.length_append, List.length_cons, List.length_nil] at this); (try simp only [List.length_append, List.length_cons, List.length_nil]); omega) hm)
      obtain ⟨K3, hK3⟩ : ∃ K_ : Nat, K_ = K2 + s2.length := ⟨_, rfl⟩
      rw [← hK3]
      have HE3 := Aside0.mk hK3
      replace HK := Aside0.mk (show K3 = a + ((ss.take i).flatten ++ s0 ++ s1 ++ s2).length by have := HK.out; (try simp only [List.length_append, List.length_cons, List.length_nil] at this); (try simp only [List.length_append, List.length_cons, List.length_nil]); omega)
      have lK3 : K3 ≤ 9000000 := by omega
      have mK3 : 1 ≤ K3 := by omega
      clear hK3 hm
      go_wp2
      go_roundw
      case rel =>
        exact ⟨i + 1, K3, by omega, by go_num, by first | rfl | go_num, by omega, by omega, ⟨by rw [take_flat HS.out, HT.out]; have := HK.out; (try simp only [List.length_append, List.length_cons, List.length_nil] at this); (try simp only [List.length_append, List.length_cons, List.length_nil]); omega⟩, ⟨by rw [take_flat HS.out, HT.out]; have := HM.out; simpa only [List.append_assoc] using this⟩⟩
      case measure => simp [intOf]; omega
    · have hin : i = ss.length := by have := HN.out; omega
      have HL := Aside0.mk hin
      clear hin
      go_wp2
      go_ret
      have e := HK.out
      subst e
      rw [HL.out, List.take_length] at HM ⊢
      exact ⟨rfl, HM.out⟩
section
def key (p : Slot) : Nat × Nat := (p.1, p.2.1)
/-- The elements of kind d are cells of the form t; D: what they lead to is apart. -/
structure Fits (D : Prop) {α : Type} (d : Kd α) (t : Ty) (cnt : α → Nat) : Prop where
  sz : d.sz = t.sz
  go : ∀ (w : World) (base : Nat) (ok : Nat → Prop) (x : α) (cs : List Value) (g o : Nat), d.M w base ok x cs → (∀ j u, cs[j]? = some u → w.cell? ⟨g, o + j, none⟩ = some u ∧ w.frozen? ⟨g, o + j, none⟩ = false) →
    ∃ sl, Cel w t g o sl ∧ (∀ p ∈ sl, (p.1 = g ∧ o ≤ p.2.1 ∧ p.2.1 < o + t.sz) ∨ (ok p.1 ∧ base ≤ p.1)) ∧ (D → ¬ ok g → (sl.map key).Nodup) ∧ sl.length = cnt x
theorem Fits.iso {D : Prop} {α β : Type} {d : Kd α} {t : Ty} {cnt : α → Nat} (h : Fits D d t cnt) (f : β → α) : Fits D (Kd.iso d f) t (fun x => cnt (f x)) := ⟨h.sz, fun w base ok x cs g o hM hc => h.go w base ok (f x) cs g o hM hc⟩
theorem fits_int {D : Prop} : Fits D (Kd.int .i64) (.int .nil) (fun _ => 1) := ⟨rfl, fun w base ok x cs g o hM hc => by
  obtain rfl : cs = [.int .i64 x] := hM
  obtain ⟨h1, h2⟩ := hc 0 _ rfl
  refine ⟨[(g, o, false)], ⟨⟨_, h1⟩, h2, [], rfl, rfl⟩, fun p hp => .inl ?_, fun _ _ => by simp, rfl⟩
  obtain rfl := List.mem_singleton.1 hp
  exact ⟨rfl, Nat.le_refl _, Nat.lt_succ_self _⟩⟩
theorem fits_str {D : Prop} : Fits D Kd.string (.str .nil) (fun _ => 1) := ⟨rfl, fun w base ok x cs g o hM hc => by
  obtain rfl : cs = [.string x] := hM
  obtain ⟨h1, h2⟩ := hc 0 _ rfl
  refine ⟨[(g, o, true)], ⟨⟨_, h1⟩, h2, [], rfl, rfl⟩, fun p hp => .inl ?_, fun _ _ => by simp, rfl⟩
  obtain rfl := List.mem_singleton.1 hp
  exact ⟨rfl, Nat.le_refl _, Nat.lt_succ_self _⟩⟩
/-- One cell, then the others. -/
theorem fits_cons {D : Prop} {base : Nat} {ok : Nat → Prop} {t : Ty} {g o : Nat} {b : Bool} {r : List Slot} (hin : ∀ p ∈ r, (p.1 = g ∧ o + 1 ≤ p.2.1 ∧ p.2.1 < o + 1 + t.sz) ∨ (ok p.1 ∧ base ≤ p.1)) (hnd : D → ¬ ok g → (r.map key).Nodup) :
    (∀ p ∈ (g, o, b) :: r, (p.1 = g ∧ o ≤ p.2.1 ∧ p.2.1 < o + (t.sz + 1)) ∨ (ok p.1 ∧ base ≤ p.1)) ∧ (D → ¬ ok g → (((g, o, b) :: r).map key).Nodup) := by
  refine ⟨fun p hp => ?_, fun hD hg => ?_⟩
  · rcases List.mem_cons.1 hp with rfl | hp
    · exact .inl ⟨rfl, Nat.le_refl _, by show o < _; omega⟩
    · rcases hin p hp with ⟨h1, h2, h3⟩ | h
      · exact .inl ⟨h1, by omega, by omega⟩
      · exact .inr h
  · rw [List.map_cons, List.nodup_cons]
    refine ⟨fun hm => ?_, hnd hD hg⟩
    obtain ⟨p, hp, he⟩ := List.mem_map.1 hm
    have e1 : p.1 = g := (Prod.mk.inj he).1
    have e2 : p.2.1 = o := (Prod.mk.inj he).2
    rcases hin p hp with ⟨_, h2, _⟩ | h
    · omega
    · exact hg (e1 ▸ h.1)
theorem tail_cells {w : World} {g o : Nat} {c : Value} {cs : List Value} (hc : ∀ j u, (c :: cs)[j]? = some u → w.cell? ⟨g, o + j, none⟩ = some u ∧ w.frozen? ⟨g, o + j, none⟩ = false) :
    ∀ j u, cs[j]? = some u → w.cell? ⟨g, o + 1 + j, none⟩ = some u ∧ w.frozen? ⟨g, o + 1 + j, none⟩ = false := fun j u hu => by
  have := hc (j + 1) u (by simpa using hu)
  rwa [show o + (j + 1) = o + 1 + j by omega] at this
theorem fits_int_pr {α : Type} {b : Kd α} {t : Ty} {cnt : α → Nat} (h : Fits True b t cnt) : Fits True (pr (Kd.int .i64) b) (.int t) (fun x => 1 + cnt x.2) := ⟨by show 1 + b.sz = t.sz + 1; rw [h.sz, Nat.add_comm], fun w base ok x cs g o hM hc => by
  obtain ⟨c0, c1, rfl, p, h0, h1⟩ := hM
  obtain rfl : c0 = [.int .i64 x.1] := h0
  obtain ⟨r, hr, hin, hnd, hct⟩ := h.go w base _ x.2 c1 g (o + 1) h1 (tail_cells hc)
  obtain ⟨hA, hB⟩ := fits_cons (b := false) (D := True) (ok := ok) (fun p hp => (hin p hp).imp id (fun h => ⟨h.1.1, h.2⟩)) (fun hD hg => hnd hD (fun hk => hg hk.1))
  exact ⟨_, ⟨⟨_, (hc 0 _ rfl).1⟩, (hc 0 _ rfl).2, r, rfl, hr⟩, hA, hB, by rw [List.length_cons, hct, Nat.add_comm]⟩⟩
theorem fits_str_pr {α : Type} {b : Kd α} {t : Ty} {cnt : α → Nat} (h : Fits True b t cnt) : Fits True (pr Kd.string b) (.str t) (fun x => 1 + cnt x.2) := ⟨by show 1 + b.sz = t.sz + 1; rw [h.sz, Nat.add_comm], fun w base ok x cs g o hM hc => by
  obtain ⟨c0, c1, rfl, p, h0, h1⟩ := hM
  obtain rfl : c0 = [.string x.1] := h0
  obtain ⟨r, hr, hin, hnd, hct⟩ := h.go w base _ x.2 c1 g (o + 1) h1 (tail_cells hc)
  obtain ⟨hA, hB⟩ := fits_cons (b := true) (D := True) (ok := ok) (fun p hp => (hin p hp).imp id (fun h => ⟨h.1.1, h.2⟩)) (fun hD hg => hnd hD (fun hk => hg hk.1))
  exact ⟨_, ⟨⟨_, (hc 0 _ rfl).1⟩, (hc 0 _ rfl).2, r, rfl, hr⟩, hA, hB, by rw [List.length_cons, hct, Nat.add_comm]⟩⟩
theorem fits_int_pair {α : Type} {b : Kd α} {t : Ty} {cnt : α → Nat} (h : Fits False b t cnt) : Fits False (Kd.pair (Kd.int .i64) b) (.int t) (fun x => 1 + cnt x.2) := ⟨by show 1 + b.sz = t.sz + 1; rw [h.sz, Nat.add_comm], fun w base ok x cs g o hM hc => by
  obtain ⟨c0, c1, rfl, h0, h1⟩ := hM
  obtain rfl : c0 = [.int .i64 x.1] := h0
  obtain ⟨r, hr, hin, hnd, hct⟩ := h.go w base _ x.2 c1 g (o + 1) h1 (tail_cells hc)
  obtain ⟨hA, _⟩ := fits_cons (b := false) (D := False) (ok := ok) hin (fun hD => hD.elim)
  exact ⟨_, ⟨⟨_, (hc 0 _ rfl).1⟩, (hc 0 _ rfl).2, r, rfl, hr⟩, hA, fun hD => hD.elim, by rw [List.length_cons, hct, Nat.add_comm]⟩⟩
theorem fits_str_pair {α : Type} {b : Kd α} {t : Ty} {cnt : α → Nat} (h : Fits False b t cnt) : Fits False (Kd.pair Kd.string b) (.str t) (fun x => 1 + cnt x.2) := ⟨by show 1 + b.sz = t.sz + 1; rw [h.sz, Nat.add_comm], fun w base ok x cs g o hM hc => by
  obtain ⟨c0, c1, rfl, h0, h1⟩ := hM
  obtain rfl : c0 = [.string x.1] := h0
  obtain ⟨r, hr, hin, hnd, hct⟩ := h.go w base _ x.2 c1 g (o + 1) h1 (tail_cells hc)
  obtain ⟨hA, _⟩ := fits_cons (b := true) (D := False) (ok := ok) hin (fun hD => hD.elim)
  exact ⟨_, ⟨⟨_, (hc 0 _ rfl).1⟩, (hc 0 _ rfl).2, r, rfl, hr⟩, hA, fun hD => hD.elim, by rw [List.length_cons, hct, Nat.add_comm]⟩⟩
theorem choose_list {α : Type} {P : Nat → α → Prop} : ∀ n, (∀ j, j < n → ∃ t, P j t) → ∃ ss : List α, ss.length = n ∧ ∀ j t, ss[j]? = some t → P j t
  | 0, _ => ⟨[], rfl, fun j t h => by simp at h⟩
  | n + 1, h => by
    obtain ⟨ss, hl, hs⟩ := choose_list n (fun j hj => h j (by omega))
    obtain ⟨t, ht⟩ := h n (Nat.lt_succ_self n)
    refine ⟨ss ++ [t], by simp [hl], fun j u hu => ?_⟩
    rcases Nat.lt_or_ge j n with hj | hj
    · rw [List.getElem?_append_left (by omega)] at hu
      exact hs j u hu
    · rw [List.getElem?_append_right (by omega), hl] at hu
      rcases Nat.eq_zero_or_pos (j - n) with h0 | h0
      · rw [h0] at hu
        obtain rfl : t = u := by simpa using hu
        rwa [show j = n by omega]
      · rw [List.getElem?_eq_none (by simp; omega)] at hu; cases hu
theorem nodup_flat {ss : List (List Slot)} (h1 : ∀ l ∈ ss, (l.map key).Nodup) (h2 : ∀ (i j : Nat) (s t : List Slot), i < j → ss[i]? = some s → ss[j]? = some t → ∀ p ∈ s, ∀ q ∈ t, key p ≠ key q) : (ss.flatten.map key).Nodup := by
  rw [List.map_flatten, List.nodup_iff_pairwise_ne, List.pairwise_flatten]
  refine ⟨fun l hl => ?_, ?_⟩
  · obtain ⟨m, hm, rfl⟩ := List.mem_map.1 hl
    exact List.nodup_iff_pairwise_ne.1 (h1 m hm)
  · rw [List.pairwise_map, List.pairwise_iff_getElem]
    intro i j hi hj hij x hx y hy
    obtain ⟨p, hp, rfl⟩ := List.mem_map.1 hx
    obtain ⟨q, hq, rfl⟩ := List.mem_map.1 hy
    exact h2 i j _ _ hij (List.getElem?_eq_getElem hi) (List.getElem?_eq_getElem hj) p hp q hq
/-- A row of the call's own, seen through some room: its cells. -/
theorem sum_flat {α : Type} {cnt : α → Nat} : ∀ (xs : List α) (ss : List (List Slot)), ss.length = xs.length → (∀ (j : Nat) (s : List Slot) (x : α), ss[j]? = some s → xs[j]? = some x → s.length = cnt x) → ss.flatten.length = (xs.map cnt).sum
  | [], ss, h, _ => by
    obtain rfl := List.eq_nil_of_length_eq_zero h
    rfl
  | x :: xs, [], h, _ => by simp at h
  | x :: xs, s :: ss, h, hs => by
    rw [List.flatten_cons, List.length_append, List.map_cons, List.sum_cons, sum_flat xs ss (by simpa using h) (fun j s x h1 h2 => hs (j + 1) s x (by simpa using h1) (by simpa using h2)), hs 0 s x rfl rfl]
theorem R_slots {α : Type} {d : Kd α} {t : Ty} {cnt : α → Nat} (hF : Fits False d t cnt) {e base : Nat} {ok : Nat → Prop} {w : World} {v : Value} {xs : List α} (h : d.R e w base ok v xs) (c : Nat) (hc : xs.length ≤ c) :
    ∃ s, RowOf (Cel w t) t.sz (cutV v c) s ∧ (∀ p ∈ s, ok p.1 ∧ base ≤ p.1) ∧ s.length = (xs.map cnt).sum := by
  obtain ⟨A, c0, rfl, hc0, hC⟩ := Kd.R_reads h
  rcases A with _ | ad
  · have h0 : xs.length = 0 := by
      rcases Nat.eq_zero_or_pos xs.length with h0 | h0
      · exact h0
      · obtain ⟨ad, he, _⟩ := hC.2.2 h0
        cases he
    exact ⟨[], .inl ⟨c, by rw [h0]; rfl, rfl⟩, (fun p hp => by cases hp), by rw [List.eq_nil_of_length_eq_zero h0]; rfl⟩
  · obtain ⟨g, rfl⟩ := Kd.R_head h
    have hbase : ok g ∧ base ≤ g := ⟨h.1 g rfl, Kd.R_base h g rfl⟩
    obtain ⟨ss, hl, hs⟩ := choose_list (P := fun j s => Cel w t g (j * t.sz) s ∧ (∀ p ∈ s, ok p.1 ∧ base ≤ p.1) ∧ ∀ x, xs[j]? = some x → s.length = cnt x) xs.length (fun j hj => by
      obtain ⟨cs, hcl, hM, hcc, hfr⟩ := Kd.R_elem h (xs[j]'hj) (j : Int) (by omega) (by omega)
      rw [Int.toNat_natCast] at hcc hM hfr
      rw [hF.sz] at hcc hfr
      obtain ⟨s, hs, hin, _, hct⟩ := hF.go w base _ _ cs g (j * t.sz) hM (fun i u hu => ⟨hcc i u hu, hfr i⟩)
      exact ⟨s, hs, fun p hp => (hin p hp).elim (fun h => h.1 ▸ hbase) (fun h => ⟨h.1.1, h.2⟩), fun x hx => by rw [hct, List.getD_eq_getElem?_getD, hx]; rfl⟩)
    refine ⟨ss.flatten, .inr ⟨g, xs.length, c, rfl, hc, hC.2.1, ss, hl, rfl, fun j s hj => (hs j s hj).1⟩, fun p hp => ?_, sum_flat xs ss hl (fun j s x h1 h2 => (hs j s h1).2.2 x h2)⟩
    obtain ⟨l, hl, hpl⟩ := List.mem_flatten.1 hp
    obtain ⟨j, hj⟩ := List.getElem?_of_mem hl
    exact (hs j l hj).2.1 p hpl
theorem S_slots {α : Type} {d : Kd α} {t : Ty} {cnt : α → Nat} (hF : Fits True d t cnt) {e base : Nat} {ok : Nat → Prop} {w : World} {v : Value} {xs : List α} (h : Kd.S d e w base ok v xs) (c : Nat) (hc : xs.length ≤ c) :
    ∃ s, RowOf (Cel w t) t.sz (cutV v c) s ∧ (∀ p ∈ s, ok p.1 ∧ base ≤ p.1) ∧ (s.map key).Nodup ∧ s.length = (xs.map cnt).sum := by
  obtain ⟨A, c0, rfl, hc0, hC⟩ := Kd.S_reads h
  rcases A with _ | ad
  · have h0 : xs.length = 0 := by
      rcases Nat.eq_zero_or_pos xs.length with h0 | h0
      · exact h0
      · obtain ⟨ad, he, _⟩ := hC.2.2 h0
        cases he
    exact ⟨[], .inl ⟨c, by rw [h0]; rfl, rfl⟩, (fun p hp => by cases hp), by simp, by rw [List.eq_nil_of_length_eq_zero h0]; rfl⟩
  · obtain ⟨g, rfl⟩ := Kd.R_head (Kd.S_R h)
    have hbase : ok g ∧ base ≤ g := ⟨(Kd.S_R h).1 g rfl, Kd.R_base (Kd.S_R h) g rfl⟩
    obtain ⟨f, hR⟩ := h
    have hzl : xs.zipIdx.length = xs.length := List.length_zipIdx
    obtain ⟨ss, hl, hs⟩ := choose_list (P := fun j s => Cel w t g (j * t.sz) s ∧ (∀ p ∈ s, (p.1 = g ∧ j * t.sz ≤ p.2.1 ∧ p.2.1 < j * t.sz + t.sz) ∨ (((ok p.1 ∧ p.1 ≠ g) ∧ f p.1 = j) ∧ base ≤ p.1)) ∧ (s.map key).Nodup ∧ ∀ x, xs[j]? = some x → s.length = cnt x) xs.length (fun j hj => by
      obtain ⟨cs, hcl, hM, hcc, hfr⟩ := Kd.R_elem hR (xs[j]'hj, j) (j : Int) (by omega) (by omega)
      rw [Int.toNat_natCast] at hcc hM hfr
      have hz : xs.zipIdx.getD j (xs[j]'hj, j) = (xs[j]'hj, j) := by
        rw [List.getD_eq_getElem?_getD, Kd.zip_at (List.getElem?_eq_getElem hj)]; rfl
      rw [hz] at hM
      have hsz : (Kd.tag f d).sz = t.sz := hF.sz
      rw [hsz] at hcc hfr
      obtain ⟨s, hs, hin, hnd, hct⟩ := hF.go w base _ _ cs g (j * t.sz) hM (fun i u hu => ⟨hcc i u hu, hfr i⟩)
      exact ⟨s, hs, fun p hp => (hin p hp).imp id (fun h => h), hnd trivial (fun hk => hk.1.2 rfl), fun x hx => by
        obtain ⟨_, rfl⟩ := List.getElem?_eq_some_iff.1 hx
        exact hct⟩)
    refine ⟨ss.flatten, .inr ⟨g, xs.length, c, rfl, hc, hC.2.1, ss, hl, rfl, fun j s hj => (hs j s hj).1⟩, fun p hp => ?_, nodup_flat (fun l hl => ?_) ?_, sum_flat xs ss hl (fun j s x h1 h2 => (hs j s h1).2.2.2 x h2)⟩
    · obtain ⟨l, hl, hpl⟩ := List.mem_flatten.1 hp
      obtain ⟨j, hj⟩ := List.getElem?_of_mem hl
      exact ((hs j l hj).2.1 p hpl).elim (fun h => h.1 ▸ hbase) (fun h => ⟨h.1.1.1, h.2⟩)
    · obtain ⟨j, hj⟩ := List.getElem?_of_mem hl
      exact (hs j l hj).2.2.1
    · intro i j s u hij hi hj p hp q hq he
      have e1 : p.1 = q.1 := (Prod.mk.inj he).1
      have e2 : p.2.1 = q.2.1 := (Prod.mk.inj he).2
      have hm : i * t.sz + t.sz ≤ j * t.sz := by rw [← Nat.succ_mul]; exact Nat.mul_le_mul_right _ hij
      rcases (hs i s hi).2.1 p hp with ⟨a1, a2, a3⟩ | ⟨⟨⟨a1, a2⟩, a3⟩, a4⟩ <;> rcases (hs j u hj).2.1 q hq with ⟨b1, b2, b3⟩ | ⟨⟨⟨b1, b2⟩, b3⟩, b4⟩
      · omega
      · exact b2 (e1 ▸ a1)
      · exact a2 (e1 ▸ b1)
      · rw [e1, b3] at a3; omega
theorem fits_row {α : Type} {d : Kd α} {e : Nat} {te : Ty} {cnt : α → Nat} (h : Fits True d te cnt) : Fits True (sl e d) (.row te .nil) (fun xs => (xs.map cnt).sum) := ⟨rfl, fun w base ok x cs g o hM hc => by
  obtain ⟨v, c, rfl, hl, hS⟩ := hM
  obtain ⟨s, hr, hin, hnd, hct⟩ := S_slots h hS c hl
  exact ⟨s ++ [], ⟨_, s, [], (hc 0 _ rfl).1, hr, rfl, rfl⟩, fun p hp => .inr (hin p (by simpa using hp)), (fun _ _ => by simpa using hnd), by simpa using hct⟩⟩
theorem fits_row_pr {α β : Type} {d : Kd α} {b : Kd β} {e : Nat} {te t : Ty} {cnt : α → Nat} {cn2 : β → Nat} (h : Fits True d te cnt) (hb : Fits True b t cn2) : Fits True (pr (sl e d) b) (.row te t) (fun x => (x.1.map cnt).sum + cn2 x.2) := ⟨by show 1 + b.sz = t.sz + 1; rw [hb.sz, Nat.add_comm], fun w base ok x cs g o hM hc => by
  obtain ⟨c0, c1, rfl, p, h0, h1⟩ := hM
  obtain ⟨v, c, rfl, hl, hS⟩ := h0
  obtain ⟨s, hr, hin, hnd, hct⟩ := S_slots h hS c hl
  obtain ⟨r, hr2, hin2, hnd2, hct2⟩ := hb.go w base _ x.2 c1 g (o + 1) h1 (tail_cells hc)
  refine ⟨s ++ r, ⟨_, s, r, (hc 0 _ rfl).1, hr, rfl, hr2⟩, fun q hq => ?_, fun hD hg => ?_, by rw [List.length_append, hct, hct2]⟩
  · rcases List.mem_append.1 hq with hq | hq
    · exact .inr ⟨(hin q hq).1.1, (hin q hq).2⟩
    · rcases hin2 q hq with ⟨a1, a2, a3⟩ | a
      · exact .inl ⟨a1, by omega, by show q.2.1 < o + (t.sz + 1); omega⟩
      · exact .inr ⟨a.1.1, a.2⟩
  · rw [List.map_append, List.nodup_append]
    refine ⟨hnd, hnd2 hD (fun hk => hg hk.1), fun a ha b hb he => ?_⟩
    obtain ⟨q, hq, rfl⟩ := List.mem_map.1 ha
    obtain ⟨q', hq', rfl⟩ := List.mem_map.1 hb
    have e1 : q.1 = q'.1 := (Prod.mk.inj he).1
    have a1 := (hin q hq).1
    rcases hin2 q' hq' with ⟨b1, _, _⟩ | b1
    · rw [e1, b1] at a1; exact hg a1.1
    · rw [e1] at a1; exact b1.1.2 a1.2⟩
theorem fits_slice {α : Type} {d : Kd α} {e : Nat} {te : Ty} {cnt : α → Nat} (h : Fits False d te cnt) : Fits False (Kd.slice e d) (.row te .nil) (fun xs => (xs.map cnt).sum) := ⟨rfl, fun w base ok x cs g o hM hc => by
  obtain ⟨v, rfl, hR⟩ := hM
  obtain ⟨A, c, rfl, hcl, _⟩ := Kd.R_reads hR
  obtain ⟨s, hr, hin, hct⟩ := R_slots h hR c hcl
  exact ⟨s ++ [], ⟨_, s, [], (hc 0 _ rfl).1, hr, rfl, rfl⟩, fun p hp => .inr (hin p (by simpa using hp)), fun hD => hD.elim, by simpa using hct⟩⟩
theorem fits_slice_pair {α β : Type} {d : Kd α} {b : Kd β} {e : Nat} {te t : Ty} {cnt : α → Nat} {cn2 : β → Nat} (h : Fits False d te cnt) (hb : Fits False b t cn2) : Fits False (Kd.pair (Kd.slice e d) b) (.row te t) (fun x => (x.1.map cnt).sum + cn2 x.2) := ⟨by show 1 + b.sz = t.sz + 1; rw [hb.sz, Nat.add_comm], fun w base ok x cs g o hM hc => by
  obtain ⟨c0, c1, rfl, h0, h1⟩ := hM
  obtain ⟨v, rfl, hR⟩ := h0
  obtain ⟨A, c, rfl, hcl, _⟩ := Kd.R_reads hR
  obtain ⟨s, hr, hin, hct⟩ := R_slots h hR c hcl
  obtain ⟨r, hr2, hin2, _, hct2⟩ := hb.go w base _ x.2 c1 g (o + 1) h1 (tail_cells hc)
  refine ⟨s ++ r, ⟨_, s, r, (hc 0 _ rfl).1, hr, rfl, hr2⟩, fun q hq => ?_, fun hD => hD.elim, by rw [List.length_append, hct, hct2]⟩
  rcases List.mem_append.1 hq with hq | hq
  · exact .inr (hin q hq)
  · rcases hin2 q hq with ⟨a1, a2, a3⟩ | a
    · exact .inl ⟨a1, by omega, by show q.2.1 < o + (t.sz + 1); omega⟩
    · exact .inr a⟩
end
section
/-- The cells of s hold the marks from a on. -/
def Held (w : World) (s : List Slot) (a : Nat) : Prop := ∀ j p, s[j]? = some p → w.cell? ⟨p.1, p.2.1, none⟩ = some (mkv p.2.2 (a + j))
theorem Held.below {w w' : World} {s : List Slot} {a : Nat} (h : Held w s a) (hb : Below w.heap.size w w') : Held w' s a := fun j p hj => by
  have := h j p hj
  exact (hb.cell (World.block_lt_of_cell? w _ this)).trans this
theorem Held.left {w : World} {s1 s2 : List Slot} {a : Nat} (h : Held w (s1 ++ s2) a) : Held w s1 a := fun j p hj => h j p (by
  rw [List.getElem?_append_left (List.getElem?_eq_some_iff.1 hj).1]; exact hj)
theorem Held.right {w : World} {s1 s2 : List Slot} {a : Nat} (h : Held w (s1 ++ s2) a) : Held w s2 (a + s1.length) := fun j p hj => by
  have := h (s1.length + j) p (by rw [List.getElem?_append_right (Nat.le_add_right _ _), Nat.add_sub_cancel_left]; exact hj)
  rwa [← Nat.add_assoc] at this
theorem Held.one {w : World} {g o : Nat} {t : Bool} {a : Nat} (h : Held w [(g, o, t)] a) : w.cell? ⟨g, o, none⟩ = some (mkv t a) := h 0 _ rfl
theorem Held.flat {w : World} {ss : List (List Slot)} {a i : Nat} {t : List Slot} (h : Held w ss.flatten a) (hi : ss[i]? = some t) : Held w t (a + (ss.take i).flatten.length) := by
  obtain ⟨hl, rfl⟩ := List.getElem?_eq_some_iff.1 hi
  have e : ss.flatten = (ss.take i).flatten ++ (ss[i] ++ (ss.drop (i + 1)).flatten) := by
    have e2 : ss.flatten = (ss.take i ++ ss.drop i).flatten := by rw [List.take_append_drop]
    rw [e2, List.flatten_append, List.drop_eq_getElem_cons hl, List.flatten_cons]
  rw [e] at h
  exact h.right.left
theorem Marked.held {w w' : World} {s : List Slot} {a : Nat} (h : Marked w w' s a) (hn : (s.map key).Nodup) : Held w' s a := h.at_ hn
end
set_option maxHeartbeats 2000000 in
set_option maxRecDepth 100000 in
theorem heldIntS_any (v : Value) (s : List Slot) (a : Nat) {ai : Int} (hai : ai = (a : Int)) (w : World) (hs : RowOf (Cel w tyInt) 1 v s) (h1 : 1 ≤ a) (hb : a + s.length ≤ 9000000) (hh : Held w s a) :
    Calls Try.prog 44 #[v, .int .i64 ai] w fun e w' => e = .returned (.int .i64 ((a + s.length : Nat) : Int)) ∧ Below w.heap.size w w' := by
  subst hai
  obtain ⟨A, n, c, ss, rfl, hnc, hcm, hn, rfl, hel⟩ := hs.all
  have HEL := Aside0.mk hel
  have HN := Aside0.mk hn
  have HH := Aside0.mk hh
  have HB := Aside0.mk (Below.refl w.heap.size w)
  have hnm : n ≤ 9223372036854775807 := by unfold maxLen at hcm; omega
  clear hel hn hs hcm hnc hh
  go_enter Try.func44, Try.ntmps44
  go_wp2
  go_loopw [1, 5] (fun v1 v5 wr => ∃ i K : Nat, i ≤ n ∧ v5 = .int .i64 i ∧ v1 = .int .i64 K ∧ 1 ≤ K ∧ K ≤ 9000000 ∧ Aside0 (K = a + (ss.take i).flatten.length) ∧ Aside0 (Below w.heap.size w wr)) (fun _ v5 _ => n - (intOf v5).toNat)
  case atStart => exact ⟨0, a, Nat.zero_le _, rfl, rfl, h1, by omega, ⟨by simp⟩, HB⟩
  case round =>
    clear HB
    obtain ⟨i, K0, hi, rfl, rfl, hK1, hK2, HK, HB⟩ := hrel
    by_cases hlt : i < n
    · have hsl := List.getElem?_eq_getElem (show i < ss.length by have := HN.out; omega)
      obtain ⟨g, hA, hc⟩ := HEL.out i _ hsl
      subst hA
      generalize ss[i]'(by have := HN.out; omega) = t at hsl hc
      have HS := Aside0.mk hsl
      have hq := HH.out.flat hsl
      rw [Nat.mul_one] at hc
      obtain ⟨_, _, r0, ht0, hrn⟩ := hc
      obtain rfl : r0 = [] := hrn
      have HT := Aside0.mk (show t = [(g, i, false)] by rw [ht0]; first | done | simp)
      clear ht0 hsl
      rw [HT.out, ← HK.out] at hq
      have hx0 : w.cell? ⟨g, i, none⟩ = some (.int .i64 (K0 : Int)) := hq.one
      have HX0 := Aside0.mk hx0
      clear hx0
      have hle : K0 + (1) ≤ 9000000 := by
        have h1 := take_flat HS.out
        have h2 := flat_le ss (i + 1)
        have h3 := HK.out
        rw [h1, HT.out] at h2
        (try simp only [List.length_append, List.length_cons, List.length_nil, Nat.zero_add] at h2)
        omega
      clear hq
      have hx0 : _ = some (Value.int .i64 ((K0 : Int))) := (HB.out.cell (World.block_lt_of_cell? w _ HX0.out)).trans (HX0.out.trans (by rw [show ((K0 : Nat) : Int) = (K0 : Int) by omega]))
      go_wp2
      go_roundw
      case rel => exact ⟨i + 1, K0 + 1, by omega, by go_num, by first | rfl | go_num, by omega, by omega, ⟨by rw [take_flat HS.out, HT.out]; have := HK.out; (try simp only [List.length_append, List.length_cons, List.length_nil] at this); (try simp only [List.length_append, List.length_cons, List.length_nil]); omega⟩, HB⟩
      case measure => simp [intOf]; omega
    · have hin : i = ss.length := by have := HN.out; omega
      have HL := Aside0.mk hin
      clear hin
      go_wp2
      go_ret
      have e := HK.out
      subst e
      rw [HL.out, List.take_length]
      exact ⟨rfl, HB.out⟩
set_option maxHeartbeats 2000000 in
set_option maxRecDepth 100000 in
theorem heldStringS_any (v : Value) (s : List Slot) (a : Nat) {ai : Int} (hai : ai = (a : Int)) (w : World) (hs : RowOf (Cel w tyString) 1 v s) (h1 : 1 ≤ a) (hb : a + s.length ≤ 9000000) (hh : Held w s a) :
    Calls Try.prog 43 #[v, .int .i64 ai] w fun e w' => e = .returned (.int .i64 ((a + s.length : Nat) : Int)) ∧ Below w.heap.size w w' := by
  subst hai
  obtain ⟨A, n, c, ss, rfl, hnc, hcm, hn, rfl, hel⟩ := hs.all
  have HEL := Aside0.mk hel
  have HN := Aside0.mk hn
  have HH := Aside0.mk hh
  have HB := Aside0.mk (Below.refl w.heap.size w)
  have hnm : n ≤ 9223372036854775807 := by unfold maxLen at hcm; omega
  clear hel hn hs hcm hnc hh
  go_enter Try.func43, Try.ntmps43
  go_wp2
  go_loopw [1, 5] (fun v1 v5 wr => ∃ i K : Nat, i ≤ n ∧ v5 = .int .i64 i ∧ v1 = .int .i64 K ∧ 1 ≤ K ∧ K ≤ 9000000 ∧ Aside0 (K = a + (ss.take i).flatten.length) ∧ Aside0 (Below w.heap.size w wr)) (fun _ v5 _ => n - (intOf v5).toNat)
  case atStart => exact ⟨0, a, Nat.zero_le _, rfl, rfl, h1, by omega, ⟨by simp⟩, HB⟩
  case round =>
    clear HB
    obtain ⟨i, K0, hi, rfl, rfl, hK1, hK2, HK, HB⟩ := hrel
    by_cases hlt : i < n
    · have hsl := List.getElem?_eq_getElem (show i < ss.length by have := HN.out; omega)
      obtain ⟨g, hA, hc⟩ := HEL.out i _ hsl
      subst hA
      generalize ss[i]'(by have := HN.out; omega) = t at hsl hc
      have HS := Aside0.mk hsl
      have hq := HH.out.flat hsl
      rw [Nat.mul_one] at hc
      obtain ⟨_, _, r0, ht0, hrn⟩ := hc
      obtain rfl : r0 = [] := hrn
      have HT := Aside0.mk (show t = [(g, i, true)] by rw [ht0]; first | done | simp)
      clear ht0 hsl
      rw [HT.out, ← HK.out] at hq
      have hx0 : w.cell? ⟨g, i, none⟩ = some (.string (mtx K0)) := hq.one
      have HX0 := Aside0.mk hx0
      clear hx0
      have hle : K0 + (1) ≤ 9000000 := by
        have h1 := take_flat HS.out
        have h2 := flat_le ss (i + 1)
        have h3 := HK.out
        rw [h1, HT.out] at h2
        (try simp only [List.length_append, List.length_cons, List.length_nil, Nat.zero_add] at h2)
        omega
      clear hq
      go_wp2_with fail
      have hx0 := (HB.out.cell (World.block_lt_of_cell? w _ HX0.out)).trans HX0.out
      replace HB := Aside0.mk (below_drew1 HB.out)
      refine start_ (n := 7) (S := fun w' => w'.cell? ⟨g, i, none⟩ = some (Value.string (mtx (K0)))) (ds := []) #[false,false,false,false,false,false,false] (by kernel_rfl) rfl rfl hx0 (fun hHeld => ?_)
      clear hx0
      generalize wr.drew = wd at HB hHeld ⊢
      refine Up.pn 0 (some 12) ?_
      refine Up.pn 1 (some 13) ?_
      refine Up.pn 2 (some 14) ?_
      refine Up.pn 4 (some 16) ?_
      refine take_ (i := 3) (N := some 15) (v := ?_) (a' := ?_) #[true,true,true,true,true,false,false] rfl rfl (by kernel_rfl) (fun _ _ _ h => h) (Or.inl ⟨by rfl, ?_⟩) hHeld ?_ ?_
      rotate_left
      · intro w' s0
        go_simp
        with_reducible rfl
      rotate_left
      · simp only [Act.put, List.setIfInBounds_toArray, List.set_cons_zero, List.set_cons_succ, i64_w, i32_w]
        rfl
      refine one_ (i := 5) (N := some 17) #[true,true,true,true,true,true,false] rfl rfl (by kernel_rfl) (by decide) (fun K hK => ?_)
      refine Up.go Try.func60 #[.int .i64 ((K0 : Int))] ?_
      refine (mText_any (K0) (by omega) (by omega) (by omega) _).mono ?_
      rintro e w8 ⟨rfl, hb⟩
      refine ⟨_, rfl, ?_⟩
      replace HB := Aside0.mk (below_step HB.out hb)
      clear hb
      refine hK.out _ _ ((HB.out.cell (World.block_lt_of_cell? w _ HX0.out)).trans HX0.out) (fun hHeld => ?_)
      clear hK K
      refine Up.nm 17 ?_
      refine Up.pn 6 (some 18) ?_
      refine done_ (by kernel_rfl) ?_
      go_wp2
      go_roundw
      case rel => exact ⟨i + 1, K0 + 1, by omega, by go_num, by first | rfl | go_num, by omega, by omega, ⟨by rw [take_flat HS.out, HT.out]; have := HK.out; (try simp only [List.length_append, List.length_cons, List.length_nil] at this); (try simp only [List.length_append, List.length_cons, List.length_nil]); omega⟩, HB⟩
      case measure => simp [intOf]; omega
    · have hin : i = ss.length := by have := HN.out; omega
      have HL := Aside0.mk hin
      clear hin
      go_wp2
      go_ret
      have e := HK.out
      subst e
      rw [HL.out, List.take_length]
      exact ⟨rfl, HB.out⟩
set_option maxHeartbeats 2000000 in
set_option maxRecDepth 100000 in
theorem heldInsS_any (v : Value) (s : List Slot) (a : Nat) {ai : Int} (hai : ai = (a : Int)) (w : World) (hs : RowOf (Cel w tyIns) 3 v s) (h1 : 1 ≤ a) (hb : a + s.length ≤ 9000000) (hh : Held w s a) :
    Calls Try.prog 45 #[v, .int .i64 ai] w fun e w' => e = .returned (.int .i64 ((a + s.length : Nat) : Int)) ∧ Below w.heap.size w w' := by
  subst hai
  obtain ⟨A, n, c, ss, rfl, hnc, hcm, hn, rfl, hel⟩ := hs.all
  have HEL := Aside0.mk hel
  have HN := Aside0.mk hn
  have HH := Aside0.mk hh
  have HB := Aside0.mk (Below.refl w.heap.size w)
  have hnm : n ≤ 9223372036854775807 := by unfold maxLen at hcm; omega
  clear hel hn hs hcm hnc hh
  go_enter Try.func45, Try.ntmps45
  go_wp2
  go_loopw [1, 5] (fun v1 v5 wr => ∃ i K : Nat, i ≤ n ∧ v5 = .int .i64 i ∧ v1 = .int .i64 K ∧ 1 ≤ K ∧ K ≤ 9000000 ∧ Aside0 (K = a + (ss.take i).flatten.length) ∧ Aside0 (Below w.heap.size w wr)) (fun _ v5 _ => n - (intOf v5).toNat)
  case atStart => exact ⟨0, a, Nat.zero_le _, rfl, rfl, h1, by omega, ⟨by simp⟩, HB⟩
  case round =>
    clear HB
    obtain ⟨i, K0, hi, rfl, rfl, hK1, hK2, HK, HB⟩ := hrel
    by_cases hlt : i < n
    · have hsl := List.getElem?_eq_getElem (show i < ss.length by have := HN.out; omega)
      obtain ⟨g, hA, hc⟩ := HEL.out i _ hsl
      subst hA
      generalize ss[i]'(by have := HN.out; omega) = t at hsl hc
      have HS := Aside0.mk hsl
      have hq := HH.out.flat hsl
      obtain ⟨_, _, r0, ht0, _, _, r1, ht1, _, _, r2, ht2, hrn⟩ := hc
      obtain rfl : r2 = [] := hrn
      subst ht2
      subst ht1
      have HT := Aside0.mk (show t = [(g, i * 3, true)] ++ [(g, i * 3 + 1, false)] ++ [(g, i * 3 + 2, false)] by rw [ht0]; first | done | simp)
      clear ht0 hsl
      rw [HT.out, ← HK.out] at hq
      have hx2 : w.cell? ⟨g, i * 3 + 2, none⟩ = some (.int .i64 ((K0 + 1 + 1 : Nat) : Int)) := by have := hq.right.one; simpa only [mkv, List.length_append, List.length_cons, List.length_nil, Nat.zero_add, Nat.add_assoc, if_true, Bool.false_eq_true, if_false] using this
      replace hq := hq.left
      have hx1 : w.cell? ⟨g, i * 3 + 1, none⟩ = some (.int .i64 ((K0 + 1 : Nat) : Int)) := by have := hq.right.one; simpa only [mkv, List.length_append, List.length_cons, List.length_nil, Nat.zero_add, Nat.add_assoc, if_true, Bool.false_eq_true, if_false] using this
      replace hq := hq.left
      have hx0 : w.cell? ⟨g, i * 3, none⟩ = some (.string (mtx K0)) := hq.one
      have HX0 := Aside0.mk hx0
      clear hx0
      have HX1 := Aside0.mk hx1
      clear hx1
      have HX2 := Aside0.mk hx2
      clear hx2
      have hle : K0 + (1 + 1 + 1) ≤ 9000000 := by
        have h1 := take_flat HS.out
        have h2 := flat_le ss (i + 1)
        have h3 := HK.out
        rw [h1, HT.out] at h2
        (try simp only [List.length_append, List.length_cons, List.length_nil, Nat.zero_add] at h2)
        omega
      clear hq
      go_wp2_with fail
      have hx0 := (HB.out.cell (World.block_lt_of_cell? w _ HX0.out)).trans HX0.out
      replace HB := Aside0.mk (below_drew1 HB.out)
      refine start_ (n := 8) (S := fun w' => w'.cell? ⟨g, i * 3, none⟩ = some (Value.string (mtx (K0)))) (ds := []) #[false,false,false,false,false,false,false,false] (by kernel_rfl) rfl rfl hx0 (fun hHeld => ?_)
      clear hx0
      generalize wr.drew = wd at HB hHeld ⊢
      refine Up.pn 0 (some 12) ?_
      refine Up.pn 1 (some 13) ?_
      refine Up.pn 2 (some 14) ?_
      refine Up.pn 3 (some 15) ?_
      refine Up.pn 5 (some 17) ?_
      refine take_ (i := 4) (N := some 16) (v := ?_) (a' := ?_) #[true,true,true,true,true,true,false,false] rfl rfl (by kernel_rfl) (fun _ _ _ h => h) (Or.inl ⟨by rfl, ?_⟩) hHeld ?_ ?_
      rotate_left
      · intro w' s0
        go_simp
        with_reducible rfl
      rotate_left
      · simp only [Act.put, List.setIfInBounds_toArray, List.set_cons_zero, List.set_cons_succ, i64_w, i32_w]
        rfl
      refine one_ (i := 6) (N := some 18) #[true,true,true,true,true,true,true,false] rfl rfl (by kernel_rfl) (by decide) (fun K hK => ?_)
      refine Up.go Try.func60 #[.int .i64 ((K0 : Int))] ?_
      refine (mText_any (K0) (by omega) (by omega) (by omega) _).mono ?_
      rintro e w8 ⟨rfl, hb⟩
      refine ⟨_, rfl, ?_⟩
      replace HB := Aside0.mk (below_step HB.out hb)
      clear hb
      refine hK.out _ _ ((HB.out.cell (World.block_lt_of_cell? w _ HX0.out)).trans HX0.out) (fun hHeld => ?_)
      clear hK K
      refine Up.nm 18 ?_
      refine Up.pn 7 (some 19) ?_
      refine done_ (by kernel_rfl) ?_
      have hx1 : _ = some (Value.int .i64 ((K0 : Int) + 1)) := (HB.out.cell (World.block_lt_of_cell? w _ HX1.out)).trans (HX1.out.trans (by rw [show ((K0 + 1 : Nat) : Int) = (K0 : Int) + 1 by omega]))
      have hx2 : _ = some (Value.int .i64 ((K0 : Int) + 1 + 1)) := (HB.out.cell (World.block_lt_of_cell? w _ HX2.out)).trans (HX2.out.trans (by rw [show ((K0 + 1 + 1 : Nat) : Int) = (K0 : Int) + 1 + 1 by omega]))
      go_wp2
      go_roundw
      case rel => exact ⟨i + 1, K0 + 3, by omega, by go_num, by first | rfl | go_num, by omega, by omega, ⟨by rw [take_flat HS.out, HT.out]; have := HK.out; (try simp only [List.length_append, List.length_cons, List.length_nil] at this); (try simp only [List.length_append, List.length_cons, List.length_nil]); omega⟩, HB⟩
      case measure => simp [intOf]; omega
    · have hin : i = ss.length := by have := HN.out; omega
      have HL := Aside0.mk hin
      clear hin
      go_wp2
      go_ret
      have e := HK.out
      subst e
      rw [HL.out, List.take_length]
      exact ⟨rfl, HB.out⟩
theorem clip_str (A0 : Option Addr) (n c0 : Nat) (w : World) (hc : n ≤ c0) (hm : n ≤ 9223372036854775807) :
    Calls Try.prog 65 #[.slice A0 n c0] w fun e w' => e = .returned (.slice A0 n n) ∧ Below w.heap.size w w' := by
  obtain ⟨i0, hi0, _, hsz, _⟩ := info_parts OFnExactShelfFunc.info9
  have hcut : ∀ W : World, (Instr.slice 35 (.slice A0 n c0) none (some (.int .i64 (n : Int))) (some (.int .i64 (n : Int)))).run Try.prog W = .ok (.slice A0 n n) W := by
    intro W
    have ht := Try.underlying35
    have hel : Try.prog.elem 35 = 9 := by simp [Program.elem, ht]
    have hu : Try.prog.underlying 35 = some (.slice (Try.prog.elem 35)) := by rw [hel]; exact ht
    have ha : (A0.map fun x => x.add 0) = A0 := by cases A0 <;> simp [Addr.add]
    rw [run_slice_hm W 35 A0 n c0 hu .i64 .i64 n n (by omega) (by omega) (by omega), hel]
    simp [sizeOf, typeInfo, hi0, sliced, Result.andThen, ha]
  clear hc
  go_enter Try.func65, Try.ntmps65
  go_wp2
  go_ret
  exact ⟨rfl, Below.refl _ _⟩
theorem clip_int (A0 : Option Addr) (n c0 : Nat) (w : World) (hc : n ≤ c0) (hm : n ≤ 9223372036854775807) :
    Calls Try.prog 66 #[.slice A0 n c0] w fun e w' => e = .returned (.slice A0 n n) ∧ Below w.heap.size w w' := by
  obtain ⟨i0, hi0, _, hsz, _⟩ := info_parts OFnExactShelfFunc.info3
  have hcut : ∀ W : World, (Instr.slice 36 (.slice A0 n c0) none (some (.int .i64 (n : Int))) (some (.int .i64 (n : Int)))).run Try.prog W = .ok (.slice A0 n n) W := by
    intro W
    have ht := Try.underlying36
    have hel : Try.prog.elem 36 = 3 := by simp [Program.elem, ht]
    have hu : Try.prog.underlying 36 = some (.slice (Try.prog.elem 36)) := by rw [hel]; exact ht
    have ha : (A0.map fun x => x.add 0) = A0 := by cases A0 <;> simp [Addr.add]
    rw [run_slice_hm W 36 A0 n c0 hu .i64 .i64 n n (by omega) (by omega) (by omega), hel]
    simp [sizeOf, typeInfo, hi0, sliced, Result.andThen, ha]
  clear hc
  go_enter Try.func66, Try.ntmps66
  go_wp2
  go_ret
  exact ⟨rfl, Below.refl _ _⟩
theorem clip_ins (A0 : Option Addr) (n c0 : Nat) (w : World) (hc : n ≤ c0) (hm : n ≤ 9223372036854775807) :
    Calls Try.prog 57 #[.slice A0 n c0] w fun e w' => e = .returned (.slice A0 n n) ∧ Below w.heap.size w w' := by
  obtain ⟨i0, hi0, _, hsz, _⟩ := info_parts OFnExactShelfFunc.info83
  have hcut : ∀ W : World, (Instr.slice 37 (.slice A0 n c0) none (some (.int .i64 (n : Int))) (some (.int .i64 (n : Int)))).run Try.prog W = .ok (.slice A0 n n) W := by
    intro W
    have ht := Try.underlying37
    have hel : Try.prog.elem 37 = 83 := by simp [Program.elem, ht]
    have hu : Try.prog.underlying 37 = some (.slice (Try.prog.elem 37)) := by rw [hel]; exact ht
    have ha : (A0.map fun x => x.add 0) = A0 := by cases A0 <;> simp [Addr.add]
    rw [run_slice_hm W 37 A0 n c0 hu .i64 .i64 n n (by omega) (by omega) (by omega), hel]
    simp [sizeOf, typeInfo, hi0, sliced, Result.andThen, ha]
  clear hc
  go_enter Try.func57, Try.ntmps57
  go_wp2
  go_ret
  exact ⟨rfl, Below.refl _ _⟩
set_option maxHeartbeats 2000000 in
set_option maxRecDepth 100000 in
theorem copyTexts_own (A0 : Option Addr) (c0 : Nat) (l0 : List ByteArray) (w : World) (hr0 : Kd.C Kd.string w A0 l0.length l0) (hc0 : l0.length ≤ c0) (hl : l0.length < 4398046511104) :
    Calls Try.prog 54 #[.slice A0 l0.length c0] w fun e w' => ∃ A c, e = .returned (.slice A l0.length l0.length) ∧ Kd.S Kd.string 9 w' w.heap.size (fun k => w.heap.size ≤ k) (.slice A l0.length c) l0 ∧ Below w.heap.size w w' := by
  have HR0 := Aside0.mk hr0
  have HB := Aside0.mk (Below.refl w.heap.size w)
  have HL := Aside0.mk hl
  clear hr0 hl
  go_enter Try.func54, Try.ntmps54
  go_wp2_with (first
    | ((with_reducible refine gate_dst (N := 3) rfl ?_); refine Kd.R_lit Kd.string _ 9 ?hg (N := 3) ?hd (xs := ([] : List ByteArray)) (inner := []) (ok := fun _ => True) (okp := fun _ => True) ?hr ?hp (fun _ hk => hk) trivial (Below.refl _ _) (Nat.le_refl _) (by simp) ?_; (case hd => rfl); (case hg => rfl); (case hr => first | (go_simp; done) | (go_simp; rfl)); (case hp => exact (Reps.none _ _)); intro v3 w4 ho hb hg_ hnew_; clear hg_ hnew_; have HO := Aside0.mk ho; replace HB := Aside0.mk hb; clear hb ho)
    | ((with_reducible refine gate_builtin (b := .append) (xs := #[.tmp 3, .tmp 4]) rfl ?_); at_builtin; refine Kd.R_append_rows Kd.string (w0 := w) w.heap.size rfl (.tmp 3) (.tmp 4) 35 9 (.string ⟨#[]⟩) 16 rfl Try.underlying35 OFnExactShelfFunc.info9 rfl (by decide) (by omega) v3 ([] : List ByteArray) l0 _ _ _ (fun k => w.heap.size ≤ k) (fun _ => False) rfl rfl ?aO ?aR (fun _ _ h => h) (fun _ h => h.elim) ?aF ?aB ?aS ?aL ?_
       ; (case aR => exact Kd.C_below HR0.out HB.out); (case aB => exact HB.out); (case aF => exact (fun k_ hk => (Nat.le_trans HB.out.size hk))); (case aO => exact Kd.R_mono (Kd.R_bound HO.out) (fun _ hk => hk.2.1)); (case aS => exact HB.out.size); (case aL => (have := HL.out; simp; omega)); intro v5 w6 ho hb hg hat; replace HB := Aside0.mk hb; replace HO := Aside0.mk ho; clear ho hb hg hat; obtain ⟨A5, c5, e5⟩ := Kd.R_slice HO.out; rw [List.nil_append] at e5 HO; subst e5)
    | (go_at_call 65; refine (clip_str A5 l0.length c5 _ (Kd.R_reads' HO.out).2.1 (by have := HL.out; omega)).mono ?_; rintro e w7 ⟨rfl, hb⟩; replace HO := Aside0.mk (Kd.R_below HO.out hb); replace HB := Aside0.mk (below_step HB.out hb); clear hb))
  go_ret
  exact ⟨A5, c5, rfl, S_flat rfl HO.out, HB.out⟩
set_option maxHeartbeats 2000000 in
set_option maxRecDepth 100000 in
theorem copyInts_own (A0 : Option Addr) (c0 : Nat) (l0 : List Int) (w : World) (hr0 : Kd.C (Kd.int .i64) w A0 l0.length l0) (hc0 : l0.length ≤ c0) (hl : l0.length < 4398046511104) :
    Calls Try.prog 58 #[.slice A0 l0.length c0] w fun e w' => ∃ A c, e = .returned (.slice A l0.length l0.length) ∧ Kd.S (Kd.int .i64) 3 w' w.heap.size (fun k => w.heap.size ≤ k) (.slice A l0.length c) l0 ∧ Below w.heap.size w w' := by
  have HR0 := Aside0.mk hr0
  have HB := Aside0.mk (Below.refl w.heap.size w)
  have HL := Aside0.mk hl
  clear hr0 hl
  go_enter Try.func58, Try.ntmps58
  go_wp2_with (first
    | ((with_reducible refine gate_dst (N := 3) rfl ?_); refine Kd.R_lit (Kd.int .i64) _ 3 ?hg (N := 3) ?hd (xs := ([] : List Int)) (inner := []) (ok := fun _ => True) (okp := fun _ => True) ?hr ?hp (fun _ hk => hk) trivial (Below.refl _ _) (Nat.le_refl _) (by simp) ?_; (case hd => rfl); (case hg => rfl); (case hr => first | (go_simp; done) | (go_simp; rfl)); (case hp => exact (Reps.none _ _)); intro v3 w4 ho hb hg_ hnew_; clear hg_ hnew_; have HO := Aside0.mk ho; replace HB := Aside0.mk hb; clear hb ho)
    | ((with_reducible refine gate_builtin (b := .append) (xs := #[.tmp 3, .tmp 4]) rfl ?_); at_builtin; refine Kd.R_append_rows (Kd.int .i64) (w0 := w) w.heap.size rfl (.tmp 3) (.tmp 4) 36 3 (.int .i64 0) 8 rfl Try.underlying36 OFnExactShelfFunc.info3 rfl (by decide) (by omega) v3 ([] : List Int) l0 _ _ _ (fun k => w.heap.size ≤ k) (fun _ => False) rfl rfl ?aO ?aR (fun _ _ h => h) (fun _ h => h.elim) ?aF ?aB ?aS ?aL ?_
       ; (case aR => exact Kd.C_below HR0.out HB.out); (case aB => exact HB.out); (case aF => exact (fun k_ hk => (Nat.le_trans HB.out.size hk))); (case aO => exact Kd.R_mono (Kd.R_bound HO.out) (fun _ hk => hk.2.1)); (case aS => exact HB.out.size); (case aL => (have := HL.out; simp; omega)); intro v5 w6 ho hb hg hat; replace HB := Aside0.mk hb; replace HO := Aside0.mk ho; clear ho hb hg hat; obtain ⟨A5, c5, e5⟩ := Kd.R_slice HO.out; rw [List.nil_append] at e5 HO; subst e5)
    | (go_at_call 66; refine (clip_int A5 l0.length c5 _ (Kd.R_reads' HO.out).2.1 (by have := HL.out; omega)).mono ?_; rintro e w7 ⟨rfl, hb⟩; replace HO := Aside0.mk (Kd.R_below HO.out hb); replace HB := Aside0.mk (below_step HB.out hb); clear hb))
  go_ret
  exact ⟨A5, c5, rfl, S_flat rfl HO.out, HB.out⟩
set_option maxHeartbeats 2000000 in
set_option maxRecDepth 100000 in
theorem markFunc_any (n0 : Int) (v1 : Value) (s1 : List Slot) (v2 : Value) (s2 : List Slot) (v3 : Value) (s3 : List Slot) (v4 : Value) (s4 : List Slot) (v5 : Value) (s5 : List Slot) (a : Nat) {ai : Int} (hai : ai = (a : Int)) (w : World) (hs1 : RowOf (Cel w tyString) 1 v1 s1) (hs2 : RowOf (Cel w tyString) 1 v2 s2) (hs3 : RowOf (Cel w tyString) 1 v3 s3) (hs4 : RowOf (Cel w tyInt) 1 v4 s4) (hs5 : RowOf (Cel w tyIns) 3 v5 s5) (h1 : 1 ≤ a) (hb : a + (s1 ++ s2 ++ s3 ++ s4 ++ s5).length ≤ 9000000) :
    Calls Try.prog 20 #[.agg #[.int .i64 n0, v1, v2, v3, v4, v5], .int .i64 ai] w fun e w' => e = .returned (.int .i64 ((a + (s1 ++ s2 ++ s3 ++ s4 ++ s5).length : Nat) : Int)) ∧ Marked w w' (s1 ++ s2 ++ s3 ++ s4 ++ s5) a := by
  subst hai
  have hu_ := Try.underlying39
  (try simp only [List.length_append] at hb)
  have hle : a + (s1.length + s2.length + s3.length + s4.length + s5.length) ≤ 9000000 := by omega
  clear hb
  have HI1 := Aside0.mk (fun p hp => RowOf.mem hs1 p hp)
  obtain ⟨A1, m1, c1, e1⟩ := hs1.slice
  subst e1
  have HV1 := Aside0.mk hs1
  clear hs1
  have HI2 := Aside0.mk (fun p hp => RowOf.mem hs2 p hp)
  obtain ⟨A2, m2, c2, e2⟩ := hs2.slice
  subst e2
  have HV2 := Aside0.mk hs2
  clear hs2
  have HI3 := Aside0.mk (fun p hp => RowOf.mem hs3 p hp)
  obtain ⟨A3, m3, c3, e3⟩ := hs3.slice
  subst e3
  have HV3 := Aside0.mk hs3
  clear hs3
  have HI4 := Aside0.mk (fun p hp => RowOf.mem hs4 p hp)
  obtain ⟨A4, m4, c4, e4⟩ := hs4.slice
  subst e4
  have HV4 := Aside0.mk hs4
  clear hs4
  have HI5 := Aside0.mk (fun p hp => RowOf.mem hs5 p hp)
  obtain ⟨A5, m5, c5, e5⟩ := hs5.slice
  subst e5
  have HV5 := Aside0.mk hs5
  clear hs5
  go_enter Try.func20, Try.ntmps20
  go_wp2_with fail
  obtain ⟨g, hg⟩ : ∃ g, g = w.heap.size := ⟨_, rfl⟩
  obtain ⟨wb, hwb⟩ : ∃ W, W = w.alloc (.cells #[.int .i64 n0, .slice A1 m1 c1, .slice A2 m2 c2, .slice A3 m3 c3, .slice A4 m4 c4, .slice A5 m5 c5] 39) := ⟨_, rfl⟩
  rw [← hwb]
  try rw [← hg]
  have BK := Aside0.mk (show wb.heap[g]? = some (.cells #[.int .i64 n0, .slice A1 m1 c1, .slice A2 m2 c2, .slice A3 m3 c3, .slice A4 m4 c4, .slice A5 m5 c5] 39 (0, 0)) by rw [hwb, hg]; exact heap_alloc_new w _)
  have HB := Aside0.mk (show Below w.heap.size w wb by rw [hwb]; exact below_alloc (Below.refl _ _) _)
  have GW := Aside0.mk (show w.heap.size ≤ g by rw [hg]; exact Nat.le_refl _)
  have HM := Aside0.mk (Marked.nil HB.out a)
  have HK := Aside0.mk (show a = a + ([] : List Slot).length by simp)
  clear HB
  clear hwb hg
  refine (markStringS_any _ s1 a (by omega) _ (RowOf.tp HM.out.tp HV1.out) (by omega) (by omega)).mono ?_
  rintro e w1 ⟨rfl, hm⟩
  replace BK := Aside0.mk ((hm.far g (blk_lt BK.out) (fun p hp e => by have h1 := HI1.out p hp; have h2 := GW.out; omega)).trans BK.out)
  replace HM := Aside0.mk (Marked.more HM.out (K := a) HK.out hm)
  obtain ⟨K1, hK1⟩ : ∃ K_ : Nat, K_ = a + s1.length := ⟨_, rfl⟩
  rw [← hK1]
  have HE := Aside0.mk (show K1 = a + s1.length by omega)
  replace HK := Aside0.mk (show K1 = a + ([] ++ s1).length by rw [HE.out]; simp only [List.length_append, List.length_nil]; omega)
  have mK1 : 1 ≤ K1 := by omega
  have lK1 : K1 ≤ 9000000 := by omega
  replace hle : K1 + (s2.length + s3.length + s4.length + s5.length) ≤ 9000000 := by omega
  clear hK1 hm
  have hx2 := blk_cell BK.out 2
  replace hx2 : _ = some (Value.slice A2 m2 c2) := hx2.trans rfl
  go_wp2_with fail
  clear hx2
  refine (markStringS_any _ s2 K1 (by omega) _ (RowOf.tp HM.out.tp HV2.out) (by omega) (by omega)).mono ?_
  rintro e w2 ⟨rfl, hm⟩
  replace BK := Aside0.mk ((hm.far g (blk_lt BK.out) (fun p hp e => by have h1 := HI2.out p hp; have h2 := GW.out; omega)).trans BK.out)
  replace HM := Aside0.mk (Marked.more HM.out (K := K1) HK.out hm)
  obtain ⟨K2, hK2⟩ : ∃ K_ : Nat, K_ = K1 + s2.length := ⟨_, rfl⟩
  rw [← hK2]
  replace HE := Aside0.mk (show K2 = a + s1.length + s2.length by have := HE.out; omega)
  replace HK := Aside0.mk (show K2 = a + ([] ++ s1 ++ s2).length by rw [HE.out]; simp only [List.length_append, List.length_nil]; omega)
  have mK2 : 1 ≤ K2 := by omega
  have lK2 : K2 ≤ 9000000 := by omega
  replace hle : K2 + (s3.length + s4.length + s5.length) ≤ 9000000 := by omega
  clear hK2 hm
  have hx3 := blk_cell BK.out 3
  replace hx3 : _ = some (Value.slice A3 m3 c3) := hx3.trans rfl
  go_wp2_with fail
  clear hx3
  refine (markStringS_any _ s3 K2 (by omega) _ (RowOf.tp HM.out.tp HV3.out) (by omega) (by omega)).mono ?_
  rintro e w3 ⟨rfl, hm⟩
  replace BK := Aside0.mk ((hm.far g (blk_lt BK.out) (fun p hp e => by have h1 := HI3.out p hp; have h2 := GW.out; omega)).trans BK.out)
  replace HM := Aside0.mk (Marked.more HM.out (K := K2) HK.out hm)
  obtain ⟨K3, hK3⟩ : ∃ K_ : Nat, K_ = K2 + s3.length := ⟨_, rfl⟩
  rw [← hK3]
  replace HE := Aside0.mk (show K3 = a + s1.length + s2.length + s3.length by have := HE.out; omega)
  replace HK := Aside0.mk (show K3 = a + ([] ++ s1 ++ s2 ++ s3).length by rw [HE.out]; simp only [List.length_append, List.length_nil]; omega)
  have mK3 : 1 ≤ K3 := by omega
  have lK3 : K3 ≤ 9000000 := by omega
  replace hle : K3 + (s4.length + s5.length) ≤ 9000000 := by omega
  clear hK3 hm
  have hx4 := blk_cell BK.out 4
  replace hx4 : _ = some (Value.slice A4 m4 c4) := hx4.trans rfl
  go_wp2_with fail
  clear hx4
  refine (markIntS_any _ s4 K3 (by omega) _ (RowOf.tp HM.out.tp HV4.out) (by omega) (by omega)).mono ?_
  rintro e w4 ⟨rfl, hm⟩
  replace BK := Aside0.mk ((hm.far g (blk_lt BK.out) (fun p hp e => by have h1 := HI4.out p hp; have h2 := GW.out; omega)).trans BK.out)
  replace HM := Aside0.mk (Marked.more HM.out (K := K3) HK.out hm)
  obtain ⟨K4, hK4⟩ : ∃ K_ : Nat, K_ = K3 + s4.length := ⟨_, rfl⟩
  rw [← hK4]
  replace HE := Aside0.mk (show K4 = a + s1.length + s2.length + s3.length + s4.length by have := HE.out; omega)
  replace HK := Aside0.mk (show K4 = a + ([] ++ s1 ++ s2 ++ s3 ++ s4).length by rw [HE.out]; simp only [List.length_append, List.length_nil]; omega)
  have mK4 : 1 ≤ K4 := by omega
  have lK4 : K4 ≤ 9000000 := by omega
  replace hle : K4 + (s5.length) ≤ 9000000 := by omega
  clear hK4 hm
  have hx5 := blk_cell BK.out 5
  replace hx5 : _ = some (Value.slice A5 m5 c5) := hx5.trans rfl
  go_wp2_with fail
  clear hx5
  refine (markInsS_any _ s5 K4 (by omega) _ (RowOf.tp HM.out.tp HV5.out) (by omega) (by omega)).mono ?_
  rintro e w5 ⟨rfl, hm⟩
  replace BK := Aside0.mk ((hm.far g (blk_lt BK.out) (fun p hp e => by have h1 := HI5.out p hp; have h2 := GW.out; omega)).trans BK.out)
  replace HM := Aside0.mk (Marked.more HM.out (K := K4) HK.out hm)
  obtain ⟨K5, hK5⟩ : ∃ K_ : Nat, K_ = K4 + s5.length := ⟨_, rfl⟩
  rw [← hK5]
  replace HE := Aside0.mk (show K5 = a + s1.length + s2.length + s3.length + s4.length + s5.length by have := HE.out; omega)
  replace HK := Aside0.mk (show K5 = a + ([] ++ s1 ++ s2 ++ s3 ++ s4 ++ s5).length by rw [HE.out]; simp only [List.length_append, List.length_nil]; omega)
  have mK5 : 1 ≤ K5 := by omega
  have lK5 : K5 ≤ 9000000 := by omega
  clear hK5 hm
  go_wp2
  go_ret
  refine ⟨by rw [show a + (s1 ++ s2 ++ s3 ++ s4 ++ s5).length = K5 by rw [HE.out]; simp only [List.length_append, Nat.add_assoc]]; rfl, ?_⟩
  exact by have := HM.out; simpa only [List.nil_append] using this
set_option maxHeartbeats 2000000 in
set_option maxRecDepth 100000 in
theorem heldFunc_any (n0 : Int) (v1 : Value) (s1 : List Slot) (v2 : Value) (s2 : List Slot) (v3 : Value) (s3 : List Slot) (v4 : Value) (s4 : List Slot) (v5 : Value) (s5 : List Slot) (a : Nat) {ai : Int} (hai : ai = (a : Int)) (w : World) (hs1 : RowOf (Cel w tyString) 1 v1 s1) (hs2 : RowOf (Cel w tyString) 1 v2 s2) (hs3 : RowOf (Cel w tyString) 1 v3 s3) (hs4 : RowOf (Cel w tyInt) 1 v4 s4) (hs5 : RowOf (Cel w tyIns) 3 v5 s5) (h1 : 1 ≤ a) (hb : a + (s1 ++ s2 ++ s3 ++ s4 ++ s5).length ≤ 9000000) (hh : Held w (s1 ++ s2 ++ s3 ++ s4 ++ s5) a) :
    Calls Try.prog 21 #[.agg #[.int .i64 n0, v1, v2, v3, v4, v5], .int .i64 ai] w fun e w' => e = .returned (.int .i64 ((a + (s1 ++ s2 ++ s3 ++ s4 ++ s5).length : Nat) : Int)) ∧ Below w.heap.size w w' := by
  subst hai
  have hu_ := Try.underlying39
  (try simp only [List.length_append] at hb)
  have hle : a + (s1.length + s2.length + s3.length + s4.length + s5.length) ≤ 9000000 := by omega
  clear hb
  have HI1 := Aside0.mk (fun p hp => RowOf.mem hs1 p hp)
  obtain ⟨A1, m1, c1, e1⟩ := hs1.slice
  subst e1
  have HV1 := Aside0.mk hs1
  clear hs1
  have HI2 := Aside0.mk (fun p hp => RowOf.mem hs2 p hp)
  obtain ⟨A2, m2, c2, e2⟩ := hs2.slice
  subst e2
  have HV2 := Aside0.mk hs2
  clear hs2
  have HI3 := Aside0.mk (fun p hp => RowOf.mem hs3 p hp)
  obtain ⟨A3, m3, c3, e3⟩ := hs3.slice
  subst e3
  have HV3 := Aside0.mk hs3
  clear hs3
  have HI4 := Aside0.mk (fun p hp => RowOf.mem hs4 p hp)
  obtain ⟨A4, m4, c4, e4⟩ := hs4.slice
  subst e4
  have HV4 := Aside0.mk hs4
  clear hs4
  have HI5 := Aside0.mk (fun p hp => RowOf.mem hs5 p hp)
  obtain ⟨A5, m5, c5, e5⟩ := hs5.slice
  subst e5
  have HV5 := Aside0.mk hs5
  clear hs5
  have hq := hh
  have HH5 := Aside0.mk (show Held w s5 (a + s1.length + s2.length + s3.length + s4.length) from by have := hq.right; simpa only [List.length_append, Nat.add_assoc] using this)
  replace hq := hq.left
  have HH4 := Aside0.mk (show Held w s4 (a + s1.length + s2.length + s3.length) from by have := hq.right; simpa only [List.length_append, Nat.add_assoc] using this)
  replace hq := hq.left
  have HH3 := Aside0.mk (show Held w s3 (a + s1.length + s2.length) from by have := hq.right; simpa only [List.length_append, Nat.add_assoc] using this)
  replace hq := hq.left
  have HH2 := Aside0.mk (show Held w s2 (a + s1.length) from by have := hq.right; simpa only [List.length_append, Nat.add_assoc] using this)
  replace hq := hq.left
  have HH1 := Aside0.mk (show Held w s1 (a) from by have := hq; simpa only [List.length_append, Nat.add_assoc] using this)
  clear hq hh
  go_enter Try.func21, Try.ntmps21
  go_wp2_with fail
  obtain ⟨g, hg⟩ : ∃ g, g = w.heap.size := ⟨_, rfl⟩
  obtain ⟨wb, hwb⟩ : ∃ W, W = w.alloc (.cells #[.int .i64 n0, .slice A1 m1 c1, .slice A2 m2 c2, .slice A3 m3 c3, .slice A4 m4 c4, .slice A5 m5 c5] 39) := ⟨_, rfl⟩
  rw [← hwb]
  try rw [← hg]
  have BK := Aside0.mk (show wb.heap[g]? = some (.cells #[.int .i64 n0, .slice A1 m1 c1, .slice A2 m2 c2, .slice A3 m3 c3, .slice A4 m4 c4, .slice A5 m5 c5] 39 (0, 0)) by rw [hwb, hg]; exact heap_alloc_new w _)
  have HB := Aside0.mk (show Below w.heap.size w wb by rw [hwb]; exact below_alloc (Below.refl _ _) _)
  have GW := Aside0.mk (show w.heap.size ≤ g by rw [hg]; exact Nat.le_refl _)
  clear hwb hg
  refine (heldStringS_any _ s1 a (by omega) _ (RowOf.tp (TP.of_below HB.out) HV1.out) (by omega) (by omega) (by have := HH1.out.below HB.out; exact this)).mono ?_
  rintro e w1 ⟨rfl, hb⟩
  replace BK := Aside0.mk (blk_below BK.out hb)
  replace HB := Aside0.mk (below_step HB.out hb)
  obtain ⟨K1, hK1⟩ : ∃ K_ : Nat, K_ = a + s1.length := ⟨_, rfl⟩
  rw [← hK1]
  have HE := Aside0.mk (show K1 = a + s1.length by omega)
  have mK1 : 1 ≤ K1 := by omega
  have lK1 : K1 ≤ 9000000 := by omega
  replace hle : K1 + (s2.length + s3.length + s4.length + s5.length) ≤ 9000000 := by omega
  clear hK1 hb
  have hx2 := blk_cell BK.out 2
  replace hx2 : _ = some (Value.slice A2 m2 c2) := hx2.trans rfl
  go_wp2_with fail
  clear hx2
  refine (heldStringS_any _ s2 K1 (by omega) _ (RowOf.tp (TP.of_below HB.out) HV2.out) (by omega) (by omega) (by have := HH2.out.below HB.out; rw [show K1 = a + s1.length by have := HE.out; omega]; exact this)).mono ?_
  rintro e w2 ⟨rfl, hb⟩
  replace BK := Aside0.mk (blk_below BK.out hb)
  replace HB := Aside0.mk (below_step HB.out hb)
  obtain ⟨K2, hK2⟩ : ∃ K_ : Nat, K_ = K1 + s2.length := ⟨_, rfl⟩
  rw [← hK2]
  replace HE := Aside0.mk (show K2 = a + s1.length + s2.length by have := HE.out; omega)
  have mK2 : 1 ≤ K2 := by omega
  have lK2 : K2 ≤ 9000000 := by omega
  replace hle : K2 + (s3.length + s4.length + s5.length) ≤ 9000000 := by omega
  clear hK2 hb
  have hx3 := blk_cell BK.out 3
  replace hx3 : _ = some (Value.slice A3 m3 c3) := hx3.trans rfl
  go_wp2_with fail
  clear hx3
  refine (heldStringS_any _ s3 K2 (by omega) _ (RowOf.tp (TP.of_below HB.out) HV3.out) (by omega) (by omega) (by have := HH3.out.below HB.out; rw [show K2 = a + s1.length + s2.length by have := HE.out; omega]; exact this)).mono ?_
  rintro e w3 ⟨rfl, hb⟩
  replace BK := Aside0.mk (blk_below BK.out hb)
  replace HB := Aside0.mk (below_step HB.out hb)
  obtain ⟨K3, hK3⟩ : ∃ K_ : Nat, K_ = K2 + s3.length := ⟨_, rfl⟩
  rw [← hK3]
  replace HE := Aside0.mk (show K3 = a + s1.length + s2.length + s3.length by have := HE.out; omega)
  have mK3 : 1 ≤ K3 := by omega
  have lK3 : K3 ≤ 9000000 := by omega
  replace hle : K3 + (s4.length + s5.length) ≤ 9000000 := by omega
  clear hK3 hb
  have hx4 := blk_cell BK.out 4
  replace hx4 : _ = some (Value.slice A4 m4 c4) := hx4.trans rfl
  go_wp2_with fail
  clear hx4
  refine (heldIntS_any _ s4 K3 (by omega) _ (RowOf.tp (TP.of_below HB.out) HV4.out) (by omega) (by omega) (by have := HH4.out.below HB.out; rw [show K3 = a + s1.length + s2.length + s3.length by have := HE.out; omega]; exact this)).mono ?_
  rintro e w4 ⟨rfl, hb⟩
  replace BK := Aside0.mk (blk_below BK.out hb)
  replace HB := Aside0.mk (below_step HB.out hb)
  obtain ⟨K4, hK4⟩ : ∃ K_ : Nat, K_ = K3 + s4.length := ⟨_, rfl⟩
  rw [← hK4]
  replace HE := Aside0.mk (show K4 = a + s1.length + s2.length + s3.length + s4.length by have := HE.out; omega)
  have mK4 : 1 ≤ K4 := by omega
  have lK4 : K4 ≤ 9000000 := by omega
  replace hle : K4 + (s5.length) ≤ 9000000 := by omega
  clear hK4 hb
  have hx5 := blk_cell BK.out 5
  replace hx5 : _ = some (Value.slice A5 m5 c5) := hx5.trans rfl
  go_wp2_with fail
  clear hx5
  refine (heldInsS_any _ s5 K4 (by omega) _ (RowOf.tp (TP.of_below HB.out) HV5.out) (by omega) (by omega) (by have := HH5.out.below HB.out; rw [show K4 = a + s1.length + s2.length + s3.length + s4.length by have := HE.out; omega]; exact this)).mono ?_
  rintro e w5 ⟨rfl, hb⟩
  replace BK := Aside0.mk (blk_below BK.out hb)
  replace HB := Aside0.mk (below_step HB.out hb)
  obtain ⟨K5, hK5⟩ : ∃ K_ : Nat, K_ = K4 + s5.length := ⟨_, rfl⟩
  rw [← hK5]
  replace HE := Aside0.mk (show K5 = a + s1.length + s2.length + s3.length + s4.length + s5.length by have := HE.out; omega)
  have mK5 : 1 ≤ K5 := by omega
  have lK5 : K5 ≤ 9000000 := by omega
  clear hK5 hb
  go_wp2
  go_ret
  refine ⟨by rw [show a + (s1 ++ s2 ++ s3 ++ s4 ++ s5).length = K5 by rw [HE.out]; simp only [List.length_append, Nat.add_assoc]]; rfl, ?_⟩
  exact HB.out
abbrev S39 := OFnExactShelfFunc.S39
abbrev k83 := OFnExactShelfFunc.k83
abbrev kRowsF := pr (sl 9 Kd.string) (pr (sl 9 Kd.string) (pr (sl 9 Kd.string) (pr (sl 3 (Kd.int .i64)) (sl 83 k83))))
/-- A function's rows, the call's own, apart from each other. -/
def FuncOwn (w : World) (base : Nat) (F : S39) (cs : List Value) : Prop := kRowsF.M w base (fun k => base ≤ k) (F.f1, F.f2, F.f3, F.f4, F.f5) cs
theorem FuncOwn.mk {w : World} {base b1 b2 b3 b4 b5 : Nat} {A1 A2 A3 A4 A5 : Option Addr} {c1 c2 c3 c4 c5 : Nat} (F : S39) (hb5 : base ≤ b5) (h51 : b5 ≤ b1) (h12 : b1 ≤ b2) (h23 : b2 ≤ b3) (h34 : b3 ≤ b4)
    (h1 : Kd.S Kd.string 9 w base (fun k => b1 ≤ k ∧ k < b2) (.slice A1 F.f1.length c1) F.f1) (h2 : Kd.S Kd.string 9 w base (fun k => b2 ≤ k ∧ k < b3) (.slice A2 F.f2.length c2) F.f2) (h3 : Kd.S Kd.string 9 w base (fun k => b3 ≤ k ∧ k < b4) (.slice A3 F.f3.length c3) F.f3)
    (h4 : Kd.S (Kd.int .i64) 3 w base (fun k => b4 ≤ k) (.slice A4 F.f4.length c4) F.f4) (h5 : Kd.S k83 83 w base (fun k => b5 ≤ k ∧ k < b1) (.slice A5 F.f5.length c5) F.f5) :
    FuncOwn w base F [.slice A1 F.f1.length F.f1.length, .slice A2 F.f2.length F.f2.length, .slice A3 F.f3.length F.f3.length, .slice A4 F.f4.length F.f4.length, .slice A5 F.f5.length F.f5.length] := by
  refine ⟨[_], [_, _, _, _], rfl, fun k => b1 ≤ k ∧ k < b2, ⟨.slice A1 F.f1.length c1, F.f1.length, rfl, Nat.le_refl _, Kd.S_mono h1 (fun k hk => ⟨by omega, hk⟩)⟩, ?_⟩
  refine ⟨[_], [_, _, _], rfl, fun k => b2 ≤ k ∧ k < b3, ⟨.slice A2 F.f2.length c2, F.f2.length, rfl, Nat.le_refl _, Kd.S_mono h2 (fun k hk => ⟨⟨by omega, by omega⟩, hk⟩)⟩, ?_⟩
  refine ⟨[_], [_, _], rfl, fun k => b3 ≤ k ∧ k < b4, ⟨.slice A3 F.f3.length c3, F.f3.length, rfl, Nat.le_refl _, Kd.S_mono h3 (fun k hk => ⟨⟨⟨by omega, by omega⟩, by omega⟩, hk⟩)⟩, ?_⟩
  exact ⟨[_], [_], rfl, fun k => b4 ≤ k, ⟨.slice A4 F.f4.length c4, F.f4.length, rfl, Nat.le_refl _, Kd.S_mono h4 (fun k hk => ⟨⟨⟨⟨by omega, by omega⟩, by omega⟩, by omega⟩, hk⟩)⟩, ⟨.slice A5 F.f5.length c5, F.f5.length, rfl, Nat.le_refl _, Kd.S_mono h5 (fun k hk => ⟨⟨⟨⟨by omega, by omega⟩, by omega⟩, by omega⟩, by omega⟩)⟩⟩
set_option maxHeartbeats 1000000 in
set_option maxRecDepth 100000 in
theorem copyFunc_own (F : S39) (A1 A2 A3 A4 A5 : Option Addr) (c1 c2 c3 c4 c5 : Nat) (w : World) (h1 : Kd.C Kd.string w A1 F.f1.length F.f1) (hc1 : F.f1.length ≤ c1) (h2 : Kd.C Kd.string w A2 F.f2.length F.f2) (hc2 : F.f2.length ≤ c2) (h3 : Kd.C Kd.string w A3 F.f3.length F.f3) (hc3 : F.f3.length ≤ c3)
    (h4 : Kd.C (Kd.int .i64) w A4 F.f4.length F.f4) (hc4 : F.f4.length ≤ c4) (h5 : Kd.C k83 w A5 F.f5.length F.f5) (hc5 : F.f5.length ≤ c5) (hl : F.f1.length < 4398046511104 ∧ F.f2.length < 4398046511104 ∧ F.f3.length < 4398046511104 ∧ F.f4.length < 4398046511104 ∧ F.f5.length < 2199023255552) :
    Calls Try.prog 37 #[.agg #[.int .i64 F.f0, .slice A1 F.f1.length c1, .slice A2 F.f2.length c2, .slice A3 F.f3.length c3, .slice A4 F.f4.length c4, .slice A5 F.f5.length c5]] w fun e w' => ∃ B1 B2 B3 B4 B5, e = .returned (.agg #[.int .i64 F.f0, .slice B1 F.f1.length F.f1.length, .slice B2 F.f2.length F.f2.length, .slice B3 F.f3.length F.f3.length, .slice B4 F.f4.length F.f4.length, .slice B5 F.f5.length F.f5.length]) ∧
      FuncOwn w' w.heap.size F [.slice B1 F.f1.length F.f1.length, .slice B2 F.f2.length F.f2.length, .slice B3 F.f3.length F.f3.length, .slice B4 F.f4.length F.f4.length, .slice B5 F.f5.length F.f5.length] ∧ Below w.heap.size w w' := by
  have hu_ := Try.underlying39
  have H1 := Aside0.mk h1
  have H2 := Aside0.mk h2
  have H3 := Aside0.mk h3
  have H4 := Aside0.mk h4
  have H5 := Aside0.mk h5
  have HL := Aside0.mk hl
  clear h1 h2 h3 h4 h5 hl
  go_enter Try.func37, Try.ntmps37
  have HB := Aside0.mk (Below.refl w.heap.size w)
  go_wp2_with (first
    | ((with_reducible refine gate_dst (N := 1) rfl ?_); refine Up.bx 1 39 #[.int .i64 F.f0, .slice A1 F.f1.length c1, .slice A2 F.f2.length c2, .slice A3 F.f3.length c3, .slice A4 F.f4.length c4, .slice A5 F.f5.length c5] ?_; intro g1 hg w1 hbox hb; have BK1 := Aside0.mk hbox; have G1 := Aside0.mk (show w.heap.size ≤ g1 by rw [hg]; exact HB.out.size); replace HB := Aside0.mk (below_step HB.out hb); clear hg hbox hb)
    | ((with_reducible refine gate_dst (N := 2) rfl ?_); refine Up.bx 2 39 #[.int .i64 0, .slice none 0 0, .slice none 0 0, .slice none 0 0, .slice none 0 0, .slice none 0 0] ?_; intro g2 hg w2 hbox hb; have G2 := Aside0.mk (show g1 < g2 by rw [hg]; exact blk_lt BK1.out); replace BK1 := Aside0.mk (blk_below BK1.out hb); have BK2 := Aside0.mk hbox; replace HB := Aside0.mk (below_step HB.out hb); clear hg hbox hb)
    | ((with_reducible refine gate_dst (N := 4) rfl ?_); have N1 := Aside0.mk (blk_lt BK1.out); have N2 := Aside0.mk (blk_lt BK2.out); refine Kd.R_lit k83 _ 83 ?hg (N := 4) ?hd (xs := ([] : List OFnExactShelfFunc.S83)) (inner := []) (ok := fun _ => True) (okp := fun _ => True) ?hr ?hp (fun _ hk => hk) trivial (Below.refl _ _) (Nat.le_refl _) (by simp) ?_; (case hd => rfl); (case hg => rfl); (case hr => first | (go_simp; done) | (go_simp; rfl)); (case hp => exact (Reps.none _ _)); intro v3 w4 ho hb hg_ hnew_; clear hg_ hnew_; have HO := Aside0.mk ho; replace BK1 := Aside0.mk (blk_below BK1.out hb); replace BK2 := Aside0.mk (blk_below BK2.out hb); have HB2 := Aside0.mk hb; clear hb ho; have hx5 := (blk_cell BK1.out 5).trans rfl)
    | ((with_reducible refine gate_builtin (b := .append) (xs := #[.tmp 4, .tmp 6]) rfl ?_); clear hx5; at_builtin; refine Kd.R_append_rows k83 (w0 := w2) w2.heap.size rfl (.tmp 4) (.tmp 6) 37 83 (.agg #[.string ⟨#[]⟩, .int .i64 0, .int .i64 0]) 32 rfl Try.underlying37 OFnExactShelfFunc.info83 rfl (by decide) (by omega) v3 ([] : List OFnExactShelfFunc.S83) F.f5 _ _ _ (fun k => w2.heap.size ≤ k) (fun _ => False) rfl rfl ?aO ?aR (fun _ _ h => h) (fun _ h => h.elim) ?aF ?aB ?aS ?aL ?_
       ; (case aR => exact Kd.C_below H5.out (below_step HB.out HB2.out)); (case aB => exact HB2.out); (case aF => exact (fun k hk => Nat.le_trans HB2.out.size hk)); (case aO => exact Kd.R_mono (Kd.R_bound HO.out) (fun _ hk => hk.2.1)); (case aS => exact HB2.out.size); (case aL => (have := HL.out.2.2.2.2; simp; omega)); intro v5 w6 ho hb hgr hat; replace BK1 := Aside0.mk (blk_grown BK1.out hgr (fun e => by have h1 := Kd.R_base HO.out _ e.symm; have h2 := N1.out; omega)); replace BK2 := Aside0.mk (blk_grown BK2.out hgr (fun e => by have h1 := Kd.R_base HO.out _ e.symm; have h2 := N2.out; omega)); replace HB2 := Aside0.mk hb; replace HO := Aside0.mk ho; clear ho hb hgr hat; obtain ⟨A6, c6, e6⟩ := Kd.R_slice HO.out; rw [List.nil_append] at e6 HO; subst e6)
    | (go_at_call 57; refine (clip_ins A6 F.f5.length c6 _ (Kd.R_reads' HO.out).2.1 (by have := HL.out; omega)).mono ?_; rintro e w7 ⟨rfl, hb⟩; replace BK1 := Aside0.mk (blk_below BK1.out hb); replace BK2 := Aside0.mk (blk_below BK2.out hb); replace HO := Aside0.mk (Kd.R_below HO.out hb); replace HB2 := Aside0.mk (below_step HB2.out hb); clear hb))
  have B5 := Aside0.mk HB.out.size
  have L5 := Aside0.mk HB2.out.size
  replace HB := Aside0.mk (below_step HB.out HB2.out)
  have HS5 := Aside0.mk (Kd.S_mono (ok' := fun k => w2.heap.size ≤ k ∧ k < w7.heap.size) (Kd.S_bound (S_flat rfl HO.out)) (fun k hk => ⟨hk.1, hk.2.2.1⟩))
  have NG := Aside0.mk (show g1 ≠ g2 from Nat.ne_of_lt G2.out)
  have GW := Aside0.mk (show w.heap.size ≤ g2 from Nat.le_trans G1.out (Nat.le_of_lt G2.out))
  clear HO HB2 G2 N1
  replace HS5 := Aside0.mk (Kd.S_drew HS5.out)
  replace BK1 := Aside0.mk (blk_drew BK1.out)
  replace BK2 := Aside0.mk (blk_drew BK2.out)
  replace HB := Aside0.mk (below_drew1 HB.out)
  replace L5 := Aside0.mk (show w2.heap.size ≤ w7.drew.heap.size from L5.out)
  replace HS5 := Aside0.mk (show Kd.S k83 83 w7.drew w2.heap.size (fun k => w2.heap.size ≤ k ∧ k < w7.drew.heap.size) (.slice A6 F.f5.length c6) F.f5 from HS5.out)
  refine start_ (n := 17) (S := fun w' => w'.cell? ⟨g1, 0, none⟩ = some (.int .i64 F.f0) ∧ w'.cell? ⟨g1, 1, none⟩ = some (.slice A1 F.f1.length c1) ∧ w'.cell? ⟨g1, 2, none⟩ = some (.slice A2 F.f2.length c2) ∧ w'.cell? ⟨g1, 3, none⟩ = some (.slice A3 F.f3.length c3) ∧ w'.cell? ⟨g1, 4, none⟩ = some (.slice A4 F.f4.length c4) ∧ w'.cell? ⟨g1, 5, none⟩ = some (.slice A5 F.f5.length c5)) (ds := []) #[false,false,false,false,false,false,false,false,false,false,false,false,false,false,false,false,false] (by kernel_rfl) rfl rfl ⟨Up.c0 BK1, Up.c1 BK1, Up.c2 BK1, Up.c3 BK1, Up.c4 BK1, Up.c5 BK1⟩ (fun hHeld => ?_)
  refine with_tabW OFnExactShelfFunc.impl_copyFunc.tab2 OFnExactShelfFunc.impl_copyFunc.bits2 (fun HT_ HW_ => ?_)
  generalize w7.drew = w8 at HS5 BK1 BK2 HB L5 hHeld ⊢
  refine Up.pu 0 (some 9) HT_ ?_
  refine Up.pu 2 (some 11) HT_ ?_
  refine Up.pu 5 (some 14) HT_ ?_
  refine Up.pu 8 (some 17) HT_ ?_
  refine Up.pu 11 (some 20) HT_ ?_
  refine Up.pu 14 (some 23) HT_ ?_
  refine Up.tk 1 (some 10) HT_ HW_ hHeld ?_ (hy := by rintro w' ⟨s0, s1, s2, s3, s4, s5⟩; go_simp; with_reducible rfl)
  refine Up.tk 3 (some 12) HT_ HW_ hHeld ?_ (hy := by rintro w' ⟨s0, s1, s2, s3, s4, s5⟩; go_simp; with_reducible rfl)
  refine Up.tk 6 (some 15) HT_ HW_ hHeld ?_ (hy := by rintro w' ⟨s0, s1, s2, s3, s4, s5⟩; go_simp; with_reducible rfl)
  refine Up.tk 9 (some 18) HT_ HW_ hHeld ?_ (hy := by rintro w' ⟨s0, s1, s2, s3, s4, s5⟩; go_simp; with_reducible rfl)
  refine Up.tk 12 (some 21) HT_ HW_ hHeld ?_ (hy := by rintro w' ⟨s0, s1, s2, s3, s4, s5⟩; go_simp; with_reducible rfl)
  refine Up.on 4 (some 13) HT_ (fun K hK => ?_)
  refine Up.go Try.func54 #[.slice A1 F.f1.length c1] ?_
  with_reducible refine (copyTexts_own A1 c1 F.f1 _ (Kd.C_below H1.out HB.out) hc1 HL.out.1).mono ?_
  rintro e z1 ⟨B1, d1, rfl, hs, hb⟩
  refine ⟨_, rfl, ?_⟩
  have HS1 := Aside0.mk (Kd.S_mono (ok' := fun k => w8.heap.size ≤ k ∧ k < z1.heap.size) (Kd.S_bound hs) (fun k hk => ⟨hk.1, hk.2.2.1⟩))
  have L1 := Aside0.mk hb.size
  replace HS5 := Aside0.mk (Kd.S_below HS5.out hb)
  replace BK1 := Aside0.mk (blk_below BK1.out hb)
  replace BK2 := Aside0.mk (blk_below BK2.out hb)
  have V1 := Aside0.mk HB.out.size
  replace HB := Aside0.mk (below_step HB.out hb)
  clear hs hb
  refine hK.out _ _ ⟨Up.c0 BK1, Up.c1 BK1, Up.c2 BK1, Up.c3 BK1, Up.c4 BK1, Up.c5 BK1⟩ (fun hHeld => ?_)
  clear hK K
  refine Up.nm 13 ?_
  refine Up.on 7 (some 16) HT_ (fun K hK => ?_)
  refine Up.go Try.func54 #[.slice A2 F.f2.length c2] ?_
  with_reducible refine (copyTexts_own A2 c2 F.f2 _ (Kd.C_below H2.out HB.out) hc2 HL.out.2.1).mono ?_
  rintro e z2 ⟨B2, d2, rfl, hs, hb⟩
  refine ⟨_, rfl, ?_⟩
  have HS2 := Aside0.mk (Kd.S_mono (ok' := fun k => z1.heap.size ≤ k ∧ k < z2.heap.size) (Kd.S_bound hs) (fun k hk => ⟨hk.1, hk.2.2.1⟩))
  have L2 := Aside0.mk hb.size
  replace HS5 := Aside0.mk (Kd.S_below HS5.out hb)
  replace HS1 := Aside0.mk (Kd.S_below HS1.out hb)
  replace BK1 := Aside0.mk (blk_below BK1.out hb)
  replace BK2 := Aside0.mk (blk_below BK2.out hb)
  have V2 := Aside0.mk HB.out.size
  replace HB := Aside0.mk (below_step HB.out hb)
  clear hs hb
  refine hK.out _ _ ⟨Up.c0 BK1, Up.c1 BK1, Up.c2 BK1, Up.c3 BK1, Up.c4 BK1, Up.c5 BK1⟩ (fun hHeld => ?_)
  clear hK K
  refine Up.nm 16 ?_
  refine Up.on 10 (some 19) HT_ (fun K hK => ?_)
  refine Up.go Try.func54 #[.slice A3 F.f3.length c3] ?_
  with_reducible refine (copyTexts_own A3 c3 F.f3 _ (Kd.C_below H3.out HB.out) hc3 HL.out.2.2.1).mono ?_
  rintro e z3 ⟨B3, d3, rfl, hs, hb⟩
  refine ⟨_, rfl, ?_⟩
  have HS3 := Aside0.mk (Kd.S_mono (ok' := fun k => z2.heap.size ≤ k ∧ k < z3.heap.size) (Kd.S_bound hs) (fun k hk => ⟨hk.1, hk.2.2.1⟩))
  have L3 := Aside0.mk hb.size
  replace HS5 := Aside0.mk (Kd.S_below HS5.out hb)
  replace HS1 := Aside0.mk (Kd.S_below HS1.out hb)
  replace HS2 := Aside0.mk (Kd.S_below HS2.out hb)
  replace BK1 := Aside0.mk (blk_below BK1.out hb)
  replace BK2 := Aside0.mk (blk_below BK2.out hb)
  have V3 := Aside0.mk HB.out.size
  replace HB := Aside0.mk (below_step HB.out hb)
  clear hs hb
  refine hK.out _ _ ⟨Up.c0 BK1, Up.c1 BK1, Up.c2 BK1, Up.c3 BK1, Up.c4 BK1, Up.c5 BK1⟩ (fun hHeld => ?_)
  clear hK K
  refine Up.nm 19 ?_
  refine Up.on 13 (some 22) HT_ (fun K hK => ?_)
  refine Up.go Try.func58 #[.slice A4 F.f4.length c4] ?_
  with_reducible refine (copyInts_own A4 c4 F.f4 _ (Kd.C_below H4.out HB.out) hc4 HL.out.2.2.2.1).mono ?_
  rintro e z4 ⟨B4, d4, rfl, hs, hb⟩
  refine ⟨_, rfl, ?_⟩
  have HS4 := Aside0.mk (Kd.S_mono (ok' := fun k => z3.heap.size ≤ k ∧ k < z4.heap.size) (Kd.S_bound hs) (fun k hk => ⟨hk.1, hk.2.2.1⟩))
  have L4 := Aside0.mk hb.size
  replace HS5 := Aside0.mk (Kd.S_below HS5.out hb)
  replace HS1 := Aside0.mk (Kd.S_below HS1.out hb)
  replace HS2 := Aside0.mk (Kd.S_below HS2.out hb)
  replace HS3 := Aside0.mk (Kd.S_below HS3.out hb)
  replace BK1 := Aside0.mk (blk_below BK1.out hb)
  replace BK2 := Aside0.mk (blk_below BK2.out hb)
  have V4 := Aside0.mk HB.out.size
  replace HB := Aside0.mk (below_step HB.out hb)
  clear hs hb
  refine hK.out _ _ ⟨Up.c0 BK1, Up.c1 BK1, Up.c2 BK1, Up.c3 BK1, Up.c4 BK1, Up.c5 BK1⟩ (fun hHeld => ?_)
  clear hK K
  refine Up.nm 22 ?_
  refine Up.pu 15 (some 24) HT_ ?_
  refine Up.on 16 (none) HT_ (fun K hK => ?_)
  have hs0 := Up.c0 BK2
  have hf0 := blk_frozen BK2.out 0
  have hs1 := Up.c1 BK2
  have hf1 := blk_frozen BK2.out 1
  have hs2 := Up.c2 BK2
  have hf2 := blk_frozen BK2.out 2
  have hs3 := Up.c3 BK2
  have hf3 := blk_frozen BK2.out 3
  have hs4 := Up.c4 BK2
  have hf4 := blk_frozen BK2.out 4
  have hs5 := Up.c5 BK2
  have hf5 := blk_frozen BK2.out 5
  refine skip_ (w1 := ?_) (by rfl) rfl ?_ ?_
  rotate_left
  · go_simp
    rfl
  have hcell : ∀ (W : World) (j : Nat) (u0 u1 u2 u3 u4 u5 : Value), ((((((W.setCell ⟨g2, 0, none⟩ u0).setCell ⟨g2, 1, none⟩ u1).setCell ⟨g2, 2, none⟩ u2).setCell ⟨g2, 3, none⟩ u3).setCell ⟨g2, 4, none⟩ u4).setCell ⟨g2, 5, none⟩ u5).cell? ⟨g1, j, none⟩ = W.cell? ⟨g1, j, none⟩ := fun W j u0 u1 u2 u3 u4 u5 => by
    have hn : ∀ i, (⟨g2, i, none⟩ : Addr) ≠ ⟨g1, j, none⟩ := fun i e => NG.out (by injection e with e1 _; exact e1.symm)
    rw [World.cell?_setCell_other _ _ _ _ (hn 5), World.cell?_setCell_other _ _ _ _ (hn 4), World.cell?_setCell_other _ _ _ _ (hn 3), World.cell?_setCell_other _ _ _ _ (hn 2), World.cell?_setCell_other _ _ _ _ (hn 1), World.cell?_setCell_other _ _ _ _ (hn 0)]
  refine hK.out _ _ ⟨(hcell _ 0 _ _ _ _ _ _).trans hHeld.1, (hcell _ 1 _ _ _ _ _ _).trans hHeld.2.1, (hcell _ 2 _ _ _ _ _ _).trans hHeld.2.2.1, (hcell _ 3 _ _ _ _ _ _).trans hHeld.2.2.2.1, (hcell _ 4 _ _ _ _ _ _).trans hHeld.2.2.2.2.1, (hcell _ 5 _ _ _ _ _ _).trans hHeld.2.2.2.2.2⟩ (fun hHeld => ?_)
  clear hcell
  clear hK K
  refine done_ (done_of HT_.out (by kernel_rfl)) ?_
  try go_wp2
  refine bodyPost_ret (results_cell_row rfl _ _ g2 39 #[.int .i64 F.f0, .slice B1 F.f1.length F.f1.length, .slice B2 F.f2.length F.f2.length, .slice B3 F.f3.length F.f3.length, .slice B4 F.f4.length F.f4.length, .slice A6 F.f5.length F.f5.length] (0, 0) _ rfl (Up.Kx BK2) Try.underlying39 rfl (by kernel_rfl)) rfl ?_
  have hfar : ∀ (W : World) (k : Nat) (u0 u1 u2 u3 u4 u5 : Value), k ≠ g2 → ((((((W.setCell ⟨g2, 0, none⟩ u0).setCell ⟨g2, 1, none⟩ u1).setCell ⟨g2, 2, none⟩ u2).setCell ⟨g2, 3, none⟩ u3).setCell ⟨g2, 4, none⟩ u4).setCell ⟨g2, 5, none⟩ u5).heap[k]? = W.heap[k]? := fun W k u0 u1 u2 u3 u4 u5 h => by rw [Below.heap_setCell _ _ _ k h, Below.heap_setCell _ _ _ k h, Below.heap_setCell _ _ _ k h, Below.heap_setCell _ _ _ k h, Below.heap_setCell _ _ _ k h, Below.heap_setCell _ _ _ k h]
  have n1 := L1.out
  have n2 := L2.out
  have n3 := L3.out
  have n4 := L4.out
  have n5 := L5.out
  have n0 := B5.out
  have ng := N2.out
  have nw := G1.out
  refine ⟨B1, B2, B3, B4, A6, rfl, FuncOwn.mk (b1 := w8.heap.size) (b2 := z1.heap.size) (b3 := z2.heap.size) (b4 := z3.heap.size) (b5 := w2.heap.size) (c1 := d1) (c2 := d2) (c3 := d3) (c4 := d4) (c5 := c6) F n0 n5 n1 n2 n3 ?_ ?_ ?_ ?_ ?_, ?_⟩
  · exact Kd.S_step (Kd.S_mono (Kd.S_lower HS1.out (by omega)) (fun k hk => hk)) (fun k hk _ => hfar _ k _ _ _ _ _ _ (by omega))
  · exact Kd.S_step (Kd.S_mono (Kd.S_lower HS2.out (by omega)) (fun k hk => hk)) (fun k hk _ => hfar _ k _ _ _ _ _ _ (by omega))
  · exact Kd.S_step (Kd.S_mono (Kd.S_lower HS3.out (by omega)) (fun k hk => hk)) (fun k hk _ => hfar _ k _ _ _ _ _ _ (by omega))
  · exact Kd.S_step (Kd.S_mono (Kd.S_lower HS4.out (by omega)) (fun k hk => hk.1)) (fun k hk _ => hfar _ k _ _ _ _ _ _ (by omega))
  · exact Kd.S_step (Kd.S_mono (Kd.S_lower HS5.out (by omega)) (fun k hk => hk)) (fun k hk _ => hfar _ k _ _ _ _ _ _ (by omega))
  · have h := GW.out
    exact (((((HB.out.setCell h _).setCell h _).setCell h _).setCell h _).setCell h _).setCell h _
abbrev S55 := OFnExactShelfFunc.S55
abbrev k55 := OFnExactShelfFunc.k55
def lensF (F : S39) : Prop := F.f1.length < 4398046511104 ∧ F.f2.length < 4398046511104 ∧ F.f3.length < 4398046511104 ∧ F.f4.length < 4398046511104 ∧ F.f5.length < 2199023255552
/-- The function that is asked for is there, and is F. -/
def isF (l0 : List S55) (a1 a2 : Int) (F : S39) : Prop := 0 ≤ a1 ∧ a1 < (l0.length : Int) ∧ 0 ≤ a2 ∧ a2 < ((OFnExactShelfFunc.rd_T55 l0 a1).f1.length : Int) ∧ F = OFnExactShelfFunc.rd_T39 (OFnExactShelfFunc.rd_T55 l0 a1).f1 a2
/-- It is not there. -/
def noF (l0 : List S55) (a1 a2 : Int) : Prop := a1 < 0 ∨ (l0.length : Int) ≤ a1 ∨ (0 ≤ a1 ∧ a1 < (l0.length : Int) ∧ a2 < 0) ∨ (0 ≤ a1 ∧ a1 < (l0.length : Int) ∧ 0 ≤ a2 ∧ ((OFnExactShelfFunc.rd_T55 l0 a1).f1.length : Int) ≤ a2)
theorem FuncOwn.zero (w : World) (base : Nat) : FuncOwn w base OFnExactShelfFunc.z39 [.slice none 0 0, .slice none 0 0, .slice none 0 0, .slice none 0 0, .slice none 0 0] :=
  FuncOwn.mk (A1 := none) (A2 := none) (A3 := none) (A4 := none) (A5 := none) (c1 := 0) (c2 := 0) (c3 := 0) (c4 := 0) (c5 := 0) (b1 := base) (b2 := base) (b3 := base) (b4 := base) (b5 := base) OFnExactShelfFunc.z39 (Nat.le_refl _) (Nat.le_refl _) (Nat.le_refl _) (Nat.le_refl _) (Nat.le_refl _) (Kd.S_nil _ _ _ _ _) (Kd.S_nil _ _ _ _ _) (Kd.S_nil _ _ _ _ _) (Kd.S_nil _ _ _ _ _) (Kd.S_nil _ _ _ _ _)
theorem FuncOwn.step {w w1 : World} {base : Nat} {F : S39} {cs : List Value} (h : FuncOwn w base F cs) (hm : ∀ k, base ≤ k → k < w.heap.size → w1.heap[k]? = w.heap[k]?) : FuncOwn w1 base F cs := Kd.M_step (d := kRowsF) h hm
theorem FuncOwn.lower {w : World} {base b' : Nat} {F : S39} {cs : List Value} (h : FuncOwn w base F cs) (hb : b' ≤ base) : FuncOwn w b' F cs := kRowsF.M_mono (fun k hk => Nat.le_trans hb hk) (kRowsF.M_lower hb h)
set_option maxHeartbeats 4000000 in
set_option maxRecDepth 100000 in
theorem shelfFunc_yes (A0 : Option Addr) (c0 : Nat) (l0 : List S55) (a1 a2 : Int) (F : S39) (w : World) (hr0 : Kd.C k55 w A0 l0.length l0) (hc0 : l0.length ≤ c0) (hF : isF l0 a1 a2 F) (hl : lensF F) :
    Calls Try.prog 18 #[.slice A0 l0.length c0, .int .i64 a1, .int .i64 a2] w fun e w' => ∃ B1 B2 B3 B4 B5, e = .returned (.tuple #[.agg #[.int .i64 F.f0, .slice B1 F.f1.length F.f1.length, .slice B2 F.f2.length F.f2.length, .slice B3 F.f3.length F.f3.length, .slice B4 F.f4.length F.f4.length, .slice B5 F.f5.length F.f5.length], .bool true]) ∧
      FuncOwn w' w.heap.size F [.slice B1 F.f1.length F.f1.length, .slice B2 F.f2.length F.f2.length, .slice B3 F.f3.length F.f3.length, .slice B4 F.f4.length F.f4.length, .slice B5 F.f5.length F.f5.length] ∧ Below w.heap.size w w' := by
  have hu_ := Try.underlying39
  obtain ⟨g0, g1, g2, g3, hFe⟩ := hF
  obtain ⟨ad, X0, y0, X1, y1, X2, y2, ea, hx0, hx1, hx2, _, _, hl1, hi1, _, _⟩ := OFnExactShelfFunc.at_T55 hr0 a1 g0 g1
  obtain ⟨ad2, A1, c1, A2, c2, A3, c3, A4, c4, A5, c5, eb, hy0, hy1, hy2, hy3, hy4, hy5, m1, n1, m2, n2, m3, n3, m4, n4, m5, n5⟩ := OFnExactShelfFunc.at_T39 hi1 a2 g2 g3
  rw [← hFe] at hy0 hy1 hy2 hy3 hy4 hy5 m1 n1 m2 n2 m3 n3 m4 n4 m5 n5
  subst ea
  subst eb
  generalize (OFnExactShelfFunc.rd_T55 l0 a1).f1.length = fl at g3 hx1
  have HC := Aside0.mk (And.intro n1 (And.intro n2 (And.intro n3 (And.intro n4 n5))))
  have HL := Aside0.mk hl
  have d1 : decide (a1 < 0) = false := decide_eq_false (by omega)
  have d2 : decide ((l0.length : Int) ≤ a1) = false := decide_eq_false (by omega)
  have d3 : decide (a2 < 0) = false := decide_eq_false (by omega)
  have d4 : decide ((fl : Int) ≤ a2) = false := decide_eq_false (by omega)
  have d5 : (0 ≤ a1) = True := eq_true g0
  have d6 : (a1 < (l0.length : Int)) = True := eq_true g1
  have d7 : (0 ≤ a2) = True := eq_true g2
  have d8 : (a2 < (fl : Int)) = True := eq_true g3
  have HB := Aside0.mk (Below.refl w.heap.size w)
  clear hx0 hx2 hr0 hi1 hFe hl n1 n2 n3 n4 n5
  go_enter Try.func18, Try.ntmps18
  go_wp2_with (first
    | ((with_reducible refine gate_dst (N := 6) rfl ?_); (try (refine gate_guard (by rfl) ?_; dsimp only)); refine Up.bx 6 39 #[.int .i64 0, .slice none 0 0, .slice none 0 0, .slice none 0 0, .slice none 0 0, .slice none 0 0] ?_; intro g hg w1 hbox hb; have BK := Aside0.mk hbox; have GW := Aside0.mk (show w.heap.size ≤ g by rw [hg]; exact HB.out.size)
       replace hx1 := (hb.cell (World.block_lt_of_cell? w _ hx1)).trans hx1; replace hy0 := (hb.cell (World.block_lt_of_cell? w _ hy0)).trans hy0; replace hy1 := (hb.cell (World.block_lt_of_cell? w _ hy1)).trans hy1; replace hy2 := (hb.cell (World.block_lt_of_cell? w _ hy2)).trans hy2; replace hy3 := (hb.cell (World.block_lt_of_cell? w _ hy3)).trans hy3; replace hy4 := (hb.cell (World.block_lt_of_cell? w _ hy4)).trans hy4; replace hy5 := (hb.cell (World.block_lt_of_cell? w _ hy5)).trans hy5
       replace HB := Aside0.mk (below_step HB.out hb); clear hg hbox hb)
    | (go_at_call 37; fail))
  refine (copyFunc_own F A1 A2 A3 A4 A5 c1 c2 c3 c4 c5 _ (Kd.C_below HC.out.1 HB.out) m1 (Kd.C_below HC.out.2.1 HB.out) m2 (Kd.C_below HC.out.2.2.1 HB.out) m3 (Kd.C_below HC.out.2.2.2.1 HB.out) m4 (Kd.C_below HC.out.2.2.2.2 HB.out) m5 HL.out).mono ?_
  rintro e w2 ⟨B1, B2, B3, B4, B5, rfl, ho, hb⟩
  have GL := Aside0.mk (blk_lt BK.out)
  replace BK := Aside0.mk (blk_below BK.out hb)
  have HO := Aside0.mk ho
  have HBW := Aside0.mk HB.out.size
  replace HB := Aside0.mk (below_step HB.out hb)
  clear ho hb hx1 hy0 hy1 hy2 hy3 hy4 hy5
  have hs0 := Up.c0 BK
  have hf0 := blk_frozen BK.out 0
  have hs1 := Up.c1 BK
  have hf1 := blk_frozen BK.out 1
  have hs2 := Up.c2 BK
  have hf2 := blk_frozen BK.out 2
  have hs3 := Up.c3 BK
  have hf3 := blk_frozen BK.out 3
  have hs4 := Up.c4 BK
  have hf4 := blk_frozen BK.out 4
  have hs5 := Up.c5 BK
  have hf5 := blk_frozen BK.out 5
  go_wp2
  refine bodyPost_ret (results_ct rfl _ _ g 39 #[.int .i64 F.f0, .slice B1 F.f1.length F.f1.length, .slice B2 F.f2.length F.f2.length, .slice B3 F.f3.length F.f3.length, .slice B4 F.f4.length F.f4.length, .slice B5 F.f5.length F.f5.length] (0, 0) _ rfl (Up.Kx BK) Try.underlying39 rfl (by kernel_rfl)) rfl ?_
  have hfar : ∀ (W : World) (k : Nat) (u0 u1 u2 u3 u4 u5 : Value), k ≠ g → ((((((W.setCell ⟨g, 0, none⟩ u0).setCell ⟨g, 1, none⟩ u1).setCell ⟨g, 2, none⟩ u2).setCell ⟨g, 3, none⟩ u3).setCell ⟨g, 4, none⟩ u4).setCell ⟨g, 5, none⟩ u5).heap[k]? = W.heap[k]? := fun W k u0 u1 u2 u3 u4 u5 h => by rw [Below.heap_setCell _ _ _ k h, Below.heap_setCell _ _ _ k h, Below.heap_setCell _ _ _ k h, Below.heap_setCell _ _ _ k h, Below.heap_setCell _ _ _ k h, Below.heap_setCell _ _ _ k h]
  have h := GW.out
  have hg := GL.out
  refine ⟨B1, B2, B3, B4, B5, rfl, FuncOwn.lower (FuncOwn.step HO.out (fun k hk _ => hfar _ k _ _ _ _ _ _ (by omega))) HBW.out, ?_⟩
  exact (((((HB.out.setCell h _).setCell h _).setCell h _).setCell h _).setCell h _).setCell h _
set_option maxHeartbeats 4000000 in
set_option maxRecDepth 100000 in
theorem shelfFunc_no (A0 : Option Addr) (c0 : Nat) (l0 : List S55) (a1 a2 : Int) (w : World) (hr0 : Kd.C k55 w A0 l0.length l0) (hc0 : l0.length ≤ c0) (hF : noF l0 a1 a2) :
    Calls Try.prog 18 #[.slice A0 l0.length c0, .int .i64 a1, .int .i64 a2] w fun e w' => e = .returned (.tuple #[.agg #[.int .i64 0, .slice none 0 0, .slice none 0 0, .slice none 0 0, .slice none 0 0, .slice none 0 0], .bool false]) ∧ Below w.heap.size w w' := by
  have hu_ := Try.underlying39
  have HB := Aside0.mk (Below.refl w.heap.size w)
  rcases hF with g0 | g1 | ⟨g0, g1, g2⟩ | ⟨g0, g1, g2, g3⟩
  · have d1 : decide (a1 < 0) = true := decide_eq_true g0
    clear hr0
    go_enter Try.func18, Try.ntmps18
    go_wp2_with (first
      | ((with_reducible refine gate_dst (N := 6) rfl ?_); (try (refine gate_guard (by rfl) ?_; dsimp only)); refine Up.bx 6 39 #[.int .i64 0, .slice none 0 0, .slice none 0 0, .slice none 0 0, .slice none 0 0, .slice none 0 0] ?_; intro g hg w1 hbox hb; have BK := Aside0.mk hbox; have GW := Aside0.mk (show w.heap.size ≤ g by rw [hg]; exact HB.out.size); replace HB := Aside0.mk (below_step HB.out hb); clear hg hbox hb; (have hs0 := Up.c0 BK); (have hf0 := blk_frozen BK.out 0); (have hs1 := Up.c1 BK); (have hf1 := blk_frozen BK.out 1); (have hs2 := Up.c2 BK); (have hf2 := blk_frozen BK.out 2); (have hs3 := Up.c3 BK); (have hf3 := blk_frozen BK.out 3); (have hs4 := Up.c4 BK); (have hf4 := blk_frozen BK.out 4); (have hs5 := Up.c5 BK); (have hf5 := blk_frozen BK.out 5)))
    refine bodyPost_ret (results_ct rfl _ _ g 39 #[.int .i64 0, .slice none 0 0, .slice none 0 0, .slice none 0 0, .slice none 0 0, .slice none 0 0] (0, 0) _ rfl (Up.Kx BK) Try.underlying39 rfl (by kernel_rfl)) rfl ?_
    have h := GW.out
    exact ⟨rfl, (((((HB.out.setCell h _).setCell h _).setCell h _).setCell h _).setCell h _).setCell h _⟩
  · have d1 : decide (a1 < 0) = false := decide_eq_false (by omega)
    have d2 : decide ((l0.length : Int) ≤ a1) = true := decide_eq_true g1
    clear hr0
    go_enter Try.func18, Try.ntmps18
    go_wp2_with (first
      | ((with_reducible refine gate_dst (N := 6) rfl ?_); (try (refine gate_guard (by rfl) ?_; dsimp only)); refine Up.bx 6 39 #[.int .i64 0, .slice none 0 0, .slice none 0 0, .slice none 0 0, .slice none 0 0, .slice none 0 0] ?_; intro g hg w1 hbox hb; have BK := Aside0.mk hbox; have GW := Aside0.mk (show w.heap.size ≤ g by rw [hg]; exact HB.out.size); replace HB := Aside0.mk (below_step HB.out hb); clear hg hbox hb; (have hs0 := Up.c0 BK); (have hf0 := blk_frozen BK.out 0); (have hs1 := Up.c1 BK); (have hf1 := blk_frozen BK.out 1); (have hs2 := Up.c2 BK); (have hf2 := blk_frozen BK.out 2); (have hs3 := Up.c3 BK); (have hf3 := blk_frozen BK.out 3); (have hs4 := Up.c4 BK); (have hf4 := blk_frozen BK.out 4); (have hs5 := Up.c5 BK); (have hf5 := blk_frozen BK.out 5)))
    refine bodyPost_ret (results_ct rfl _ _ g 39 #[.int .i64 0, .slice none 0 0, .slice none 0 0, .slice none 0 0, .slice none 0 0, .slice none 0 0] (0, 0) _ rfl (Up.Kx BK) Try.underlying39 rfl (by kernel_rfl)) rfl ?_
    have h := GW.out
    exact ⟨rfl, (((((HB.out.setCell h _).setCell h _).setCell h _).setCell h _).setCell h _).setCell h _⟩
  · have d1 : decide (a1 < 0) = false := decide_eq_false (by omega)
    have d2 : decide ((l0.length : Int) ≤ a1) = false := decide_eq_false (by omega)
    have d3 : decide (a2 < 0) = true := decide_eq_true g2
    clear hr0
    go_enter Try.func18, Try.ntmps18
    go_wp2_with (first
      | ((with_reducible refine gate_dst (N := 6) rfl ?_); (try (refine gate_guard (by rfl) ?_; dsimp only)); refine Up.bx 6 39 #[.int .i64 0, .slice none 0 0, .slice none 0 0, .slice none 0 0, .slice none 0 0, .slice none 0 0] ?_; intro g hg w1 hbox hb; have BK := Aside0.mk hbox; have GW := Aside0.mk (show w.heap.size ≤ g by rw [hg]; exact HB.out.size); replace HB := Aside0.mk (below_step HB.out hb); clear hg hbox hb; (have hs0 := Up.c0 BK); (have hf0 := blk_frozen BK.out 0); (have hs1 := Up.c1 BK); (have hf1 := blk_frozen BK.out 1); (have hs2 := Up.c2 BK); (have hf2 := blk_frozen BK.out 2); (have hs3 := Up.c3 BK); (have hf3 := blk_frozen BK.out 3); (have hs4 := Up.c4 BK); (have hf4 := blk_frozen BK.out 4); (have hs5 := Up.c5 BK); (have hf5 := blk_frozen BK.out 5)))
    refine bodyPost_ret (results_ct rfl _ _ g 39 #[.int .i64 0, .slice none 0 0, .slice none 0 0, .slice none 0 0, .slice none 0 0, .slice none 0 0] (0, 0) _ rfl (Up.Kx BK) Try.underlying39 rfl (by kernel_rfl)) rfl ?_
    have h := GW.out
    exact ⟨rfl, (((((HB.out.setCell h _).setCell h _).setCell h _).setCell h _).setCell h _).setCell h _⟩
  · obtain ⟨ad, X0, y0, X1, y1, X2, y2, ea, hx0, hx1, hx2, _, _, _, _, _, _⟩ := OFnExactShelfFunc.at_T55 hr0 a1 g0 g1
    subst ea
    generalize (OFnExactShelfFunc.rd_T55 l0 a1).f1.length = fl at g3 hx1
    have d1 : decide (a1 < 0) = false := decide_eq_false (by omega)
    have d2 : decide ((l0.length : Int) ≤ a1) = false := decide_eq_false (by omega)
    have d3 : decide (a2 < 0) = false := decide_eq_false (by omega)
    have d4 : decide ((fl : Int) ≤ a2) = true := decide_eq_true g3
    have d5 : (0 ≤ a1) = True := eq_true g0
    have d6 : (a1 < (l0.length : Int)) = True := eq_true g1
    clear hr0 hx0 hx2
    go_enter Try.func18, Try.ntmps18
    go_wp2_with (first
      | ((with_reducible refine gate_dst (N := 6) rfl ?_); (try (refine gate_guard (by rfl) ?_; dsimp only)); refine Up.bx 6 39 #[.int .i64 0, .slice none 0 0, .slice none 0 0, .slice none 0 0, .slice none 0 0, .slice none 0 0] ?_; intro g hg w1 hbox hb; have BK := Aside0.mk hbox; have GW := Aside0.mk (show w.heap.size ≤ g by rw [hg]; exact HB.out.size); replace hx1 := (hb.cell (World.block_lt_of_cell? w _ hx1)).trans hx1; replace HB := Aside0.mk (below_step HB.out hb); clear hg hbox hb; (have hs0 := Up.c0 BK); (have hf0 := blk_frozen BK.out 0); (have hs1 := Up.c1 BK); (have hf1 := blk_frozen BK.out 1); (have hs2 := Up.c2 BK); (have hf2 := blk_frozen BK.out 2); (have hs3 := Up.c3 BK); (have hf3 := blk_frozen BK.out 3); (have hs4 := Up.c4 BK); (have hf4 := blk_frozen BK.out 4); (have hs5 := Up.c5 BK); (have hf5 := blk_frozen BK.out 5)))
    refine bodyPost_ret (results_ct rfl _ _ g 39 #[.int .i64 0, .slice none 0 0, .slice none 0 0, .slice none 0 0, .slice none 0 0, .slice none 0 0] (0, 0) _ rfl (Up.Kx BK) Try.underlying39 rfl (by kernel_rfl)) rfl ?_
    have h := GW.out
    exact ⟨rfl, (((((HB.out.setCell h _).setCell h _).setCell h _).setCell h _).setCell h _).setCell h _⟩
def l4Copy_T1 : Bool × List (List Nat × List Nat):=(true,[([],[]),([0],[0]),([],[]),([],[]),([3],[3]),([2,4],[2,4]),([],[]),([],[]),([7],[7]),([6,8,5],[6,8]),([],[]),([],[]),([11],[11]),([10,12,9],[10,12]),([],[]),([],[]),([15],[15]),([14,16,13],[14,16]),([],[]),([],[]),([19],[19]),([18,20,17],[18,20]),([1,5,9,13,17,21],[1,5,9,13,17,21]),([22,21,0,1,2,3,4,5,6,7,8,9,10,11,12,13,14,15,16,17,18,19,20,21,22],[22])])
def l4Copy_B1 : List Nat:=[0,1,0,0,8,28,0,0,128,508,0,0,2048,8188,0,0,32768,131068,0,0,524288,2097148,4194303,8388607]
theorem l4Copy_tab1 : rtab .any (opsOf Try.f36 1) = l4Copy_T1:=by kernel_rfl
theorem l4Copy_bits1 : waitsOk l4Copy_T1.2 l4Copy_B1 = true:=by kernel_rfl
theorem R_fresh {α : Type} {d : Kd α} {e base i j : Nat} {W w1 : World} {v : Value} {xs : List α} {f : Nat → Nat} (h : d.R e W base (fun k => f k = j) v xs) (hb : Below W.heap.size W w1) : d.R e w1 base (fun k => (if k < W.heap.size then f k else i) = j) v xs :=
  Kd.R_mono (Kd.R_below (Kd.R_bound h) hb) (fun k hk => by rw [if_pos hk.2.2.1]; exact hk.1)
theorem R_own_new {α : Type} {d : Kd α} {e base i : Nat} {W w1 : World} {v : Value} {xs : List α} {f : Nat → Nat} {ok : Nat → Prop} (h : d.R e w1 W.heap.size ok v xs) (hb : base ≤ W.heap.size) : d.R e w1 base (fun k => (if k < W.heap.size then f k else i) = i) v xs :=
  Kd.R_lower (Kd.R_mono (Kd.R_bound h) (fun k hk => if_neg (Nat.not_lt.2 hk.2.1))) hb
theorem R_other {α : Type} {d : Kd α} {e base i j : Nat} {W w1 : World} {v : Value} {xs : List α} {f : Nat → Nat} {row : Option Nat} (h : d.R e W base (fun k => f k = j) v xs) (hg : W.grownBy w1 row) (hrow : ∀ k, row = some k → f k = i) (hij : j ≠ i) : d.R e w1 base (fun k => (if k < W.heap.size then f k else i) = j) v xs :=
  Kd.R_mono (Kd.R_grown (Kd.R_bound h) hg (fun k hk he => hij (hk.1.symm.trans (hrow k he.symm)))) (fun k hk => by rw [if_pos hk.2.2.1]; exact hk.1)
set_option maxHeartbeats 8000000 in
set_option maxRecDepth 100000 in
theorem l4Copy_own (F : S39) (A1 A2 A3 A4 A5 : Option Addr) (c1 c2 c3 c4 c5 : Nat) (w : World) (h1 : Kd.C Kd.string w A1 F.f1.length F.f1) (hc1 : F.f1.length ≤ c1) (h2 : Kd.C Kd.string w A2 F.f2.length F.f2) (hc2 : F.f2.length ≤ c2) (h3 : Kd.C Kd.string w A3 F.f3.length F.f3) (hc3 : F.f3.length ≤ c3)
    (h4 : Kd.C (Kd.int .i64) w A4 F.f4.length F.f4) (hc4 : F.f4.length ≤ c4) (h5 : Kd.C k83 w A5 F.f5.length F.f5) (hc5 : F.f5.length ≤ c5) (hl : F.f1.length < 4398046511104 ∧ F.f2.length < 4398046511104 ∧ F.f3.length < 4398046511104 ∧ F.f4.length < 4398046511104 ∧ F.f5.length < 2199023255552) :
    Calls Try.prog 36 #[.agg #[.int .i64 F.f0, .slice A1 F.f1.length c1, .slice A2 F.f2.length c2, .slice A3 F.f3.length c3, .slice A4 F.f4.length c4, .slice A5 F.f5.length c5]] w fun e w' => ∃ D1 D2 D3 D4 D5 e1 e2 e3 e4 e5, e = .returned (.agg #[.int .i64 F.f0, .slice D1 F.f1.length e1, .slice D2 F.f2.length e2, .slice D3 F.f3.length e3, .slice D4 F.f4.length e4, .slice D5 F.f5.length e5]) ∧ Kd.R Kd.string 9 w' w.heap.size (fun _ => True) (.slice D1 F.f1.length e1) F.f1 ∧ Kd.R Kd.string 9 w' w.heap.size (fun _ => True) (.slice D2 F.f2.length e2) F.f2 ∧ Kd.R Kd.string 9 w' w.heap.size (fun _ => True) (.slice D3 F.f3.length e3) F.f3 ∧ Kd.R (Kd.int .i64) 3 w' w.heap.size (fun _ => True) (.slice D4 F.f4.length e4) F.f4 ∧ Kd.R k83 83 w' w.heap.size (fun _ => True) (.slice D5 F.f5.length e5) F.f5 ∧ Below w.heap.size w w' := by
  have hu_ := Try.underlying39
  have H1 := Aside0.mk h1
  have H2 := Aside0.mk h2
  have H3 := Aside0.mk h3
  have H4 := Aside0.mk h4
  have H5 := Aside0.mk h5
  have HL := Aside0.mk hl
  clear h1 h2 h3 h4 h5 hl
  have HB := Aside0.mk (Below.refl w.heap.size w)
  go_enter Try.func36, Try.ntmps36
  (try go_wp2_with (first
    | ((with_reducible refine gate_dst (N := 1) rfl ?_); refine Up.bx 1 39 #[.int .i64 F.f0, .slice A1 F.f1.length c1, .slice A2 F.f2.length c2, .slice A3 F.f3.length c3, .slice A4 F.f4.length c4, .slice A5 F.f5.length c5] ?_; intro g1 hg w1 hbox hb; have BK1 := Aside0.mk hbox; replace HB := Aside0.mk (below_step HB.out hb); clear hg hbox hb)
    | ((with_reducible refine gate_dst (N := 2) rfl ?_); refine Up.bx 2 39 #[.int .i64 0, .slice none 0 0, .slice none 0 0, .slice none 0 0, .slice none 0 0, .slice none 0 0] ?_; intro g2 hg w2 hbox hb; have NG := Aside0.mk (show g1 ≠ g2 from Nat.ne_of_lt (by rw [hg]; exact blk_lt BK1.out)); replace BK1 := Aside0.mk (blk_below BK1.out hb); have BK2 := Aside0.mk hbox; have GW := Aside0.mk (show w.heap.size ≤ g2 by rw [hg]; exact HB.out.size); replace HB := Aside0.mk (below_step HB.out hb); clear hg hbox hb)))
  replace BK1 := Aside0.mk (blk_drew BK1.out)
  replace BK2 := Aside0.mk (blk_drew BK2.out)
  replace HB := Aside0.mk (below_drew1 HB.out)
  refine start_ (n := 24) (S := fun w' => True) (ds := []) #[false,false,false,false,false,false,false,false,false,false,false,false,false,false,false,false,false,false,false,false,false,false,false,false] (by kernel_rfl) rfl rfl trivial (fun hHeld => ?_)
  refine with_tabW l4Copy_tab1 l4Copy_bits1 (fun HT_ HW_ => ?_)
  generalize w2.drew = w9 at BK1 BK2 HB hHeld ⊢
  refine Up.pu 0 (some 3) HT_ ?_
  refine Up.pu 3 (some 6) HT_ ?_
  refine Up.pu 7 (some 10) HT_ ?_
  refine Up.pu 11 (some 14) HT_ ?_
  refine Up.pu 15 (some 18) HT_ ?_
  refine Up.pu 19 (some 22) HT_ ?_
  refine inv_at [1, 2, 4, 5, 6, 8, 9, 10, 12, 13, 14, 16, 17, 18, 20, 21, 22, 23] (fun a0_ b a w' => ∃ (v1 v2 v3 v4 v5 u1 u2 u3 u4 u5 m : Value) (f : Nat → Nat), a = putSel a0_ b [(1, 4, .int .i64 F.f0), (2, 5, v1), (4, 7, .slice A1 F.f1.length c1), (5, 8, u1), (6, 9, v2), (8, 11, .slice A2 F.f2.length c2), (9, 12, u2), (10, 13, v3), (12, 15, .slice A3 F.f3.length c3), (13, 16, u3), (14, 17, v4), (16, 19, .slice A4 F.f4.length c4), (17, 20, u4), (18, 21, v5), (20, 23, .slice A5 F.f5.length c5), (21, 24, u5), (22, 25, m)] ∧ w'.heap[g1]? = some (.cells #[.int .i64 F.f0, .slice A1 F.f1.length c1, .slice A2 F.f2.length c2, .slice A3 F.f3.length c3, .slice A4 F.f4.length c4, .slice A5 F.f5.length c5] 39 (0, 0)) ∧ (b 23 = false → w'.heap[g2]? = some (.cells #[.int .i64 0, .slice none 0 0, .slice none 0 0, .slice none 0 0, .slice none 0 0, .slice none 0 0] 39 (0, 0))) ∧ Below w.heap.size w w' ∧ f g1 = 0 ∧ f g2 = 0 ∧ (b 2 = true → b 5 = false → Kd.R Kd.string 9 w' w.heap.size (fun k => f k = 1) v1 []) ∧ (b 5 = true → Kd.R Kd.string 9 w' w.heap.size (fun k => f k = 1) u1 F.f1) ∧ (b 6 = true → b 9 = false → Kd.R Kd.string 9 w' w.heap.size (fun k => f k = 2) v2 []) ∧ (b 9 = true → Kd.R Kd.string 9 w' w.heap.size (fun k => f k = 2) u2 F.f2) ∧ (b 10 = true → b 13 = false → Kd.R Kd.string 9 w' w.heap.size (fun k => f k = 3) v3 []) ∧ (b 13 = true → Kd.R Kd.string 9 w' w.heap.size (fun k => f k = 3) u3 F.f3) ∧ (b 14 = true → b 17 = false → Kd.R (Kd.int .i64) 3 w' w.heap.size (fun k => f k = 4) v4 []) ∧ (b 17 = true → Kd.R (Kd.int .i64) 3 w' w.heap.size (fun k => f k = 4) u4 F.f4) ∧ (b 18 = true → b 21 = false → Kd.R k83 83 w' w.heap.size (fun k => f k = 5) v5 []) ∧ (b 21 = true → Kd.R k83 83 w' w.heap.size (fun k => f k = 5) u5 F.f5) ∧ (b 22 = true → m = .agg #[.int .i64 F.f0, u1, u2, u3, u4, u5]) ∧ (b 23 = true → w'.heap[g2]? = some (.cells #[.int .i64 F.f0, u1, u2, u3, u4, u5] 39 (0, 0)))) HT_.out HW_.out (by kernel_rfl) (by kernel_rfl) ?_ ?_ ?_
  · exact ⟨.bool false, .bool false, .bool false, .bool false, .bool false, .bool false, .bool false, .bool false, .bool false, .bool false, .bool false, fun _ => 0, by simp only [putSel, Bool.false_eq_true, if_false], BK1.out, fun _ => BK2.out, HB.out, rfl, rfl, fun h_ => absurd h_ (by decide), fun h_ => absurd h_ (by decide), fun h_ => absurd h_ (by decide), fun h_ => absurd h_ (by decide), fun h_ => absurd h_ (by decide), fun h_ => absurd h_ (by decide), fun h_ => absurd h_ (by decide), fun h_ => absurd h_ (by decide), fun h_ => absurd h_ (by decide), fun h_ => absurd h_ (by decide), fun h_ => absurd h_ (by decide), fun h_ => absurd h_ (by decide)⟩
  · skip
    clear BK1 BK2 HB
    refine steps_cons ?_ ?_
    · rintro b a w' ⟨v1, v2, v3, v4, v5, u1, u2, u3, u4, u5, m, f, ha, Q1, Q2, QB, F1, F2, QV1, QU1, QV2, QU2, QV3, QU3, QV4, QU4, QV5, QU5, QM, QE⟩ hb_ hon hoff
      refine ⟨_, rfl, fun K hK => ?_⟩
      have e3_ : a.tmps[3]? = some (.pointer (some ⟨g1, 0, none⟩)) := by rw [ha]; exact (putSel_off rfl).trans rfl
      replace ha := Aside0.mk ha
      have hc_ : w'.cell? ⟨g1, 0, none⟩ = some (.int .i64 F.f0) := (blk_cell Q1 0).trans rfl
      refine value_ (w1 := w') (v := .int .i64 F.f0) (by rfl) rfl ?_ ?_
      · go_simp
        (try simp only [i64_w]); try rfl
      refine hK.out _ _ ⟨v1, v2, v3, v4, v5, u1, u2, u3, u4, u5, m, f, (by rw [ha.out]; exact putSel_upk 0 hb_ rfl rfl rfl), Q1, Q2, QB, F1, F2, QV1, QU1, QV2, QU2, QV3, QU3, QV4, QU4, QV5, QU5, fun h0 => absurd ((hoff 22 (by kernel_rfl)).symm.trans h0) (by decide), fun h0 => absurd ((hoff 23 (by kernel_rfl)).symm.trans h0) (by decide)⟩
    refine steps_cons ?_ ?_
    · rintro b a w' ⟨v1, v2, v3, v4, v5, u1, u2, u3, u4, u5, m, f, ha, Q1, Q2, QB, F1, F2, QV1, QU1, QV2, QU2, QV3, QU3, QV4, QU4, QV5, QU5, QM, QE⟩ hb_ hon hoff
      refine ⟨_, rfl, fun K hK => ?_⟩
      replace ha := Aside0.mk ha
      have hw_ := QB.size
      refine Kd.R_lit_step Kd.string _ 9 ?hg (N := 5) ?hd (xs := ([] : List ByteArray)) (inner := []) (ok := fun _ => True) (okp := fun _ => True) ?hr ?hp (fun _ hk => hk) trivial (Below.refl _ _) (Nat.le_refl _) (by simp) ?_
      (case hd => rfl); (case hg => rfl); (case hr => first | (go_simp; done) | (go_simp; rfl)); (case hp => exact (Reps.none _ _))
      intro vn wn ho hb hg_ hnew_
      clear hg_ hnew_
      have hsz := hb.size
      have l1 := blk_lt Q1
      have l2 := blk_lt (Q2 (hoff 23 (by kernel_rfl)))
      refine hK.out _ _ ⟨vn, v2, v3, v4, v5, u1, u2, u3, u4, u5, m, (fun k => if k < w'.heap.size then f k else 1), (by rw [ha.out]; exact putSel_upk 1 hb_ rfl rfl rfl), blk_below Q1 hb, fun h0 => blk_below (Q2 h0) hb, below_step QB hb, (by show (if g1 < w'.heap.size then f g1 else 1) = 0; rw [if_pos l1]; exact F1), (by show (if g2 < w'.heap.size then f g2 else 1) = 0; rw [if_pos l2]; exact F2), fun _ _ => R_own_new ho hw_, fun h0 => absurd ((hoff 5 (by kernel_rfl)).symm.trans h0) (by decide), fun h0 h1 => R_fresh (QV2 h0 h1) hb, fun h0 => R_fresh (QU2 h0) hb, fun h0 h1 => R_fresh (QV3 h0 h1) hb, fun h0 => R_fresh (QU3 h0) hb, fun h0 h1 => R_fresh (QV4 h0 h1) hb, fun h0 => R_fresh (QU4 h0) hb, fun h0 h1 => R_fresh (QV5 h0 h1) hb, fun h0 => R_fresh (QU5 h0) hb, fun h0 => absurd ((hoff 22 (by kernel_rfl)).symm.trans h0) (by decide), fun h0 => absurd ((hoff 23 (by kernel_rfl)).symm.trans h0) (by decide)⟩
    refine steps_cons ?_ ?_
    · rintro b a w' ⟨v1, v2, v3, v4, v5, u1, u2, u3, u4, u5, m, f, ha, Q1, Q2, QB, F1, F2, QV1, QU1, QV2, QU2, QV3, QU3, QV4, QU4, QV5, QU5, QM, QE⟩ hb_ hon hoff
      refine ⟨_, rfl, fun K hK => ?_⟩
      have e6_ : a.tmps[6]? = some (.pointer (some ⟨g1, 1, none⟩)) := by rw [ha]; exact (putSel_off rfl).trans rfl
      replace ha := Aside0.mk ha
      have hc_ : w'.cell? ⟨g1, 1, none⟩ = some (.slice A1 F.f1.length c1) := (blk_cell Q1 1).trans rfl
      refine value_ (w1 := w') (v := .slice A1 F.f1.length c1) (by rfl) rfl ?_ ?_
      · go_simp
        (try simp only [i64_w]); try rfl
      refine hK.out _ _ ⟨v1, v2, v3, v4, v5, u1, u2, u3, u4, u5, m, f, (by rw [ha.out]; exact putSel_upk 2 hb_ rfl rfl rfl), Q1, Q2, QB, F1, F2, QV1, fun h0 => absurd ((hoff 5 (by kernel_rfl)).symm.trans h0) (by decide), QV2, QU2, QV3, QU3, QV4, QU4, QV5, QU5, fun h0 => absurd ((hoff 22 (by kernel_rfl)).symm.trans h0) (by decide), fun h0 => absurd ((hoff 23 (by kernel_rfl)).symm.trans h0) (by decide)⟩
    refine steps_cons ?_ ?_
    · rintro b a w' ⟨v1, v2, v3, v4, v5, u1, u2, u3, u4, u5, m, f, ha, Q1, Q2, QB, F1, F2, QV1, QU1, QV2, QU2, QV3, QU3, QV4, QU4, QV5, QU5, QM, QE⟩ hb_ hon hoff
      refine ⟨_, rfl, fun K hK => ?_⟩
      have e5_ : a.tmps[5]? = some (v1) := by rw [ha]; exact putSel_on (e := (2, 5, v1)) 1 rfl rfl (hon 2 (by kernel_rfl)) rfl
      have e7_ : a.tmps[7]? = some (.slice A1 F.f1.length c1) := by rw [ha]; exact putSel_on (e := (4, 7, .slice A1 F.f1.length c1)) 2 rfl rfl (hon 4 (by kernel_rfl)) rfl
      replace ha := Aside0.mk ha
      have ho_ := QV1 (hon 2 (by kernel_rfl)) hb_
      have hw_ := QB.size
      refine Kd.R_append_rows_step Kd.string (w0 := w) w.heap.size (by rfl) (.tmp 5) (.tmp 7) 35 9 (.string ⟨#[]⟩) 16 rfl Try.underlying35 OFnExactShelfFunc.info9 rfl (by decide) (by omega) v1 ([] : List ByteArray) F.f1 _ _ _ (fun k => (if k < w'.heap.size then f k else 1) = 1) (fun _ => False) (eval_of e5_) (eval_of e7_) ?aO ?aR (fun _ _ h => h) (fun _ h => h.elim) ?aF ?aB ?aS ?aL ?_
      case aR => exact Kd.C_below H1.out QB
      case aB => exact QB
      case aF => exact fun k hk => if_neg (Nat.not_lt.2 hk)
      case aO => exact Kd.R_mono (Kd.R_bound ho_) (fun k hk => by rw [if_pos hk.2.2.1]; exact hk.1)
      case aS => exact hw_
      case aL => have := HL.out; simp; omega
      intro vn wn ho hb hg hat
      rw [List.nil_append] at ho
      have hrow : ∀ k, v1.ownBlock = some k → f k = 1 := fun k hk => ho_.1 k hk
      have l1 := blk_lt Q1
      have l2 := blk_lt (Q2 (hoff 23 (by kernel_rfl)))
      refine hK.out _ _ ⟨v1, v2, v3, v4, v5, vn, u2, u3, u4, u5, m, (fun k => if k < w'.heap.size then f k else 1), (by rw [ha.out]; exact putSel_upk 3 hb_ rfl rfl rfl), blk_grown Q1 hg (fun he => by have := hrow _ he.symm; omega), fun h0 => blk_grown (Q2 h0) hg (fun he => by have := hrow _ he.symm; omega), hb, (by show (if g1 < w'.heap.size then f g1 else 1) = 0; rw [if_pos l1]; exact F1), (by show (if g2 < w'.heap.size then f g2 else 1) = 0; rw [if_pos l2]; exact F2), fun _ h1 => absurd ((up_self b 5).symm.trans h1) (by decide), fun _ => ho, fun h0 h1 => R_other (QV2 h0 h1) hg hrow (by decide), fun h0 => R_other (QU2 h0) hg hrow (by decide), fun h0 h1 => R_other (QV3 h0 h1) hg hrow (by decide), fun h0 => R_other (QU3 h0) hg hrow (by decide), fun h0 h1 => R_other (QV4 h0 h1) hg hrow (by decide), fun h0 => R_other (QU4 h0) hg hrow (by decide), fun h0 h1 => R_other (QV5 h0 h1) hg hrow (by decide), fun h0 => R_other (QU5 h0) hg hrow (by decide), fun h0 => absurd ((hoff 22 (by kernel_rfl)).symm.trans h0) (by decide), fun h0 => absurd ((hoff 23 (by kernel_rfl)).symm.trans h0) (by decide)⟩
    refine steps_cons ?_ ?_
    · rintro b a w' ⟨v1, v2, v3, v4, v5, u1, u2, u3, u4, u5, m, f, ha, Q1, Q2, QB, F1, F2, QV1, QU1, QV2, QU2, QV3, QU3, QV4, QU4, QV5, QU5, QM, QE⟩ hb_ hon hoff
      refine ⟨_, rfl, fun K hK => ?_⟩
      replace ha := Aside0.mk ha
      have hw_ := QB.size
      refine Kd.R_lit_step Kd.string _ 9 ?hg (N := 9) ?hd (xs := ([] : List ByteArray)) (inner := []) (ok := fun _ => True) (okp := fun _ => True) ?hr ?hp (fun _ hk => hk) trivial (Below.refl _ _) (Nat.le_refl _) (by simp) ?_
      (case hd => rfl); (case hg => rfl); (case hr => first | (go_simp; done) | (go_simp; rfl)); (case hp => exact (Reps.none _ _))
      intro vn wn ho hb hg_ hnew_
      clear hg_ hnew_
      have hsz := hb.size
      have l1 := blk_lt Q1
      have l2 := blk_lt (Q2 (hoff 23 (by kernel_rfl)))
      refine hK.out _ _ ⟨v1, vn, v3, v4, v5, u1, u2, u3, u4, u5, m, (fun k => if k < w'.heap.size then f k else 2), (by rw [ha.out]; exact putSel_upk 4 hb_ rfl rfl rfl), blk_below Q1 hb, fun h0 => blk_below (Q2 h0) hb, below_step QB hb, (by show (if g1 < w'.heap.size then f g1 else 2) = 0; rw [if_pos l1]; exact F1), (by show (if g2 < w'.heap.size then f g2 else 2) = 0; rw [if_pos l2]; exact F2), fun h0 h1 => R_fresh (QV1 h0 h1) hb, fun h0 => R_fresh (QU1 h0) hb, fun _ _ => R_own_new ho hw_, fun h0 => absurd ((hoff 9 (by kernel_rfl)).symm.trans h0) (by decide), fun h0 h1 => R_fresh (QV3 h0 h1) hb, fun h0 => R_fresh (QU3 h0) hb, fun h0 h1 => R_fresh (QV4 h0 h1) hb, fun h0 => R_fresh (QU4 h0) hb, fun h0 h1 => R_fresh (QV5 h0 h1) hb, fun h0 => R_fresh (QU5 h0) hb, fun h0 => absurd ((hoff 22 (by kernel_rfl)).symm.trans h0) (by decide), fun h0 => absurd ((hoff 23 (by kernel_rfl)).symm.trans h0) (by decide)⟩
    refine steps_cons ?_ ?_
    · rintro b a w' ⟨v1, v2, v3, v4, v5, u1, u2, u3, u4, u5, m, f, ha, Q1, Q2, QB, F1, F2, QV1, QU1, QV2, QU2, QV3, QU3, QV4, QU4, QV5, QU5, QM, QE⟩ hb_ hon hoff
      refine ⟨_, rfl, fun K hK => ?_⟩
      have e10_ : a.tmps[10]? = some (.pointer (some ⟨g1, 2, none⟩)) := by rw [ha]; exact (putSel_off rfl).trans rfl
      replace ha := Aside0.mk ha
      have hc_ : w'.cell? ⟨g1, 2, none⟩ = some (.slice A2 F.f2.length c2) := (blk_cell Q1 2).trans rfl
      refine value_ (w1 := w') (v := .slice A2 F.f2.length c2) (by rfl) rfl ?_ ?_
      · go_simp
        (try simp only [i64_w]); try rfl
      refine hK.out _ _ ⟨v1, v2, v3, v4, v5, u1, u2, u3, u4, u5, m, f, (by rw [ha.out]; exact putSel_upk 5 hb_ rfl rfl rfl), Q1, Q2, QB, F1, F2, QV1, QU1, QV2, fun h0 => absurd ((hoff 9 (by kernel_rfl)).symm.trans h0) (by decide), QV3, QU3, QV4, QU4, QV5, QU5, fun h0 => absurd ((hoff 22 (by kernel_rfl)).symm.trans h0) (by decide), fun h0 => absurd ((hoff 23 (by kernel_rfl)).symm.trans h0) (by decide)⟩
    refine steps_cons ?_ ?_
    · rintro b a w' ⟨v1, v2, v3, v4, v5, u1, u2, u3, u4, u5, m, f, ha, Q1, Q2, QB, F1, F2, QV1, QU1, QV2, QU2, QV3, QU3, QV4, QU4, QV5, QU5, QM, QE⟩ hb_ hon hoff
      refine ⟨_, rfl, fun K hK => ?_⟩
      have e9_ : a.tmps[9]? = some (v2) := by rw [ha]; exact putSel_on (e := (6, 9, v2)) 4 rfl rfl (hon 6 (by kernel_rfl)) rfl
      have e11_ : a.tmps[11]? = some (.slice A2 F.f2.length c2) := by rw [ha]; exact putSel_on (e := (8, 11, .slice A2 F.f2.length c2)) 5 rfl rfl (hon 8 (by kernel_rfl)) rfl
      replace ha := Aside0.mk ha
      have ho_ := QV2 (hon 6 (by kernel_rfl)) hb_
      have hw_ := QB.size
      refine Kd.R_append_rows_step Kd.string (w0 := w) w.heap.size (by rfl) (.tmp 9) (.tmp 11) 35 9 (.string ⟨#[]⟩) 16 rfl Try.underlying35 OFnExactShelfFunc.info9 rfl (by decide) (by omega) v2 ([] : List ByteArray) F.f2 _ _ _ (fun k => (if k < w'.heap.size then f k else 2) = 2) (fun _ => False) (eval_of e9_) (eval_of e11_) ?aO ?aR (fun _ _ h => h) (fun _ h => h.elim) ?aF ?aB ?aS ?aL ?_
      case aR => exact Kd.C_below H2.out QB
      case aB => exact QB
      case aF => exact fun k hk => if_neg (Nat.not_lt.2 hk)
      case aO => exact Kd.R_mono (Kd.R_bound ho_) (fun k hk => by rw [if_pos hk.2.2.1]; exact hk.1)
      case aS => exact hw_
      case aL => have := HL.out; simp; omega
      intro vn wn ho hb hg hat
      rw [List.nil_append] at ho
      have hrow : ∀ k, v2.ownBlock = some k → f k = 2 := fun k hk => ho_.1 k hk
      have l1 := blk_lt Q1
      have l2 := blk_lt (Q2 (hoff 23 (by kernel_rfl)))
      refine hK.out _ _ ⟨v1, v2, v3, v4, v5, u1, vn, u3, u4, u5, m, (fun k => if k < w'.heap.size then f k else 2), (by rw [ha.out]; exact putSel_upk 6 hb_ rfl rfl rfl), blk_grown Q1 hg (fun he => by have := hrow _ he.symm; omega), fun h0 => blk_grown (Q2 h0) hg (fun he => by have := hrow _ he.symm; omega), hb, (by show (if g1 < w'.heap.size then f g1 else 2) = 0; rw [if_pos l1]; exact F1), (by show (if g2 < w'.heap.size then f g2 else 2) = 0; rw [if_pos l2]; exact F2), fun h0 h1 => R_other (QV1 h0 h1) hg hrow (by decide), fun h0 => R_other (QU1 h0) hg hrow (by decide), fun _ h1 => absurd ((up_self b 9).symm.trans h1) (by decide), fun _ => ho, fun h0 h1 => R_other (QV3 h0 h1) hg hrow (by decide), fun h0 => R_other (QU3 h0) hg hrow (by decide), fun h0 h1 => R_other (QV4 h0 h1) hg hrow (by decide), fun h0 => R_other (QU4 h0) hg hrow (by decide), fun h0 h1 => R_other (QV5 h0 h1) hg hrow (by decide), fun h0 => R_other (QU5 h0) hg hrow (by decide), fun h0 => absurd ((hoff 22 (by kernel_rfl)).symm.trans h0) (by decide), fun h0 => absurd ((hoff 23 (by kernel_rfl)).symm.trans h0) (by decide)⟩
    refine steps_cons ?_ ?_
    · rintro b a w' ⟨v1, v2, v3, v4, v5, u1, u2, u3, u4, u5, m, f, ha, Q1, Q2, QB, F1, F2, QV1, QU1, QV2, QU2, QV3, QU3, QV4, QU4, QV5, QU5, QM, QE⟩ hb_ hon hoff
      refine ⟨_, rfl, fun K hK => ?_⟩
      replace ha := Aside0.mk ha
      have hw_ := QB.size
      refine Kd.R_lit_step Kd.string _ 9 ?hg (N := 13) ?hd (xs := ([] : List ByteArray)) (inner := []) (ok := fun _ => True) (okp := fun _ => True) ?hr ?hp (fun _ hk => hk) trivial (Below.refl _ _) (Nat.le_refl _) (by simp) ?_
      (case hd => rfl); (case hg => rfl); (case hr => first | (go_simp; done) | (go_simp; rfl)); (case hp => exact (Reps.none _ _))
      intro vn wn ho hb hg_ hnew_
      clear hg_ hnew_
      have hsz := hb.size
      have l1 := blk_lt Q1
      have l2 := blk_lt (Q2 (hoff 23 (by kernel_rfl)))
      refine hK.out _ _ ⟨v1, v2, vn, v4, v5, u1, u2, u3, u4, u5, m, (fun k => if k < w'.heap.size then f k else 3), (by rw [ha.out]; exact putSel_upk 7 hb_ rfl rfl rfl), blk_below Q1 hb, fun h0 => blk_below (Q2 h0) hb, below_step QB hb, (by show (if g1 < w'.heap.size then f g1 else 3) = 0; rw [if_pos l1]; exact F1), (by show (if g2 < w'.heap.size then f g2 else 3) = 0; rw [if_pos l2]; exact F2), fun h0 h1 => R_fresh (QV1 h0 h1) hb, fun h0 => R_fresh (QU1 h0) hb, fun h0 h1 => R_fresh (QV2 h0 h1) hb, fun h0 => R_fresh (QU2 h0) hb, fun _ _ => R_own_new ho hw_, fun h0 => absurd ((hoff 13 (by kernel_rfl)).symm.trans h0) (by decide), fun h0 h1 => R_fresh (QV4 h0 h1) hb, fun h0 => R_fresh (QU4 h0) hb, fun h0 h1 => R_fresh (QV5 h0 h1) hb, fun h0 => R_fresh (QU5 h0) hb, fun h0 => absurd ((hoff 22 (by kernel_rfl)).symm.trans h0) (by decide), fun h0 => absurd ((hoff 23 (by kernel_rfl)).symm.trans h0) (by decide)⟩
    refine steps_cons ?_ ?_
    · rintro b a w' ⟨v1, v2, v3, v4, v5, u1, u2, u3, u4, u5, m, f, ha, Q1, Q2, QB, F1, F2, QV1, QU1, QV2, QU2, QV3, QU3, QV4, QU4, QV5, QU5, QM, QE⟩ hb_ hon hoff
      refine ⟨_, rfl, fun K hK => ?_⟩
      have e14_ : a.tmps[14]? = some (.pointer (some ⟨g1, 3, none⟩)) := by rw [ha]; exact (putSel_off rfl).trans rfl
      replace ha := Aside0.mk ha
      have hc_ : w'.cell? ⟨g1, 3, none⟩ = some (.slice A3 F.f3.length c3) := (blk_cell Q1 3).trans rfl
      refine value_ (w1 := w') (v := .slice A3 F.f3.length c3) (by rfl) rfl ?_ ?_
      · go_simp
        (try simp only [i64_w]); try rfl
      refine hK.out _ _ ⟨v1, v2, v3, v4, v5, u1, u2, u3, u4, u5, m, f, (by rw [ha.out]; exact putSel_upk 8 hb_ rfl rfl rfl), Q1, Q2, QB, F1, F2, QV1, QU1, QV2, QU2, QV3, fun h0 => absurd ((hoff 13 (by kernel_rfl)).symm.trans h0) (by decide), QV4, QU4, QV5, QU5, fun h0 => absurd ((hoff 22 (by kernel_rfl)).symm.trans h0) (by decide), fun h0 => absurd ((hoff 23 (by kernel_rfl)).symm.trans h0) (by decide)⟩
    refine steps_cons ?_ ?_
    · rintro b a w' ⟨v1, v2, v3, v4, v5, u1, u2, u3, u4, u5, m, f, ha, Q1, Q2, QB, F1, F2, QV1, QU1, QV2, QU2, QV3, QU3, QV4, QU4, QV5, QU5, QM, QE⟩ hb_ hon hoff
      refine ⟨_, rfl, fun K hK => ?_⟩
      have e13_ : a.tmps[13]? = some (v3) := by rw [ha]; exact putSel_on (e := (10, 13, v3)) 7 rfl rfl (hon 10 (by kernel_rfl)) rfl
      have e15_ : a.tmps[15]? = some (.slice A3 F.f3.length c3) := by rw [ha]; exact putSel_on (e := (12, 15, .slice A3 F.f3.length c3)) 8 rfl rfl (hon 12 (by kernel_rfl)) rfl
      replace ha := Aside0.mk ha
      have ho_ := QV3 (hon 10 (by kernel_rfl)) hb_
      have hw_ := QB.size
      refine Kd.R_append_rows_step Kd.string (w0 := w) w.heap.size (by rfl) (.tmp 13) (.tmp 15) 35 9 (.string ⟨#[]⟩) 16 rfl Try.underlying35 OFnExactShelfFunc.info9 rfl (by decide) (by omega) v3 ([] : List ByteArray) F.f3 _ _ _ (fun k => (if k < w'.heap.size then f k else 3) = 3) (fun _ => False) (eval_of e13_) (eval_of e15_) ?aO ?aR (fun _ _ h => h) (fun _ h => h.elim) ?aF ?aB ?aS ?aL ?_
      case aR => exact Kd.C_below H3.out QB
      case aB => exact QB
      case aF => exact fun k hk => if_neg (Nat.not_lt.2 hk)
      case aO => exact Kd.R_mono (Kd.R_bound ho_) (fun k hk => by rw [if_pos hk.2.2.1]; exact hk.1)
      case aS => exact hw_
      case aL => have := HL.out; simp; omega
      intro vn wn ho hb hg hat
      rw [List.nil_append] at ho
      have hrow : ∀ k, v3.ownBlock = some k → f k = 3 := fun k hk => ho_.1 k hk
      have l1 := blk_lt Q1
      have l2 := blk_lt (Q2 (hoff 23 (by kernel_rfl)))
      refine hK.out _ _ ⟨v1, v2, v3, v4, v5, u1, u2, vn, u4, u5, m, (fun k => if k < w'.heap.size then f k else 3), (by rw [ha.out]; exact putSel_upk 9 hb_ rfl rfl rfl), blk_grown Q1 hg (fun he => by have := hrow _ he.symm; omega), fun h0 => blk_grown (Q2 h0) hg (fun he => by have := hrow _ he.symm; omega), hb, (by show (if g1 < w'.heap.size then f g1 else 3) = 0; rw [if_pos l1]; exact F1), (by show (if g2 < w'.heap.size then f g2 else 3) = 0; rw [if_pos l2]; exact F2), fun h0 h1 => R_other (QV1 h0 h1) hg hrow (by decide), fun h0 => R_other (QU1 h0) hg hrow (by decide), fun h0 h1 => R_other (QV2 h0 h1) hg hrow (by decide), fun h0 => R_other (QU2 h0) hg hrow (by decide), fun _ h1 => absurd ((up_self b 13).symm.trans h1) (by decide), fun _ => ho, fun h0 h1 => R_other (QV4 h0 h1) hg hrow (by decide), fun h0 => R_other (QU4 h0) hg hrow (by decide), fun h0 h1 => R_other (QV5 h0 h1) hg hrow (by decide), fun h0 => R_other (QU5 h0) hg hrow (by decide), fun h0 => absurd ((hoff 22 (by kernel_rfl)).symm.trans h0) (by decide), fun h0 => absurd ((hoff 23 (by kernel_rfl)).symm.trans h0) (by decide)⟩
    refine steps_cons ?_ ?_
    · rintro b a w' ⟨v1, v2, v3, v4, v5, u1, u2, u3, u4, u5, m, f, ha, Q1, Q2, QB, F1, F2, QV1, QU1, QV2, QU2, QV3, QU3, QV4, QU4, QV5, QU5, QM, QE⟩ hb_ hon hoff
      refine ⟨_, rfl, fun K hK => ?_⟩
      replace ha := Aside0.mk ha
      have hw_ := QB.size
      refine Kd.R_lit_step (Kd.int .i64) _ 3 ?hg (N := 17) ?hd (xs := ([] : List Int)) (inner := []) (ok := fun _ => True) (okp := fun _ => True) ?hr ?hp (fun _ hk => hk) trivial (Below.refl _ _) (Nat.le_refl _) (by simp) ?_
      (case hd => rfl); (case hg => rfl); (case hr => first | (go_simp; done) | (go_simp; rfl)); (case hp => exact (Reps.none _ _))
      intro vn wn ho hb hg_ hnew_
      clear hg_ hnew_
      have hsz := hb.size
      have l1 := blk_lt Q1
      have l2 := blk_lt (Q2 (hoff 23 (by kernel_rfl)))
      refine hK.out _ _ ⟨v1, v2, v3, vn, v5, u1, u2, u3, u4, u5, m, (fun k => if k < w'.heap.size then f k else 4), (by rw [ha.out]; exact putSel_upk 10 hb_ rfl rfl rfl), blk_below Q1 hb, fun h0 => blk_below (Q2 h0) hb, below_step QB hb, (by show (if g1 < w'.heap.size then f g1 else 4) = 0; rw [if_pos l1]; exact F1), (by show (if g2 < w'.heap.size then f g2 else 4) = 0; rw [if_pos l2]; exact F2), fun h0 h1 => R_fresh (QV1 h0 h1) hb, fun h0 => R_fresh (QU1 h0) hb, fun h0 h1 => R_fresh (QV2 h0 h1) hb, fun h0 => R_fresh (QU2 h0) hb, fun h0 h1 => R_fresh (QV3 h0 h1) hb, fun h0 => R_fresh (QU3 h0) hb, fun _ _ => R_own_new ho hw_, fun h0 => absurd ((hoff 17 (by kernel_rfl)).symm.trans h0) (by decide), fun h0 h1 => R_fresh (QV5 h0 h1) hb, fun h0 => R_fresh (QU5 h0) hb, fun h0 => absurd ((hoff 22 (by kernel_rfl)).symm.trans h0) (by decide), fun h0 => absurd ((hoff 23 (by kernel_rfl)).symm.trans h0) (by decide)⟩
    refine steps_cons ?_ ?_
    · rintro b a w' ⟨v1, v2, v3, v4, v5, u1, u2, u3, u4, u5, m, f, ha, Q1, Q2, QB, F1, F2, QV1, QU1, QV2, QU2, QV3, QU3, QV4, QU4, QV5, QU5, QM, QE⟩ hb_ hon hoff
      refine ⟨_, rfl, fun K hK => ?_⟩
      have e18_ : a.tmps[18]? = some (.pointer (some ⟨g1, 4, none⟩)) := by rw [ha]; exact (putSel_off rfl).trans rfl
      replace ha := Aside0.mk ha
      have hc_ : w'.cell? ⟨g1, 4, none⟩ = some (.slice A4 F.f4.length c4) := (blk_cell Q1 4).trans rfl
      refine value_ (w1 := w') (v := .slice A4 F.f4.length c4) (by rfl) rfl ?_ ?_
      · go_simp
        (try simp only [i64_w]); try rfl
      refine hK.out _ _ ⟨v1, v2, v3, v4, v5, u1, u2, u3, u4, u5, m, f, (by rw [ha.out]; exact putSel_upk 11 hb_ rfl rfl rfl), Q1, Q2, QB, F1, F2, QV1, QU1, QV2, QU2, QV3, QU3, QV4, fun h0 => absurd ((hoff 17 (by kernel_rfl)).symm.trans h0) (by decide), QV5, QU5, fun h0 => absurd ((hoff 22 (by kernel_rfl)).symm.trans h0) (by decide), fun h0 => absurd ((hoff 23 (by kernel_rfl)).symm.trans h0) (by decide)⟩
    refine steps_cons ?_ ?_
    · rintro b a w' ⟨v1, v2, v3, v4, v5, u1, u2, u3, u4, u5, m, f, ha, Q1, Q2, QB, F1, F2, QV1, QU1, QV2, QU2, QV3, QU3, QV4, QU4, QV5, QU5, QM, QE⟩ hb_ hon hoff
      refine ⟨_, rfl, fun K hK => ?_⟩
      have e17_ : a.tmps[17]? = some (v4) := by rw [ha]; exact putSel_on (e := (14, 17, v4)) 10 rfl rfl (hon 14 (by kernel_rfl)) rfl
      have e19_ : a.tmps[19]? = some (.slice A4 F.f4.length c4) := by rw [ha]; exact putSel_on (e := (16, 19, .slice A4 F.f4.length c4)) 11 rfl rfl (hon 16 (by kernel_rfl)) rfl
      replace ha := Aside0.mk ha
      have ho_ := QV4 (hon 14 (by kernel_rfl)) hb_
      have hw_ := QB.size
      refine Kd.R_append_rows_step (Kd.int .i64) (w0 := w) w.heap.size (by rfl) (.tmp 17) (.tmp 19) 36 3 (.int .i64 0) 8 rfl Try.underlying36 OFnExactShelfFunc.info3 rfl (by decide) (by omega) v4 ([] : List Int) F.f4 _ _ _ (fun k => (if k < w'.heap.size then f k else 4) = 4) (fun _ => False) (eval_of e17_) (eval_of e19_) ?aO ?aR (fun _ _ h => h) (fun _ h => h.elim) ?aF ?aB ?aS ?aL ?_
      case aR => exact Kd.C_below H4.out QB
      case aB => exact QB
      case aF => exact fun k hk => if_neg (Nat.not_lt.2 hk)
      case aO => exact Kd.R_mono (Kd.R_bound ho_) (fun k hk => by rw [if_pos hk.2.2.1]; exact hk.1)
      case aS => exact hw_
      case aL => have := HL.out; simp; omega
      intro vn wn ho hb hg hat
      rw [List.nil_append] at ho
      have hrow : ∀ k, v4.ownBlock = some k → f k = 4 := fun k hk => ho_.1 k hk
      have l1 := blk_lt Q1
      have l2 := blk_lt (Q2 (hoff 23 (by kernel_rfl)))
      refine hK.out _ _ ⟨v1, v2, v3, v4, v5, u1, u2, u3, vn, u5, m, (fun k => if k < w'.heap.size then f k else 4), (by rw [ha.out]; exact putSel_upk 12 hb_ rfl rfl rfl), blk_grown Q1 hg (fun he => by have := hrow _ he.symm; omega), fun h0 => blk_grown (Q2 h0) hg (fun he => by have := hrow _ he.symm; omega), hb, (by show (if g1 < w'.heap.size then f g1 else 4) = 0; rw [if_pos l1]; exact F1), (by show (if g2 < w'.heap.size then f g2 else 4) = 0; rw [if_pos l2]; exact F2), fun h0 h1 => R_other (QV1 h0 h1) hg hrow (by decide), fun h0 => R_other (QU1 h0) hg hrow (by decide), fun h0 h1 => R_other (QV2 h0 h1) hg hrow (by decide), fun h0 => R_other (QU2 h0) hg hrow (by decide), fun h0 h1 => R_other (QV3 h0 h1) hg hrow (by decide), fun h0 => R_other (QU3 h0) hg hrow (by decide), fun _ h1 => absurd ((up_self b 17).symm.trans h1) (by decide), fun _ => ho, fun h0 h1 => R_other (QV5 h0 h1) hg hrow (by decide), fun h0 => R_other (QU5 h0) hg hrow (by decide), fun h0 => absurd ((hoff 22 (by kernel_rfl)).symm.trans h0) (by decide), fun h0 => absurd ((hoff 23 (by kernel_rfl)).symm.trans h0) (by decide)⟩
    refine steps_cons ?_ ?_
    · rintro b a w' ⟨v1, v2, v3, v4, v5, u1, u2, u3, u4, u5, m, f, ha, Q1, Q2, QB, F1, F2, QV1, QU1, QV2, QU2, QV3, QU3, QV4, QU4, QV5, QU5, QM, QE⟩ hb_ hon hoff
      refine ⟨_, rfl, fun K hK => ?_⟩
      replace ha := Aside0.mk ha
      have hw_ := QB.size
      refine Kd.R_lit_step k83 _ 83 ?hg (N := 21) ?hd (xs := ([] : List OFnExactShelfFunc.S83)) (inner := []) (ok := fun _ => True) (okp := fun _ => True) ?hr ?hp (fun _ hk => hk) trivial (Below.refl _ _) (Nat.le_refl _) (by simp) ?_
      (case hd => rfl); (case hg => rfl); (case hr => first | (go_simp; done) | (go_simp; rfl)); (case hp => exact (Reps.none _ _))
      intro vn wn ho hb hg_ hnew_
      clear hg_ hnew_
      have hsz := hb.size
      have l1 := blk_lt Q1
      have l2 := blk_lt (Q2 (hoff 23 (by kernel_rfl)))
      refine hK.out _ _ ⟨v1, v2, v3, v4, vn, u1, u2, u3, u4, u5, m, (fun k => if k < w'.heap.size then f k else 5), (by rw [ha.out]; exact putSel_upk 13 hb_ rfl rfl rfl), blk_below Q1 hb, fun h0 => blk_below (Q2 h0) hb, below_step QB hb, (by show (if g1 < w'.heap.size then f g1 else 5) = 0; rw [if_pos l1]; exact F1), (by show (if g2 < w'.heap.size then f g2 else 5) = 0; rw [if_pos l2]; exact F2), fun h0 h1 => R_fresh (QV1 h0 h1) hb, fun h0 => R_fresh (QU1 h0) hb, fun h0 h1 => R_fresh (QV2 h0 h1) hb, fun h0 => R_fresh (QU2 h0) hb, fun h0 h1 => R_fresh (QV3 h0 h1) hb, fun h0 => R_fresh (QU3 h0) hb, fun h0 h1 => R_fresh (QV4 h0 h1) hb, fun h0 => R_fresh (QU4 h0) hb, fun _ _ => R_own_new ho hw_, fun h0 => absurd ((hoff 21 (by kernel_rfl)).symm.trans h0) (by decide), fun h0 => absurd ((hoff 22 (by kernel_rfl)).symm.trans h0) (by decide), fun h0 => absurd ((hoff 23 (by kernel_rfl)).symm.trans h0) (by decide)⟩
    refine steps_cons ?_ ?_
    · rintro b a w' ⟨v1, v2, v3, v4, v5, u1, u2, u3, u4, u5, m, f, ha, Q1, Q2, QB, F1, F2, QV1, QU1, QV2, QU2, QV3, QU3, QV4, QU4, QV5, QU5, QM, QE⟩ hb_ hon hoff
      refine ⟨_, rfl, fun K hK => ?_⟩
      have e22_ : a.tmps[22]? = some (.pointer (some ⟨g1, 5, none⟩)) := by rw [ha]; exact (putSel_off rfl).trans rfl
      replace ha := Aside0.mk ha
      have hc_ : w'.cell? ⟨g1, 5, none⟩ = some (.slice A5 F.f5.length c5) := (blk_cell Q1 5).trans rfl
      refine value_ (w1 := w') (v := .slice A5 F.f5.length c5) (by rfl) rfl ?_ ?_
      · go_simp
        (try simp only [i64_w]); try rfl
      refine hK.out _ _ ⟨v1, v2, v3, v4, v5, u1, u2, u3, u4, u5, m, f, (by rw [ha.out]; exact putSel_upk 14 hb_ rfl rfl rfl), Q1, Q2, QB, F1, F2, QV1, QU1, QV2, QU2, QV3, QU3, QV4, QU4, QV5, fun h0 => absurd ((hoff 21 (by kernel_rfl)).symm.trans h0) (by decide), fun h0 => absurd ((hoff 22 (by kernel_rfl)).symm.trans h0) (by decide), fun h0 => absurd ((hoff 23 (by kernel_rfl)).symm.trans h0) (by decide)⟩
    refine steps_cons ?_ ?_
    · rintro b a w' ⟨v1, v2, v3, v4, v5, u1, u2, u3, u4, u5, m, f, ha, Q1, Q2, QB, F1, F2, QV1, QU1, QV2, QU2, QV3, QU3, QV4, QU4, QV5, QU5, QM, QE⟩ hb_ hon hoff
      refine ⟨_, rfl, fun K hK => ?_⟩
      have e21_ : a.tmps[21]? = some (v5) := by rw [ha]; exact putSel_on (e := (18, 21, v5)) 13 rfl rfl (hon 18 (by kernel_rfl)) rfl
      have e23_ : a.tmps[23]? = some (.slice A5 F.f5.length c5) := by rw [ha]; exact putSel_on (e := (20, 23, .slice A5 F.f5.length c5)) 14 rfl rfl (hon 20 (by kernel_rfl)) rfl
      replace ha := Aside0.mk ha
      have ho_ := QV5 (hon 18 (by kernel_rfl)) hb_
      have hw_ := QB.size
      refine Kd.R_append_rows_step k83 (w0 := w) w.heap.size (by rfl) (.tmp 21) (.tmp 23) 37 83 (.agg #[.string ⟨#[]⟩, .int .i64 0, .int .i64 0]) 32 rfl Try.underlying37 OFnExactShelfFunc.info83 rfl (by decide) (by omega) v5 ([] : List OFnExactShelfFunc.S83) F.f5 _ _ _ (fun k => (if k < w'.heap.size then f k else 5) = 5) (fun _ => False) (eval_of e21_) (eval_of e23_) ?aO ?aR (fun _ _ h => h) (fun _ h => h.elim) ?aF ?aB ?aS ?aL ?_
      case aR => exact Kd.C_below H5.out QB
      case aB => exact QB
      case aF => exact fun k hk => if_neg (Nat.not_lt.2 hk)
      case aO => exact Kd.R_mono (Kd.R_bound ho_) (fun k hk => by rw [if_pos hk.2.2.1]; exact hk.1)
      case aS => exact hw_
      case aL => have := HL.out; simp; omega
      intro vn wn ho hb hg hat
      rw [List.nil_append] at ho
      have hrow : ∀ k, v5.ownBlock = some k → f k = 5 := fun k hk => ho_.1 k hk
      have l1 := blk_lt Q1
      have l2 := blk_lt (Q2 (hoff 23 (by kernel_rfl)))
      refine hK.out _ _ ⟨v1, v2, v3, v4, v5, u1, u2, u3, u4, vn, m, (fun k => if k < w'.heap.size then f k else 5), (by rw [ha.out]; exact putSel_upk 15 hb_ rfl rfl rfl), blk_grown Q1 hg (fun he => by have := hrow _ he.symm; omega), fun h0 => blk_grown (Q2 h0) hg (fun he => by have := hrow _ he.symm; omega), hb, (by show (if g1 < w'.heap.size then f g1 else 5) = 0; rw [if_pos l1]; exact F1), (by show (if g2 < w'.heap.size then f g2 else 5) = 0; rw [if_pos l2]; exact F2), fun h0 h1 => R_other (QV1 h0 h1) hg hrow (by decide), fun h0 => R_other (QU1 h0) hg hrow (by decide), fun h0 h1 => R_other (QV2 h0 h1) hg hrow (by decide), fun h0 => R_other (QU2 h0) hg hrow (by decide), fun h0 h1 => R_other (QV3 h0 h1) hg hrow (by decide), fun h0 => R_other (QU3 h0) hg hrow (by decide), fun h0 h1 => R_other (QV4 h0 h1) hg hrow (by decide), fun h0 => R_other (QU4 h0) hg hrow (by decide), fun _ h1 => absurd ((up_self b 21).symm.trans h1) (by decide), fun _ => ho, fun h0 => absurd ((hoff 22 (by kernel_rfl)).symm.trans h0) (by decide), fun h0 => absurd ((hoff 23 (by kernel_rfl)).symm.trans h0) (by decide)⟩
    refine steps_cons ?_ ?_
    · rintro b a w' ⟨v1, v2, v3, v4, v5, u1, u2, u3, u4, u5, m, f, ha, Q1, Q2, QB, F1, F2, QV1, QU1, QV2, QU2, QV3, QU3, QV4, QU4, QV5, QU5, QM, QE⟩ hb_ hon hoff
      refine ⟨_, rfl, fun K hK => ?_⟩
      have e4_ : a.tmps[4]? = some (.int .i64 F.f0) := by rw [ha]; exact putSel_on (e := (1, 4, .int .i64 F.f0)) 0 rfl rfl (hon 1 (by kernel_rfl)) rfl
      have e8_ : a.tmps[8]? = some (u1) := by rw [ha]; exact putSel_on (e := (5, 8, u1)) 3 rfl rfl (hon 5 (by kernel_rfl)) rfl
      have e12_ : a.tmps[12]? = some (u2) := by rw [ha]; exact putSel_on (e := (9, 12, u2)) 6 rfl rfl (hon 9 (by kernel_rfl)) rfl
      have e16_ : a.tmps[16]? = some (u3) := by rw [ha]; exact putSel_on (e := (13, 16, u3)) 9 rfl rfl (hon 13 (by kernel_rfl)) rfl
      have e20_ : a.tmps[20]? = some (u4) := by rw [ha]; exact putSel_on (e := (17, 20, u4)) 12 rfl rfl (hon 17 (by kernel_rfl)) rfl
      have e24_ : a.tmps[24]? = some (u5) := by rw [ha]; exact putSel_on (e := (21, 24, u5)) 15 rfl rfl (hon 21 (by kernel_rfl)) rfl
      replace ha := Aside0.mk ha
      obtain ⟨D1, x1, eo_⟩ := Kd.R_slice (QU1 (hon 5 (by kernel_rfl)))
      subst eo_
      obtain ⟨D2, x2, eo_⟩ := Kd.R_slice (QU2 (hon 9 (by kernel_rfl)))
      subst eo_
      obtain ⟨D3, x3, eo_⟩ := Kd.R_slice (QU3 (hon 13 (by kernel_rfl)))
      subst eo_
      obtain ⟨D4, x4, eo_⟩ := Kd.R_slice (QU4 (hon 17 (by kernel_rfl)))
      subst eo_
      obtain ⟨D5, x5, eo_⟩ := Kd.R_slice (QU5 (hon 21 (by kernel_rfl)))
      subst eo_
      refine value_ (w1 := w') (v := .agg #[.int .i64 F.f0, .slice D1 F.f1.length x1, .slice D2 F.f2.length x2, .slice D3 F.f3.length x3, .slice D4 F.f4.length x4, .slice D5 F.f5.length x5]) (by rfl) rfl ?_ ?_
      · go_simp
        (try simp only [i64_w]); try rfl
      refine hK.out _ _ ⟨v1, v2, v3, v4, v5, .slice D1 F.f1.length x1, .slice D2 F.f2.length x2, .slice D3 F.f3.length x3, .slice D4 F.f4.length x4, .slice D5 F.f5.length x5, .agg #[.int .i64 F.f0, .slice D1 F.f1.length x1, .slice D2 F.f2.length x2, .slice D3 F.f3.length x3, .slice D4 F.f4.length x4, .slice D5 F.f5.length x5], f, (by rw [ha.out]; exact putSel_upk 16 hb_ rfl rfl rfl), Q1, Q2, QB, F1, F2, QV1, QU1, QV2, QU2, QV3, QU3, QV4, QU4, QV5, QU5, fun _ => rfl, fun h0 => absurd ((hoff 23 (by kernel_rfl)).symm.trans h0) (by decide)⟩
    refine steps_cons ?_ ?_
    · rintro b a w' ⟨v1, v2, v3, v4, v5, u1, u2, u3, u4, u5, m, f, ha, Q1, Q2, QB, F1, F2, QV1, QU1, QV2, QU2, QV3, QU3, QV4, QU4, QV5, QU5, QM, QE⟩ hb_ hon hoff
      refine ⟨_, rfl, fun K hK => ?_⟩
      have hfar_ : ∀ (W : World) (k : Nat) (t0 t1 t2 t3 t4 t5 : Value), k ≠ g2 → ((((((W.setCell ⟨g2, 0, none⟩ t0).setCell ⟨g2, 1, none⟩ t1).setCell ⟨g2, 2, none⟩ t2).setCell ⟨g2, 3, none⟩ t3).setCell ⟨g2, 4, none⟩ t4).setCell ⟨g2, 5, none⟩ t5).heap[k]? = W.heap[k]? := fun W k t0 t1 t2 t3 t4 t5 h => by rw [Below.heap_setCell _ _ _ k h, Below.heap_setCell _ _ _ k h, Below.heap_setCell _ _ _ k h, Below.heap_setCell _ _ _ k h, Below.heap_setCell _ _ _ k h, Below.heap_setCell _ _ _ k h]
      have e2_ : a.tmps[2]? = some (.pointer (some ⟨g2, 0, none⟩)) := by rw [ha]; exact (putSel_off rfl).trans rfl
      have e25_ : a.tmps[25]? = some m := by rw [ha]; exact putSel_on (e := (22, 25, m)) 16 rfl rfl (hon 22 (by kernel_rfl)) rfl
      rw [QM (hon 22 (by kernel_rfl))] at e25_
      replace ha := Aside0.mk ha
      have BK2 := Aside0.mk (Q2 hb_)
      obtain ⟨D1, x1, eo_⟩ := Kd.R_slice (QU1 (hon 5 (by kernel_rfl)))
      subst eo_
      obtain ⟨D2, x2, eo_⟩ := Kd.R_slice (QU2 (hon 9 (by kernel_rfl)))
      subst eo_
      obtain ⟨D3, x3, eo_⟩ := Kd.R_slice (QU3 (hon 13 (by kernel_rfl)))
      subst eo_
      obtain ⟨D4, x4, eo_⟩ := Kd.R_slice (QU4 (hon 17 (by kernel_rfl)))
      subst eo_
      obtain ⟨D5, x5, eo_⟩ := Kd.R_slice (QU5 (hon 21 (by kernel_rfl)))
      subst eo_
      have hs0 := Up.c0 BK2
      have hf0 := blk_frozen BK2.out 0
      have hs1 := Up.c1 BK2
      have hf1 := blk_frozen BK2.out 1
      have hs2 := Up.c2 BK2
      have hf2 := blk_frozen BK2.out 2
      have hs3 := Up.c3 BK2
      have hf3 := blk_frozen BK2.out 3
      have hs4 := Up.c4 BK2
      have hf4 := blk_frozen BK2.out 4
      have hs5 := Up.c5 BK2
      have hf5 := blk_frozen BK2.out 5
      refine skip_ (w1 := ?_) (by rfl) rfl ?_ ?_
      rotate_left
      · go_simp
        rfl
      refine hK.out _ _ ⟨v1, v2, v3, v4, v5, .slice D1 F.f1.length x1, .slice D2 F.f2.length x2, .slice D3 F.f3.length x3, .slice D4 F.f4.length x4, .slice D5 F.f5.length x5, m, f, (by rw [ha.out]; exact putSel_none (v := undef) rfl), (hfar_ _ g1 _ _ _ _ _ _ NG.out).trans Q1, fun h0 => absurd ((up_self b 23).symm.trans h0) (by decide), (Up.By (Aside0.mk QB) GW.out), F1, F2, fun _ h1 => absurd ((hon 5 (by kernel_rfl)).symm.trans h1) (by decide), fun h0 => Kd.R_step (QU1 h0) (fun k hk _ => hfar_ _ k _ _ _ _ _ _ (fun e => by rw [e, F2] at hk; cases hk)), fun _ h1 => absurd ((hon 9 (by kernel_rfl)).symm.trans h1) (by decide), fun h0 => Kd.R_step (QU2 h0) (fun k hk _ => hfar_ _ k _ _ _ _ _ _ (fun e => by rw [e, F2] at hk; cases hk)), fun _ h1 => absurd ((hon 13 (by kernel_rfl)).symm.trans h1) (by decide), fun h0 => Kd.R_step (QU3 h0) (fun k hk _ => hfar_ _ k _ _ _ _ _ _ (fun e => by rw [e, F2] at hk; cases hk)), fun _ h1 => absurd ((hon 17 (by kernel_rfl)).symm.trans h1) (by decide), fun h0 => Kd.R_step (QU4 h0) (fun k hk _ => hfar_ _ k _ _ _ _ _ _ (fun e => by rw [e, F2] at hk; cases hk)), fun _ h1 => absurd ((hon 21 (by kernel_rfl)).symm.trans h1) (by decide), fun h0 => Kd.R_step (QU5 h0) (fun k hk _ => hfar_ _ k _ _ _ _ _ _ (fun e => by rw [e, F2] at hk; cases hk)), QM, fun _ => Up.Kx BK2⟩
    exact steps_nil
  · rintro b a w' hall ⟨v1, v2, v3, v4, v5, u1, u2, u3, u4, u5, m, f, ha, Q1, Q2, QB, F1, F2, QV1, QU1, QV2, QU2, QV3, QU3, QV4, QU4, QV5, QU5, QM, QE⟩
    clear BK1 BK2 HB
    have hC1 := QU1 (hall 5 (by kernel_rfl))
    obtain ⟨D1, x1, eo1⟩ := Kd.R_slice hC1
    have hC2 := QU2 (hall 9 (by kernel_rfl))
    obtain ⟨D2, x2, eo2⟩ := Kd.R_slice hC2
    have hC3 := QU3 (hall 13 (by kernel_rfl))
    obtain ⟨D3, x3, eo3⟩ := Kd.R_slice hC3
    have hC4 := QU4 (hall 17 (by kernel_rfl))
    obtain ⟨D4, x4, eo4⟩ := Kd.R_slice hC4
    have hC5 := QU5 (hall 21 (by kernel_rfl))
    obtain ⟨D5, x5, eo5⟩ := Kd.R_slice hC5
    have hE := QE (hall 23 (by kernel_rfl))
    subst eo1
    subst eo2
    subst eo3
    subst eo4
    subst eo5
    obtain rfl := QM (hall 22 (by kernel_rfl))
    have hb1_ := hall 1 (by kernel_rfl)
    have hb2_ := hall 2 (by kernel_rfl)
    have hb4_ := hall 4 (by kernel_rfl)
    have hb5_ := hall 5 (by kernel_rfl)
    have hb6_ := hall 6 (by kernel_rfl)
    have hb8_ := hall 8 (by kernel_rfl)
    have hb9_ := hall 9 (by kernel_rfl)
    have hb10_ := hall 10 (by kernel_rfl)
    have hb12_ := hall 12 (by kernel_rfl)
    have hb13_ := hall 13 (by kernel_rfl)
    have hb14_ := hall 14 (by kernel_rfl)
    have hb16_ := hall 16 (by kernel_rfl)
    have hb17_ := hall 17 (by kernel_rfl)
    have hb18_ := hall 18 (by kernel_rfl)
    have hb20_ := hall 20 (by kernel_rfl)
    have hb21_ := hall 21 (by kernel_rfl)
    have hb22_ := hall 22 (by kernel_rfl)
    have hb23_ := hall 23 (by kernel_rfl)
    subst ha
    simp only [putSel, hb1_, hb2_, hb4_, hb5_, hb6_, hb8_, hb9_, hb10_, hb12_, hb13_, hb14_, hb16_, hb17_, hb18_, hb20_, hb21_, hb22_, hb23_, Act.put, List.setIfInBounds_toArray, List.set_cons_zero, List.set_cons_succ, if_true]
    have BE := Aside0.mk hE
    clear hE QM QE Q1 Q2 QV1 QU1 QV2 QU2 QV3 QU3 QV4 QU4 QV5 QU5 hall
    clear hb1_ hb2_ hb4_ hb5_ hb6_ hb8_ hb9_ hb10_ hb12_ hb13_ hb14_ hb16_ hb17_ hb18_ hb20_ hb21_ hb22_ hb23_
    have HC1 := Aside0.mk (Kd.R_mono hC1 (ok' := fun _ => True) (fun _ _ => trivial))
    clear hC1
    have HC2 := Aside0.mk (Kd.R_mono hC2 (ok' := fun _ => True) (fun _ _ => trivial))
    clear hC2
    have HC3 := Aside0.mk (Kd.R_mono hC3 (ok' := fun _ => True) (fun _ _ => trivial))
    clear hC3
    have HC4 := Aside0.mk (Kd.R_mono hC4 (ok' := fun _ => True) (fun _ _ => trivial))
    clear hC4
    have HC5 := Aside0.mk (Kd.R_mono hC5 (ok' := fun _ => True) (fun _ _ => trivial))
    clear hC5
    have HB := Aside0.mk QB
    clear QB
    (try go_wp2)
    refine bodyPost_ret (results_cell_row rfl _ _ g2 39 #[.int .i64 F.f0, .slice D1 F.f1.length x1, .slice D2 F.f2.length x2, .slice D3 F.f3.length x3, .slice D4 F.f4.length x4, .slice D5 F.f5.length x5] (0, 0) _ rfl BE.out Try.underlying39 rfl (by kernel_rfl)) rfl ?_
    exact ⟨D1, D2, D3, D4, D5, x1, x2, x3, x4, x5, rfl, HC1.out, HC2.out, HC3.out, HC4.out, HC5.out, HB.out⟩
set_option maxHeartbeats 1000000 in
set_option maxRecDepth 100000 in
theorem specFunc_yes (A0 : Option Addr) (c0 : Nat) (l0 : List S55) (a1 a2 : Int) (F : S39) (w : World) (hr0 : Kd.C k55 w A0 l0.length l0) (hc0 : l0.length ≤ c0) (hF : isF l0 a1 a2 F) (hl : lensF F) (hhas : OFnExactShelfFunc.spec_l4Has.f l0 a1 a2 = some true) :
    Calls Try.prog 17 #[.slice A0 l0.length c0, .int .i64 a1, .int .i64 a2] w fun e w' => ∃ D1 D2 D3 D4 D5 e1 e2 e3 e4 e5, e = .returned (.tuple #[.agg #[.int .i64 F.f0, .slice D1 F.f1.length e1, .slice D2 F.f2.length e2, .slice D3 F.f3.length e3, .slice D4 F.f4.length e4, .slice D5 F.f5.length e5], .bool true]) ∧ Kd.R Kd.string 9 w' w.heap.size (fun _ => True) (.slice D1 F.f1.length e1) F.f1 ∧ Kd.R Kd.string 9 w' w.heap.size (fun _ => True) (.slice D2 F.f2.length e2) F.f2 ∧ Kd.R Kd.string 9 w' w.heap.size (fun _ => True) (.slice D3 F.f3.length e3) F.f3 ∧ Kd.R (Kd.int .i64) 3 w' w.heap.size (fun _ => True) (.slice D4 F.f4.length e4) F.f4 ∧ Kd.R k83 83 w' w.heap.size (fun _ => True) (.slice D5 F.f5.length e5) F.f5 ∧ Below w.heap.size w w' := by
  have hu_ := Try.underlying39
  obtain ⟨g0, g1, g2, g3, hFe⟩ := hF
  obtain ⟨ad, X0, y0, X1, y1, X2, y2, ea, hx0, hx1, hx2, _, _, hl1, hi1, _, _⟩ := OFnExactShelfFunc.at_T55 hr0 a1 g0 g1
  obtain ⟨ad2, A1, c1, A2, c2, A3, c3, A4, c4, A5, c5, eb, hy0, hy1, hy2, hy3, hy4, hy5, m1, n1, m2, n2, m3, n3, m4, n4, m5, n5⟩ := OFnExactShelfFunc.at_T39 hi1 a2 g2 g3
  rw [← hFe] at hy0 hy1 hy2 hy3 hy4 hy5 m1 n1 m2 n2 m3 n3 m4 n4 m5 n5
  subst ea
  subst eb
  generalize (OFnExactShelfFunc.rd_T55 l0 a1).f1.length = fl at g3 hx1
  have HC := Aside0.mk (And.intro n1 (And.intro n2 (And.intro n3 (And.intro n4 n5))))
  have HL := Aside0.mk hl
  have HH := Aside0.mk hhas
  have HR := Aside0.mk hr0
  have d5 : (0 ≤ a1) = True := eq_true g0
  have d6 : (a1 < (l0.length : Int)) = True := eq_true g1
  have d7 : (0 ≤ a2) = True := eq_true g2
  have d8 : (a2 < (fl : Int)) = True := eq_true g3
  have HB := Aside0.mk (Below.refl w.heap.size w)
  clear hx0 hx2 hr0 hi1 hFe hl n1 n2 n3 n4 n5 hhas
  go_enter Try.func17, Try.ntmps17
  go_wp2_with (first
    | ((with_reducible refine gate_dst (N := 6) rfl ?_); (try (refine gate_guard (by rfl) ?_; dsimp only)); refine Up.bx 6 39 #[.int .i64 0, .slice none 0 0, .slice none 0 0, .slice none 0 0, .slice none 0 0, .slice none 0 0] ?_; intro g hg w1 hbox hb; have BK := Aside0.mk hbox; have GW := Aside0.mk (show w.heap.size ≤ g by rw [hg]; exact HB.out.size)
       replace hx1 := (hb.cell (World.block_lt_of_cell? _ _ hx1)).trans hx1; replace hy0 := (hb.cell (World.block_lt_of_cell? _ _ hy0)).trans hy0; replace hy1 := (hb.cell (World.block_lt_of_cell? _ _ hy1)).trans hy1; replace hy2 := (hb.cell (World.block_lt_of_cell? _ _ hy2)).trans hy2; replace hy3 := (hb.cell (World.block_lt_of_cell? _ _ hy3)).trans hy3; replace hy4 := (hb.cell (World.block_lt_of_cell? _ _ hy4)).trans hy4; replace hy5 := (hb.cell (World.block_lt_of_cell? _ _ hy5)).trans hy5
       replace HB := Aside0.mk (below_step HB.out hb); clear hg hbox hb)
    | (go_at_call 23; refine (OFnExactShelfFunc.spec_l4Has.calls _ c0 l0 a1 a2 true _ (Kd.C_below HR.out HB.out) hc0 HH.out).mono ?_; rintro e w2 ⟨rfl, hd⟩; (have hb := hd.below); (replace hx1 := (hb.cell (World.block_lt_of_cell? _ _ hx1)).trans hx1; replace hy0 := (hb.cell (World.block_lt_of_cell? _ _ hy0)).trans hy0; replace hy1 := (hb.cell (World.block_lt_of_cell? _ _ hy1)).trans hy1; replace hy2 := (hb.cell (World.block_lt_of_cell? _ _ hy2)).trans hy2; replace hy3 := (hb.cell (World.block_lt_of_cell? _ _ hy3)).trans hy3; replace hy4 := (hb.cell (World.block_lt_of_cell? _ _ hy4)).trans hy4; replace hy5 := (hb.cell (World.block_lt_of_cell? _ _ hy5)).trans hy5); replace BK := Aside0.mk (blk_below BK.out hb); replace HB := Aside0.mk (below_step HB.out hb); clear hd hb)
    | (go_at_call 36; fail))
  refine (l4Copy_own F A1 A2 A3 A4 A5 c1 c2 c3 c4 c5 _ (Kd.C_below HC.out.1 HB.out) m1 (Kd.C_below HC.out.2.1 HB.out) m2 (Kd.C_below HC.out.2.2.1 HB.out) m3 (Kd.C_below HC.out.2.2.2.1 HB.out) m4 (Kd.C_below HC.out.2.2.2.2 HB.out) m5 HL.out).mono ?_
  rintro e w3 ⟨D1, D2, D3, D4, D5, e1, e2, e3, e4, e5, rfl, q1, q2, q3, q4, q5, hb⟩
  have GL := Aside0.mk (blk_lt BK.out)
  replace BK := Aside0.mk (blk_below BK.out hb)
  have HBW := Aside0.mk HB.out.size
  have HQ := Aside0.mk (And.intro q1 (And.intro q2 (And.intro q3 (And.intro q4 q5))))
  replace HB := Aside0.mk (below_step HB.out hb)
  clear hb q1 q2 q3 q4 q5 hx1 hy0 hy1 hy2 hy3 hy4 hy5
  have hs0 := Up.c0 BK
  have hf0 := blk_frozen BK.out 0
  have hs1 := Up.c1 BK
  have hf1 := blk_frozen BK.out 1
  have hs2 := Up.c2 BK
  have hf2 := blk_frozen BK.out 2
  have hs3 := Up.c3 BK
  have hf3 := blk_frozen BK.out 3
  have hs4 := Up.c4 BK
  have hf4 := blk_frozen BK.out 4
  have hs5 := Up.c5 BK
  have hf5 := blk_frozen BK.out 5
  go_wp2
  refine bodyPost_ret (results_ct rfl _ _ g 39 #[.int .i64 F.f0, .slice D1 F.f1.length e1, .slice D2 F.f2.length e2, .slice D3 F.f3.length e3, .slice D4 F.f4.length e4, .slice D5 F.f5.length e5] (0, 0) _ rfl (Up.Kx BK) Try.underlying39 rfl (by kernel_rfl)) rfl ?_
  have hfar : ∀ (W : World) (k : Nat) (u0 u1 u2 u3 u4 u5 : Value), k ≠ g → ((((((W.setCell ⟨g, 0, none⟩ u0).setCell ⟨g, 1, none⟩ u1).setCell ⟨g, 2, none⟩ u2).setCell ⟨g, 3, none⟩ u3).setCell ⟨g, 4, none⟩ u4).setCell ⟨g, 5, none⟩ u5).heap[k]? = W.heap[k]? := fun W k u0 u1 u2 u3 u4 u5 h => by rw [Below.heap_setCell _ _ _ k h, Below.heap_setCell _ _ _ k h, Below.heap_setCell _ _ _ k h, Below.heap_setCell _ _ _ k h, Below.heap_setCell _ _ _ k h, Below.heap_setCell _ _ _ k h]
  have h := GW.out
  have hg := GL.out
  have hw := HBW.out
  refine ⟨D1, D2, D3, D4, D5, e1, e2, e3, e4, e5, rfl, Kd.R_mono (Kd.R_lower (Kd.R_step (Kd.R_bound HQ.out.1) (fun k hk _ => hfar _ k _ _ _ _ _ _ (by have := hk.2.1; omega))) hw) (fun _ _ => trivial), Kd.R_mono (Kd.R_lower (Kd.R_step (Kd.R_bound HQ.out.2.1) (fun k hk _ => hfar _ k _ _ _ _ _ _ (by have := hk.2.1; omega))) hw) (fun _ _ => trivial), Kd.R_mono (Kd.R_lower (Kd.R_step (Kd.R_bound HQ.out.2.2.1) (fun k hk _ => hfar _ k _ _ _ _ _ _ (by have := hk.2.1; omega))) hw) (fun _ _ => trivial), Kd.R_mono (Kd.R_lower (Kd.R_step (Kd.R_bound HQ.out.2.2.2.1) (fun k hk _ => hfar _ k _ _ _ _ _ _ (by have := hk.2.1; omega))) hw) (fun _ _ => trivial), Kd.R_mono (Kd.R_lower (Kd.R_step (Kd.R_bound HQ.out.2.2.2.2) (fun k hk _ => hfar _ k _ _ _ _ _ _ (by have := hk.2.1; omega))) hw) (fun _ _ => trivial), ?_⟩
  exact (((((HB.out.setCell h _).setCell h _).setCell h _).setCell h _).setCell h _).setCell h _
set_option maxHeartbeats 1000000 in
set_option maxRecDepth 100000 in
theorem specFunc_no (A0 : Option Addr) (c0 : Nat) (l0 : List S55) (a1 a2 : Int) (w : World) (hr0 : Kd.C k55 w A0 l0.length l0) (hc0 : l0.length ≤ c0) (hhas : OFnExactShelfFunc.spec_l4Has.f l0 a1 a2 = some false) :
    Calls Try.prog 17 #[.slice A0 l0.length c0, .int .i64 a1, .int .i64 a2] w fun e w' => e = .returned (.tuple #[.agg #[.int .i64 0, .slice none 0 0, .slice none 0 0, .slice none 0 0, .slice none 0 0, .slice none 0 0], .bool false]) ∧ Below w.heap.size w w' := by
  have hu_ := Try.underlying39
  have HH := Aside0.mk hhas
  have HR := Aside0.mk hr0
  have HB := Aside0.mk (Below.refl w.heap.size w)
  clear hr0 hhas
  go_enter Try.func17, Try.ntmps17
  go_wp2_with (first
    | ((with_reducible refine gate_dst (N := 6) rfl ?_); (try (refine gate_guard (by rfl) ?_; dsimp only)); refine Up.bx 6 39 #[.int .i64 0, .slice none 0 0, .slice none 0 0, .slice none 0 0, .slice none 0 0, .slice none 0 0] ?_; intro g hg w1 hbox hb; have BK := Aside0.mk hbox; have GW := Aside0.mk (show w.heap.size ≤ g by rw [hg]; exact HB.out.size); replace HB := Aside0.mk (below_step HB.out hb); clear hg hbox hb)
    | (go_at_call 23; refine (OFnExactShelfFunc.spec_l4Has.calls _ c0 l0 a1 a2 false _ (Kd.C_below HR.out HB.out) hc0 HH.out).mono ?_; rintro e w2 ⟨rfl, hd⟩; (have hb := hd.below); replace BK := Aside0.mk (blk_below BK.out hb); replace HB := Aside0.mk (below_step HB.out hb); clear hd hb; (have hs0 := Up.c0 BK); (have hf0 := blk_frozen BK.out 0); (have hs1 := Up.c1 BK); (have hf1 := blk_frozen BK.out 1); (have hs2 := Up.c2 BK); (have hf2 := blk_frozen BK.out 2); (have hs3 := Up.c3 BK); (have hf3 := blk_frozen BK.out 3); (have hs4 := Up.c4 BK); (have hf4 := blk_frozen BK.out 4); (have hs5 := Up.c5 BK); (have hf5 := blk_frozen BK.out 5)))
  refine bodyPost_ret (results_ct rfl _ _ g 39 #[.int .i64 0, .slice none 0 0, .slice none 0 0, .slice none 0 0, .slice none 0 0, .slice none 0 0] (0, 0) _ rfl (Up.Kx BK) Try.underlying39 rfl (by kernel_rfl)) rfl ?_
  have h := GW.out
  exact ⟨rfl, (((((HB.out.setCell h _).setCell h _).setCell h _).setCell h _).setCell h _).setCell h _⟩
theorem nd_append {s r : List Slot} {P : Nat → Prop} (h1 : ∀ q ∈ s, P q.1) (h2 : ∀ q ∈ r, ¬ P q.1) (n1 : (s.map key).Nodup) (n2 : (r.map key).Nodup) : ((s ++ r).map key).Nodup := by
  rw [List.map_append, List.nodup_append]
  refine ⟨n1, n2, fun a ha b hb he => ?_⟩
  obtain ⟨q, hq, rfl⟩ := List.mem_map.1 ha
  obtain ⟨q', hq', rfl⟩ := List.mem_map.1 hb
  exact h2 q' hq' ((Prod.mk.inj he).1 ▸ h1 q hq)
theorem rows_last {α : Type} {d : Kd α} {t : Ty} {cnt : α → Nat} (hF : Fits True d t cnt) {e base : Nat} {ok : Nat → Prop} {w : World} {xs : List α} {cs : List Value} (h : (sl e d).M w base ok xs cs) :
    ∃ v s, cs = [v] ∧ RowOf (Cel w t) t.sz v s ∧ (∀ q ∈ s, ok q.1 ∧ base ≤ q.1) ∧ (s.map key).Nodup ∧ s.length = (xs.map cnt).sum := by
  obtain ⟨v, c, rfl, hl, hS⟩ := h
  obtain ⟨s, h1, h2, h3, h4⟩ := S_slots hF hS c hl
  exact ⟨_, s, rfl, h1, h2, h3, h4⟩
theorem rows_step {α β : Type} {d : Kd α} {b : Kd β} {t : Ty} {cnt : α → Nat} (hF : Fits True d t cnt) {e base : Nat} {ok : Nat → Prop} {w : World} {x : List α × β} {cs : List Value} (h : (pr (sl e d) b).M w base ok x cs) :
    ∃ (v : Value) (s : List Slot) (cs' : List Value) (p : Nat → Prop), cs = v :: cs' ∧ RowOf (Cel w t) t.sz v s ∧ (∀ q ∈ s, (ok q.1 ∧ p q.1) ∧ base ≤ q.1) ∧ (s.map key).Nodup ∧ s.length = (x.1.map cnt).sum ∧ b.M w base (fun k => ok k ∧ ¬ p k) x.2 cs' := by
  obtain ⟨c0, c1, rfl, p, h0, h1⟩ := h
  obtain ⟨v, s, rfl, h2, h3, h4, h5⟩ := rows_last hF h0
  exact ⟨v, s, c1, p, rfl, h2, h3, h4, h5, h1⟩
def cntIns (x : OFnExactShelfFunc.S83) : Nat := 1 + (1 + 1)
theorem fits_kIns (D : Prop) : Fits D k83 tyIns cntIns := by
  have h : Fits D k83 tyIns cntIns := ⟨rfl, fun w base ok x cs g o hM hc => by
    obtain rfl := OFnExactShelfFunc.k83_openM hM
    obtain ⟨a1, a2⟩ := hc 0 _ rfl
    obtain ⟨b1, b2⟩ := hc 1 _ rfl
    obtain ⟨d1, d2⟩ := hc 2 _ rfl
    refine ⟨[(g, o, true), (g, o + 1, false), (g, o + 1 + 1, false)], ⟨⟨_, a1⟩, a2, _, rfl, ⟨_, b1⟩, b2, _, rfl, ⟨_, d1⟩, d2, _, rfl, rfl⟩, fun p hp => .inl ?_, fun _ _ => ?_, rfl⟩
    · have hs : tyIns.sz = 3 := rfl
      rw [hs]
      simp only [List.mem_cons, List.not_mem_nil, or_false] at hp
      rcases hp with rfl | rfl | rfl <;> exact ⟨rfl, by dsimp only; omega, by dsimp only; omega⟩
    · simp [key] <;> omega⟩
  exact h
/-- The cells of a function's rows. -/
theorem FuncOwn.slots {w : World} {base : Nat} {F : S39} {v1 v2 v3 v4 v5 : Value} (h : FuncOwn w base F [v1, v2, v3, v4, v5]) :
    ∃ s1 s2 s3 s4 s5, RowOf (Cel w tyString) 1 v1 s1 ∧ RowOf (Cel w tyString) 1 v2 s2 ∧ RowOf (Cel w tyString) 1 v3 s3 ∧ RowOf (Cel w tyInt) 1 v4 s4 ∧ RowOf (Cel w tyIns) 3 v5 s5 ∧ (∀ q ∈ s1 ++ (s2 ++ (s3 ++ (s4 ++ s5))), base ≤ q.1) ∧ ((s1 ++ (s2 ++ (s3 ++ (s4 ++ s5)))).map key).Nodup ∧
      (s1 ++ (s2 ++ (s3 ++ (s4 ++ s5)))).length = (F.f1.map fun _ => 1).sum + ((F.f2.map fun _ => 1).sum + ((F.f3.map fun _ => 1).sum + ((F.f4.map fun _ => 1).sum + (F.f5.map cntIns).sum))) := by
  obtain ⟨w1, s1, r1, p1, e1, a1, b1, n1, l1, h⟩ := rows_step fits_str h
  obtain ⟨w2, s2, r2, p2, e2, a2, b2, n2, l2, h⟩ := rows_step fits_str h
  obtain ⟨w3, s3, r3, p3, e3, a3, b3, n3, l3, h⟩ := rows_step fits_str h
  obtain ⟨w4, s4, r4, p4, e4, a4, b4, n4, l4, h⟩ := rows_step fits_int h
  obtain ⟨w5, s5, e5, a5, b5, n5, l5⟩ := rows_last (fits_kIns True) h
  subst e5
  subst e4
  subst e3
  subst e2
  injection e1 with q1 e1
  injection e1 with q2 e1
  injection e1 with q3 e1
  injection e1 with q4 e1
  injection e1 with q5 e1
  subst q1 q2 q3 q4 q5
  refine ⟨s1, s2, s3, s4, s5, a1, a2, a3, a4, a5, fun q hq => ?_, ?_, by simp only [List.length_append, l1, l2, l3, l4, l5]⟩
  · simp only [List.mem_append] at hq
    rcases hq with hq | hq | hq | hq | hq
    · exact (b1 q hq).2
    · exact (b2 q hq).2
    · exact (b3 q hq).2
    · exact (b4 q hq).2
    · exact (b5 q hq).2
  · have c5 : ∀ q ∈ s5, ¬ p4 q.1 ∧ ¬ p3 q.1 ∧ ¬ p2 q.1 ∧ ¬ p1 q.1 := fun q hq => by have h := (b5 q hq).1; exact ⟨h.2, h.1.2, h.1.1.2, h.1.1.1.2⟩
    have c4 : ∀ q ∈ s4 ++ s5, ¬ p3 q.1 ∧ ¬ p2 q.1 ∧ ¬ p1 q.1 := fun q hq => by
      rcases List.mem_append.1 hq with hq | hq
      · have h := (b4 q hq).1; exact ⟨h.1.2, h.1.1.2, h.1.1.1.2⟩
      · exact (c5 q hq).2
    have c3 : ∀ q ∈ s3 ++ (s4 ++ s5), ¬ p2 q.1 ∧ ¬ p1 q.1 := fun q hq => by
      rcases List.mem_append.1 hq with hq | hq
      · have h := (b3 q hq).1; exact ⟨h.1.2, h.1.1.2⟩
      · exact (c4 q hq).2
    have c2 : ∀ q ∈ s2 ++ (s3 ++ (s4 ++ s5)), ¬ p1 q.1 := fun q hq => by
      rcases List.mem_append.1 hq with hq | hq
      · exact (b2 q hq).1.1.2
      · exact (c3 q hq).2
    exact nd_append (P := p1) (fun q hq => (b1 q hq).1.2) c2 n1 (nd_append (P := p2) (fun q hq => (b2 q hq).1.2) (fun q hq => (c3 q hq).1) n2 (nd_append (P := p3) (fun q hq => (b3 q hq).1.2) (fun q hq => (c4 q hq).1) n3 (nd_append (P := p4) (fun q hq => (b4 q hq).1.2) (fun q hq => (c5 q hq).1) n4 n5)))
/-- A function's rows, read. -/
def FuncC (w : World) (F : S39) (B1 B2 B3 B4 B5 : Option Addr) : Prop := Kd.C Kd.string w B1 F.f1.length F.f1 ∧ Kd.C Kd.string w B2 F.f2.length F.f2 ∧ Kd.C Kd.string w B3 F.f3.length F.f3 ∧ Kd.C (Kd.int .i64) w B4 F.f4.length F.f4 ∧ Kd.C k83 w B5 F.f5.length F.f5
theorem FuncOwn.reads {w : World} {base : Nat} {F : S39} {B1 B2 B3 B4 B5 : Option Addr} (h : FuncOwn w base F [.slice B1 F.f1.length F.f1.length, .slice B2 F.f2.length F.f2.length, .slice B3 F.f3.length F.f3.length, .slice B4 F.f4.length F.f4.length, .slice B5 F.f5.length F.f5.length]) : FuncC w F B1 B2 B3 B4 B5 := by
  obtain ⟨c1, r1, e1, ⟨A1, d1, rfl, _, h1⟩, c2, r2, rfl, ⟨A2, d2, rfl, _, h2⟩, c3, r3, rfl, ⟨A3, d3, rfl, _, h3⟩, c4, r4, rfl, ⟨A4, d4, rfl, _, h4⟩, ⟨A5, d5, rfl, _, h5⟩⟩ := kRowsF.K_of_M h
  injection e1 with q1 e1
  injection e1 with q2 e1
  injection e1 with q3 e1
  injection e1 with q4 e1
  injection e1 with q5 e1
  injection q1 with q1 _ _
  injection q2 with q2 _ _
  injection q3 with q3 _ _
  injection q4 with q4 _ _
  injection q5 with q5 _ _
  subst q1 q2 q3 q4 q5
  exact ⟨h1, h2, h3, h4, h5⟩
theorem FuncC.below {w w1 : World} {F : S39} {B1 B2 B3 B4 B5 : Option Addr} (h : FuncC w F B1 B2 B3 B4 B5) (hb : Below w.heap.size w w1) : FuncC w1 F B1 B2 B3 B4 B5 := ⟨Kd.C_below h.1 hb, Kd.C_below h.2.1 hb, Kd.C_below h.2.2.1 hb, Kd.C_below h.2.2.2.1 hb, Kd.C_below h.2.2.2.2 hb⟩
abbrev S60 := OFnExactShelfFunc.S60
abbrev k60 := OFnExactShelfFunc.k60
def cntRec (x : S60) : Nat := 1 + (x.f1.map fun _ => 1).sum
def cntFunc (x : S39) : Nat := 1 + ((x.f1.map fun _ => 1).sum + ((x.f2.map fun _ => 1).sum + ((x.f3.map fun _ => 1).sum + ((x.f4.map fun _ => 1).sum + (x.f5.map cntIns).sum))))
def cntMod (x : S55) : Nat := (x.f0.map cntRec).sum + ((x.f1.map cntFunc).sum + (x.f2.map fun _ => 1).sum)
theorem fits_kRec : Fits False k60 tyRecord cntRec := (fits_int_pair (fits_slice fits_str)).iso _
theorem fits_kFunc : Fits False OFnExactShelfFunc.k39 tyFunc cntFunc := (fits_int_pair (fits_slice_pair fits_str (fits_slice_pair fits_str (fits_slice_pair fits_str (fits_slice_pair fits_int (fits_slice (fits_kIns False))))))).iso _
theorem fits_kMod : Fits False k55 tyModule cntMod := (fits_slice_pair fits_kRec (fits_slice_pair fits_kFunc (fits_slice fits_int))).iso _
/-- What is asked for: F, and whether it is there. -/
def FB (l0 : List S55) (a1 a2 : Int) (F : S39) (b : Bool) : Prop := (b = true ∧ isF l0 a1 a2 F ∧ lensF F ∧ OFnExactShelfFunc.spec_l4Has.f l0 a1 a2 = some true) ∨ (b = false ∧ F = OFnExactShelfFunc.z39 ∧ noF l0 a1 a2 ∧ OFnExactShelfFunc.spec_l4Has.f l0 a1 a2 = some false)
def LE5 (F : S39) (e1 e2 e3 e4 e5 : Nat) : Prop := F.f1.length ≤ e1 ∧ F.f2.length ≤ e2 ∧ F.f3.length ≤ e3 ∧ F.f4.length ≤ e4 ∧ F.f5.length ≤ e5
theorem LE5.refl (F : S39) : LE5 F F.f1.length F.f2.length F.f3.length F.f4.length F.f5.length := ⟨Nat.le_refl _, Nat.le_refl _, Nat.le_refl _, Nat.le_refl _, Nat.le_refl _⟩
theorem specFunc_any (A0 : Option Addr) (c0 : Nat) (l0 : List S55) (a1 a2 : Int) (F : S39) (b : Bool) (w : World) (hr0 : Kd.C k55 w A0 l0.length l0) (hc0 : l0.length ≤ c0) (hF : FB l0 a1 a2 F b) :
    Calls Try.prog 17 #[.slice A0 l0.length c0, .int .i64 a1, .int .i64 a2] w fun e w' => ∃ D1 D2 D3 D4 D5 e1 e2 e3 e4 e5, e = .returned (.tuple #[.agg #[.int .i64 F.f0, .slice D1 F.f1.length e1, .slice D2 F.f2.length e2, .slice D3 F.f3.length e3, .slice D4 F.f4.length e4, .slice D5 F.f5.length e5], .bool b]) ∧ FuncC w' F D1 D2 D3 D4 D5 ∧ LE5 F e1 e2 e3 e4 e5 ∧ Below w.heap.size w w' := by
  rcases hF with ⟨rfl, h1, h2, h3⟩ | ⟨rfl, rfl, h1, h3⟩
  · refine (specFunc_yes A0 c0 l0 a1 a2 F w hr0 hc0 h1 h2 h3).mono ?_
    rintro e w' ⟨D1, D2, D3, D4, D5, e1, e2, e3, e4, e5, rfl, q1, q2, q3, q4, q5, hb⟩
    have p1 := (Kd.R_reads' q1).2
    have p2 := (Kd.R_reads' q2).2
    have p3 := (Kd.R_reads' q3).2
    have p4 := (Kd.R_reads' q4).2
    have p5 := (Kd.R_reads' q5).2
    exact ⟨D1, D2, D3, D4, D5, e1, e2, e3, e4, e5, rfl, ⟨p1.2, p2.2, p3.2, p4.2, p5.2⟩, ⟨p1.1, p2.1, p3.1, p4.1, p5.1⟩, hb⟩
  · refine (specFunc_no A0 c0 l0 a1 a2 w hr0 hc0 h3).mono ?_
    rintro e w' ⟨rfl, hb⟩
    exact ⟨none, none, none, none, none, 0, 0, 0, 0, 0, rfl, ⟨Kd.C_nil _ _, Kd.C_nil _ _, Kd.C_nil _ _, Kd.C_nil _ _, Kd.C_nil _ _⟩, ⟨Nat.le_refl _, Nat.le_refl _, Nat.le_refl _, Nat.le_refl _, Nat.le_refl _⟩, hb⟩
theorem shelfFunc_any (A0 : Option Addr) (c0 : Nat) (l0 : List S55) (a1 a2 : Int) (F : S39) (b : Bool) (w : World) (hr0 : Kd.C k55 w A0 l0.length l0) (hc0 : l0.length ≤ c0) (hF : FB l0 a1 a2 F b) :
    Calls Try.prog 18 #[.slice A0 l0.length c0, .int .i64 a1, .int .i64 a2] w fun e w' => ∃ B1 B2 B3 B4 B5, e = .returned (.tuple #[.agg #[.int .i64 F.f0, .slice B1 F.f1.length F.f1.length, .slice B2 F.f2.length F.f2.length, .slice B3 F.f3.length F.f3.length, .slice B4 F.f4.length F.f4.length, .slice B5 F.f5.length F.f5.length], .bool b]) ∧ FuncOwn w' w.heap.size F [.slice B1 F.f1.length F.f1.length, .slice B2 F.f2.length F.f2.length, .slice B3 F.f3.length F.f3.length, .slice B4 F.f4.length F.f4.length, .slice B5 F.f5.length F.f5.length] ∧ Below w.heap.size w w' := by
  rcases hF with ⟨rfl, h1, h2, h3⟩ | ⟨rfl, rfl, h1, h3⟩
  · exact shelfFunc_yes A0 c0 l0 a1 a2 F w hr0 hc0 h1 h2
  · refine (shelfFunc_no A0 c0 l0 a1 a2 w hr0 hc0 h1).mono ?_
    rintro e w' ⟨rfl, hb⟩
    exact ⟨none, none, none, none, none, rfl, FuncOwn.zero _ _, hb⟩
theorem eqF_any {F : S39} (hk : ∃ k, OFnExactShelfFunc.laws_eqFunc.f k F.f0 F.f1 F.f2 F.f3 F.f4 F.f5 F.f0 F.f1 F.f2 F.f3 F.f4 F.f5 = some true) (B1 B2 B3 B4 B5 D1 D2 D3 D4 D5 : Option Addr) (e1 e2 e3 e4 e5 : Nat) (W : World) (h1 : FuncC W F B1 B2 B3 B4 B5) (h2 : FuncC W F D1 D2 D3 D4 D5) (h3 : LE5 F e1 e2 e3 e4 e5) :
    Calls Try.prog 19 #[.agg #[.int .i64 F.f0, .slice B1 F.f1.length F.f1.length, .slice B2 F.f2.length F.f2.length, .slice B3 F.f3.length F.f3.length, .slice B4 F.f4.length F.f4.length, .slice B5 F.f5.length F.f5.length], .agg #[.int .i64 F.f0, .slice D1 F.f1.length e1, .slice D2 F.f2.length e2, .slice D3 F.f3.length e3, .slice D4 F.f4.length e4, .slice D5 F.f5.length e5]] W fun e w' => e = .returned (.bool true) ∧ Below W.heap.size W w' := by
  obtain ⟨k, hk⟩ := hk
  exact OFnExactShelfFunc.laws_eqFunc.calls k _ B1 _ _ B2 _ _ B3 _ _ B4 _ _ B5 _ _ _ D1 _ _ D2 _ _ D3 _ _ D4 _ _ D5 _ _ true W h1.1 (Nat.le_refl _) h1.2.1 (Nat.le_refl _) h1.2.2.1 (Nat.le_refl _) h1.2.2.2.1 (Nat.le_refl _) h1.2.2.2.2 (Nat.le_refl _) h2.1 h3.1 h2.2.1 h3.2.1 h2.2.2.1 h3.2.2.1 h2.2.2.2.1 h3.2.2.2.1 h2.2.2.2.2 h3.2.2.2.2 hk
/-- What the law's functions come to. -/
structure FuncFacts (l0 : List OFnExactShelfFunc.S49) (M : List S55) (a1 a2 : Int) (F : S39) (b : Bool) : Prop where
  to_ : ∃ k, OFnExactShelfFunc.laws_toModuleS.f k l0 = some M
  eqM : ∃ k, OFnExactShelfFunc.laws_eqModuleS.f k M M = some true
  eqF : ∃ k, OFnExactShelfFunc.laws_eqFunc.f k F.f0 F.f1 F.f2 F.f3 F.f4 F.f5 F.f0 F.f1 F.f2 F.f3 F.f4 F.f5 = some true
  fb : FB M a1 a2 F b
  cnt : (M.map cntMod).sum ≤ 8999998
  cntF : (F.f1.map fun _ => 1).sum + ((F.f2.map fun _ => 1).sum + ((F.f3.map fun _ => 1).sum + ((F.f4.map fun _ => 1).sum + (F.f5.map cntIns).sum))) ≤ 8999998
set_option maxHeartbeats 4000000 in
set_option maxRecDepth 100000 in
theorem law (A0 : Option Addr) (c0 : Nat) (l0 : List OFnExactShelfFunc.S49) (a1 a2 : Int) (w : World) (hr0 : Kd.C OFnExactShelfFunc.k49 w A0 l0.length l0) (hc0 : l0.length ≤ c0) (L : Int) (hL : ∃ k, OFnExactShelfFunc.laws_szModuleS.f k l0 1048576 = some L) (hM : 0 ≤ L → ∃ M F b, FuncFacts l0 M a1 a2 F b) :
    Calls Try.prog 5 #[.slice A0 l0.length c0, .int .i64 a1, .int .i64 a2] w fun e w' => e = .returned (.bool true) ∧ Below w.heap.size w w' := by
  obtain ⟨k1, h1⟩ := hL
  have hu_ := Try.underlying39
  have H1 := Aside0.mk h1
  have HR := Aside0.mk hr0
  have HB := Aside0.mk (Below.refl w.heap.size w)
  clear h1 hr0
  by_cases hneg : L < 0
  · go_enter Try.func5, Try.ntmps5
    go_wp2_with (go_at_call 6; refine (OFnExactShelfFunc.laws_szModuleS.calls k1 A0 c0 l0 1048576 L _ (Kd.C_below HR.out HB.out) hc0 H1.out).mono ?_; rintro e w1 ⟨rfl, hb⟩; replace HB := Aside0.mk (below_step HB.out hb); clear hb)
    go_ret
    exact ⟨rfl, HB.out⟩
  · obtain ⟨M, F, b, hM⟩ := hM (by omega)
    have HM := Aside0.mk hM
    clear hM
    go_enter Try.func5, Try.ntmps5
    go_wp2_with fail
    refine (OFnExactShelfFunc.laws_szModuleS.calls k1 A0 c0 l0 1048576 L _ (Kd.C_below HR.out HB.out) hc0 H1.out).mono ?_
    rintro e w1 ⟨rfl, hb⟩
    replace HB := Aside0.mk (below_step HB.out hb)
    clear hb
    go_wp2_with fail
    refine (OFnExactShelfFunc.laws_toModuleS.calls HM.out.to_.choose A0 c0 l0 M _ (Kd.C_below HR.out HB.out) hc0 HM.out.to_.choose_spec).mono ?_
    rintro e w2 ⟨v_w2, rfl, ho, hb⟩
    replace HB := Aside0.mk (below_step HB.out hb)
    obtain ⟨A2, c2, rfl, hc2, hC2⟩ := Kd.R_reads ho
    clear ho hb
    go_wp2_with fail
    refine (specFunc_any A2 c2 M a1 a2 F b _ hC2 hc2 HM.out.fb).mono ?_
    rintro e w3 ⟨D1, D2, D3, D4, D5, e1, e2, e3, e4, e5, rfl, hq, hle, hb⟩
    replace HB := Aside0.mk (below_step HB.out hb)
    have HW := Aside0.mk hq
    have HLE := Aside0.mk hle
    clear hb hq hle hC2
    go_wp2_with fail
    obtain ⟨g8, hg8⟩ : ∃ g, g = w3.heap.size := ⟨_, rfl⟩
    obtain ⟨y3, hy3⟩ : ∃ W, W = w3.alloc (.cells #[.int .i64 F.f0, .slice D1 F.f1.length e1, .slice D2 F.f2.length e2, .slice D3 F.f3.length e3, .slice D4 F.f4.length e4, .slice D5 F.f5.length e5] 39) := ⟨_, rfl⟩
    rw [← hy3]
    try rw [← hg8]
    have BK8 := Aside0.mk (show y3.heap[g8]? = some (.cells #[.int .i64 F.f0, .slice D1 F.f1.length e1, .slice D2 F.f2.length e2, .slice D3 F.f3.length e3, .slice D4 F.f4.length e4, .slice D5 F.f5.length e5] 39 (0, 0)) by rw [hy3, hg8]; exact heap_alloc_new w3 _)
    have hb3 : Below w3.heap.size w3 y3 := by rw [hy3]; exact below_alloc (Below.refl _ _) _
    replace HW := Aside0.mk (HW.out.below hb3)
    replace HB := Aside0.mk (below_step HB.out hb3)
    have HBw := Aside0.mk (Below.refl y3.heap.size y3)
    clear hy3 hg8 hb3
    refine (OFnExactShelfFunc.laws_toModuleS.calls HM.out.to_.choose A0 c0 l0 M _ (Kd.C_below HR.out HB.out) hc0 HM.out.to_.choose_spec).mono ?_
    rintro e w4 ⟨v4, rfl, ho, hb⟩
    have HL3 := Aside0.mk (show w.heap.size ≤ y3.heap.size from HB.out.size)
    have GL8 := Aside0.mk (blk_lt BK8.out)
    replace HB := Aside0.mk (below_step HB.out hb)
    replace HBw := Aside0.mk (below_step HBw.out hb)
    obtain ⟨A4, c4, rfl, hc4, hC4⟩ := Kd.R_reads ho
    obtain ⟨s4, hs4, hin4, hct4⟩ := R_slots fits_kMod ho c4 hc4
    have HS4 := Aside0.mk (show RowOf (Cel w4 tyModule) 3 (.slice A4 M.length c4) s4 from hs4)
    have HI4 := Aside0.mk (show ∀ p ∈ s4, y3.heap.size ≤ p.1 ∧ p.1 < w4.heap.size from fun p hp => ⟨(hin4 p hp).2, RowOf.mem hs4 p hp⟩)
    have HT4 := Aside0.mk (show 1 + s4.length ≤ 9000000 by rw [hct4]; have := HM.out.cnt; omega)
    have HC4 := Aside0.mk hC4
    have HB4 := Aside0.mk (Below.refl w4.heap.size w4)
    clear ho hb hs4 hin4 hct4 hC4
    -- g0
    go_wp2_with fail
    refine (shelfFunc_any A4 c4 M a1 a2 F b _ (Kd.C_below HC4.out HB4.out) hc4 HM.out.fb).mono ?_
    rintro e w5 ⟨B1, B2, B3, B4, B5, rfl, hs, hb⟩
    have HL4 := Aside0.mk (show y3.heap.size ≤ w4.heap.size from HBw.out.size)
    replace HB := Aside0.mk (below_step HB.out hb)
    replace HBw := Aside0.mk (below_step HBw.out hb)
    replace HB4 := Aside0.mk (below_step HB4.out hb)
    have HG := Aside0.mk hs
    have HL5 := Aside0.mk hb.size
    clear hs hb
    obtain ⟨t1, t2, t3, t4, t5, r1, r2, r3, r4, r5, hin, hnd, hct⟩ := HG.out.slots
    have HR1 := Aside0.mk r1
    have HR2 := Aside0.mk r2
    have HR3 := Aside0.mk r3
    have HR4 := Aside0.mk r4
    have HR5 := Aside0.mk r5
    have HI5 := Aside0.mk (show ∀ q ∈ t1 ++ t2 ++ t3 ++ t4 ++ t5, w4.heap.size ≤ q.1 ∧ q.1 < w5.heap.size from fun q hq => by
      simp only [List.append_assoc] at hq
      refine ⟨hin q hq, ?_⟩
      simp only [List.mem_append] at hq
      rcases hq with hq | hq | hq | hq | hq
      · exact RowOf.mem r1 q hq
      · exact RowOf.mem r2 q hq
      · exact RowOf.mem r3 q hq
      · exact RowOf.mem r4 q hq
      · exact RowOf.mem r5 q hq)
    have HD5 := Aside0.mk (show ((t1 ++ t2 ++ t3 ++ t4 ++ t5).map key).Nodup by simp only [List.append_assoc]; exact hnd)
    have HT5 := Aside0.mk (show 1 + (t1 ++ t2 ++ t3 ++ t4 ++ t5).length ≤ 9000000 by simp only [List.append_assoc]; rw [hct]; have := HM.out.cntF; omega)
    have HTP := Aside0.mk (TP.refl w5)
    clear r1 r2 r3 r4 r5 hin hnd hct
    replace BK8 := Aside0.mk ((HBw.out.block g8 GL8.out).trans BK8.out)
    have hx0 := Up.c0 BK8
    have hx1 := Up.c1 BK8
    have hx2 := Up.c2 BK8
    have hx3 := Up.c3 BK8
    have hx4 := Up.c4 BK8
    have hx5 := Up.c5 BK8
    have hlt8 : g8 < w5.heap.size := blk_lt BK8.out
    go_wp2_with fail
    clear hx0 hx1 hx2 hx3 hx4 hx5
    obtain ⟨g11, hg11⟩ : ∃ g, g = w5.heap.size := ⟨_, rfl⟩
    obtain ⟨y5, hy5⟩ : ∃ W, W = w5.alloc (.cells #[.int .i64 F.f0, .slice B1 F.f1.length F.f1.length, .slice B2 F.f2.length F.f2.length, .slice B3 F.f3.length F.f3.length, .slice B4 F.f4.length F.f4.length, .slice B5 F.f5.length F.f5.length] 39) := ⟨_, rfl⟩
    rw [← hy5]
    try rw [← hg11]
    have BK11 := Aside0.mk (show y5.heap[g11]? = some (.cells #[.int .i64 F.f0, .slice B1 F.f1.length F.f1.length, .slice B2 F.f2.length F.f2.length, .slice B3 F.f3.length F.f3.length, .slice B4 F.f4.length F.f4.length, .slice B5 F.f5.length F.f5.length] 39 (0, 0)) by rw [hy5, hg11]; exact heap_alloc_new w5 _)
    have hb : Below w5.heap.size w5 y5 := by rw [hy5]; exact below_alloc (Below.refl _ _) _
    have GE11 := Aside0.mk (show w5.heap.size ≤ g11 from Nat.le_of_eq hg11.symm)
    clear hg11 hy5
    replace HB := Aside0.mk (below_step HB.out hb)
    replace HBw := Aside0.mk (below_step HBw.out hb)
    replace HB4 := Aside0.mk (below_step HB4.out hb)
    replace BK8 := Aside0.mk (blk_below BK8.out hb)
    replace HG := Aside0.mk (HG.out.step (fun k _ hlt => hb.block k hlt))
    replace HTP := Aside0.mk (HTP.out.trans (TP.of_below hb))
    clear hb
    refine (eqF_any HM.out.eqF B1 B2 B3 B4 B5 D1 D2 D3 D4 D5 e1 e2 e3 e4 e5 _ HG.out.reads (HW.out.below HBw.out) HLE.out).mono ?_
    rintro e w6 ⟨rfl, hb⟩
    replace HB := Aside0.mk (below_step HB.out hb)
    replace HBw := Aside0.mk (below_step HBw.out hb)
    replace HB4 := Aside0.mk (below_step HB4.out hb)
    replace BK8 := Aside0.mk (blk_below BK8.out hb)
    replace BK11 := Aside0.mk (blk_below BK11.out hb)
    replace HG := Aside0.mk (HG.out.step (fun k _ hlt => hb.block k hlt))
    replace HTP := Aside0.mk (HTP.out.trans (TP.of_below hb))
    clear hb
    -- the argument stays
    go_wp2_with fail
    refine (OFnExactShelfFunc.laws_toModuleS.calls HM.out.to_.choose A0 c0 l0 M _ (Kd.C_below HR.out HB.out) hc0 HM.out.to_.choose_spec).mono ?_
    rintro e w7 ⟨v, rfl, ho, hb⟩
    replace HB := Aside0.mk (below_step HB.out hb)
    replace HBw := Aside0.mk (below_step HBw.out hb)
    replace HB4 := Aside0.mk (below_step HB4.out hb)
    replace BK8 := Aside0.mk (blk_below BK8.out hb)
    replace BK11 := Aside0.mk (blk_below BK11.out hb)
    replace HG := Aside0.mk (HG.out.step (fun k _ hlt => hb.block k hlt))
    replace HTP := Aside0.mk (HTP.out.trans (TP.of_below hb))
    obtain ⟨A7, c7, rfl, hc7, hC7⟩ := Kd.R_reads ho
    clear ho hb
    go_wp2_with fail
    refine (OFnExactShelfFunc.laws_eqModuleS.calls HM.out.eqM.choose A4 c4 M A7 c7 M true _ (Kd.C_below HC4.out HB4.out) hc4 hC7 hc7 HM.out.eqM.choose_spec).mono ?_
    rintro e w8 ⟨rfl, hb⟩
    replace HB := Aside0.mk (below_step HB.out hb)
    replace HBw := Aside0.mk (below_step HBw.out hb)
    replace HB4 := Aside0.mk (below_step HB4.out hb)
    replace BK8 := Aside0.mk (blk_below BK8.out hb)
    replace BK11 := Aside0.mk (blk_below BK11.out hb)
    replace HG := Aside0.mk (HG.out.step (fun k _ hlt => hb.block k hlt))
    replace HTP := Aside0.mk (HTP.out.trans (TP.of_below hb))
    clear hb hC7
    -- its marks
    go_wp2_with fail
    refine (markModuleS_any _ s4 1 rfl _ (HS4.out.tp (TP.of_below HB4.out)) (Nat.le_refl _) HT4.out).mono ?_
    rintro e w9 ⟨rfl, hm⟩
    replace HB := Aside0.mk (hm.below_of (fun p hp => Nat.le_trans HL3.out (HI4.out p hp).1) HB.out HB.out.size)
    replace HBw := Aside0.mk (hm.below_of (fun p hp => (HI4.out p hp).1) HBw.out HBw.out.size)
    replace HG := Aside0.mk (HG.out.step (fun k hk hlt => hm.far k hlt (fun p hp he => by have := (HI4.out p hp).2; omega)))
    replace BK8 := Aside0.mk ((hm.far g8 (blk_lt BK8.out) (fun p hp he => by have h1 := (HI4.out p hp).1; have h2 := GL8.out; omega)).trans BK8.out)
    replace BK11 := Aside0.mk ((hm.far g11 (blk_lt BK11.out) (fun p hp he => by have h1 := (HI4.out p hp).2; have h2 := GE11.out; have h3 := HL5.out; omega)).trans BK11.out)
    replace HTP := Aside0.mk (HTP.out.trans hm.tp)
    obtain ⟨N4, hN4⟩ : ∃ N, N = 1 + s4.length := ⟨_, rfl⟩
    rw [← hN4]
    clear hm hN4 HB4 HC4 HS4 HI4 HT4
    have hN4 : ¬ ((N4 : Int) < 0) := by omega
    have hx0 := Up.c0 BK8
    have hx1 := Up.c1 BK8
    have hx2 := Up.c2 BK8
    have hx3 := Up.c3 BK8
    have hx4 := Up.c4 BK8
    have hx5 := Up.c5 BK8
    have hz0 := Up.c0 BK11
    have hz1 := Up.c1 BK11
    have hz2 := Up.c2 BK11
    have hz3 := Up.c3 BK11
    have hz4 := Up.c4 BK11
    have hz5 := Up.c5 BK11
    go_wp2_with fail
    clear hx0 hx1 hx2 hx3 hx4 hx5
    clear hz0 hz1 hz2 hz3 hz4 hz5
    refine (eqF_any HM.out.eqF B1 B2 B3 B4 B5 D1 D2 D3 D4 D5 e1 e2 e3 e4 e5 _ HG.out.reads (HW.out.below HBw.out) HLE.out).mono ?_
    rintro e w10 ⟨rfl, hb⟩
    replace HB := Aside0.mk (below_step HB.out hb)
    replace HBw := Aside0.mk (below_step HBw.out hb)
    replace BK8 := Aside0.mk (blk_below BK8.out hb)
    replace BK11 := Aside0.mk (blk_below BK11.out hb)
    replace HTP := Aside0.mk (HTP.out.trans (TP.of_below hb))
    clear hb HG
    -- the result's marks
    have hz0 := Up.c0 BK11
    have hz1 := Up.c1 BK11
    have hz2 := Up.c2 BK11
    have hz3 := Up.c3 BK11
    have hz4 := Up.c4 BK11
    have hz5 := Up.c5 BK11
    go_wp2_with fail
    clear hz0 hz1 hz2 hz3 hz4 hz5
    refine (markFunc_any F.f0 _ t1 _ t2 _ t3 _ t4 _ t5 1 rfl _ (HR1.out.tp HTP.out) (HR2.out.tp HTP.out) (HR3.out.tp HTP.out) (HR4.out.tp HTP.out) (HR5.out.tp HTP.out) (Nat.le_refl _) HT5.out).mono ?_
    rintro e w11 ⟨rfl, hm⟩
    replace HB := Aside0.mk (hm.below_of (fun p hp => Nat.le_trans HL3.out (Nat.le_trans HL4.out (HI5.out p hp).1)) HB.out HB.out.size)
    replace HBw := Aside0.mk (hm.below_of (fun p hp => Nat.le_trans HL4.out (HI5.out p hp).1) HBw.out HBw.out.size)
    replace BK8 := Aside0.mk ((hm.far g8 (blk_lt BK8.out) (fun p hp he => by have h1 := (HI5.out p hp).1; have h2 := GL8.out; have h3 := HL4.out; omega)).trans BK8.out)
    replace BK11 := Aside0.mk ((hm.far g11 (blk_lt BK11.out) (fun p hp he => by have h1 := (HI5.out p hp).2; have h2 := GE11.out; omega)).trans BK11.out)
    replace HTP := Aside0.mk (HTP.out.trans hm.tp)
    have HH := Aside0.mk (hm.held HD5.out)
    have HB5 := Aside0.mk (Below.refl w11.heap.size w11)
    obtain ⟨N5, hN5⟩ : ∃ N, N = 1 + (t1 ++ t2 ++ t3 ++ t4 ++ t5).length := ⟨_, rfl⟩
    have HN5 := Aside0.mk hN5
    rw [← hN5]
    clear hm hN5 HD5 HI5
    have hz0 := Up.c0 BK11
    have hz1 := Up.c1 BK11
    have hz2 := Up.c2 BK11
    have hz3 := Up.c3 BK11
    have hz4 := Up.c4 BK11
    have hz5 := Up.c5 BK11
    go_wp2_with fail
    clear hz0 hz1 hz2 hz3 hz4 hz5
    refine (heldFunc_any F.f0 _ t1 _ t2 _ t3 _ t4 _ t5 1 rfl _ (HR1.out.tp HTP.out) (HR2.out.tp HTP.out) (HR3.out.tp HTP.out) (HR4.out.tp HTP.out) (HR5.out.tp HTP.out) (Nat.le_refl _) HT5.out (HH.out.below HB5.out)).mono ?_
    rintro e w12 ⟨rfl, hb⟩
    rw [← HN5.out]
    replace HB := Aside0.mk (below_step HB.out hb)
    replace HBw := Aside0.mk (below_step HBw.out hb)
    replace HB5 := Aside0.mk (below_step HB5.out hb)
    replace BK8 := Aside0.mk (blk_below BK8.out hb)
    replace BK11 := Aside0.mk (blk_below BK11.out hb)
    replace HTP := Aside0.mk (HTP.out.trans (TP.of_below hb))
    clear hb
    have hN5 : ¬ ((N5 : Int) < 0) := by omega
    -- once more
    go_wp2_with fail
    refine (OFnExactShelfFunc.laws_toModuleS.calls HM.out.to_.choose A0 c0 l0 M _ (Kd.C_below HR.out HB.out) hc0 HM.out.to_.choose_spec).mono ?_
    rintro e w13 ⟨v, rfl, ho, hb⟩
    replace HB := Aside0.mk (below_step HB.out hb)
    replace HBw := Aside0.mk (below_step HBw.out hb)
    replace HB5 := Aside0.mk (below_step HB5.out hb)
    replace BK8 := Aside0.mk (blk_below BK8.out hb)
    replace BK11 := Aside0.mk (blk_below BK11.out hb)
    replace HTP := Aside0.mk (HTP.out.trans (TP.of_below hb))
    obtain ⟨A13, c13, rfl, hc13, hC13⟩ := Kd.R_reads ho
    clear ho hb
    go_wp2_with fail
    refine (shelfFunc_any A13 c13 M a1 a2 F b _ hC13 hc13 HM.out.fb).mono ?_
    rintro e w14 ⟨G1, G2, G3, G4, G5, rfl, hs, hb⟩
    have HG := Aside0.mk hs
    replace HB := Aside0.mk (below_step HB.out hb)
    replace HBw := Aside0.mk (below_step HBw.out hb)
    replace HB5 := Aside0.mk (below_step HB5.out hb)
    replace BK8 := Aside0.mk (blk_below BK8.out hb)
    replace BK11 := Aside0.mk (blk_below BK11.out hb)
    replace HTP := Aside0.mk (HTP.out.trans (TP.of_below hb))
    clear hs hb hC13
    have hx0 := Up.c0 BK8
    have hx1 := Up.c1 BK8
    have hx2 := Up.c2 BK8
    have hx3 := Up.c3 BK8
    have hx4 := Up.c4 BK8
    have hx5 := Up.c5 BK8
    have hlt8 : g8 < w14.heap.size := blk_lt BK8.out
    go_wp2_with fail
    clear hx0 hx1 hx2 hx3 hx4 hx5
    obtain ⟨g16, hg16⟩ : ∃ g, g = w14.heap.size := ⟨_, rfl⟩
    obtain ⟨y14, hy14⟩ : ∃ W, W = w14.alloc (.cells #[.int .i64 F.f0, .slice G1 F.f1.length F.f1.length, .slice G2 F.f2.length F.f2.length, .slice G3 F.f3.length F.f3.length, .slice G4 F.f4.length F.f4.length, .slice G5 F.f5.length F.f5.length] 39) := ⟨_, rfl⟩
    rw [← hy14]
    try rw [← hg16]
    have BK16 := Aside0.mk (show y14.heap[g16]? = some (.cells #[.int .i64 F.f0, .slice G1 F.f1.length F.f1.length, .slice G2 F.f2.length F.f2.length, .slice G3 F.f3.length F.f3.length, .slice G4 F.f4.length F.f4.length, .slice G5 F.f5.length F.f5.length] 39 (0, 0)) by rw [hy14, hg16]; exact heap_alloc_new w14 _)
    have hb : Below w14.heap.size w14 y14 := by rw [hy14]; exact below_alloc (Below.refl _ _) _
    clear hg16 hy14 BK16
    replace HB := Aside0.mk (below_step HB.out hb)
    replace HBw := Aside0.mk (below_step HBw.out hb)
    replace HB5 := Aside0.mk (below_step HB5.out hb)
    replace BK8 := Aside0.mk (blk_below BK8.out hb)
    replace BK11 := Aside0.mk (blk_below BK11.out hb)
    replace HG := Aside0.mk (HG.out.step (fun k _ hlt => hb.block k hlt))
    replace HTP := Aside0.mk (HTP.out.trans (TP.of_below hb))
    clear hb
    refine (eqF_any HM.out.eqF G1 G2 G3 G4 G5 D1 D2 D3 D4 D5 e1 e2 e3 e4 e5 _ HG.out.reads (HW.out.below HBw.out) HLE.out).mono ?_
    rintro e w15 ⟨rfl, hb⟩
    replace HB := Aside0.mk (below_step HB.out hb)
    replace HB5 := Aside0.mk (below_step HB5.out hb)
    replace BK11 := Aside0.mk (blk_below BK11.out hb)
    replace HTP := Aside0.mk (HTP.out.trans (TP.of_below hb))
    clear hb HG HBw BK8
    have hz0 := Up.c0 BK11
    have hz1 := Up.c1 BK11
    have hz2 := Up.c2 BK11
    have hz3 := Up.c3 BK11
    have hz4 := Up.c4 BK11
    have hz5 := Up.c5 BK11
    go_wp2_with fail
    clear hz0 hz1 hz2 hz3 hz4 hz5
    refine (heldFunc_any F.f0 _ t1 _ t2 _ t3 _ t4 _ t5 1 rfl _ (HR1.out.tp HTP.out) (HR2.out.tp HTP.out) (HR3.out.tp HTP.out) (HR4.out.tp HTP.out) (HR5.out.tp HTP.out) (Nat.le_refl _) HT5.out (HH.out.below HB5.out)).mono ?_
    rintro e w16 ⟨rfl, hb⟩
    rw [← HN5.out]
    replace HB := Aside0.mk (below_step HB.out hb)
    clear hb
    go_wp2
    go_ret
    exact ⟨rfl, HB.out⟩
theorem fin (A0 : Option Addr) (c0 : Nat) (l0 : List OFnExactShelfFunc.S49) (a1 a2 : Int) (w : World) (hr0 : Kd.C OFnExactShelfFunc.k49 w A0 l0.length l0) (hc0 : l0.length ≤ c0) (g : gL gModule l0) (_ : gInt a1) (_ : gInt a2) :
    Calls Try.prog 5 #[.slice A0 l0.length c0, .int .i64 a1, .int .i64 a2] w fun e w' => e = .returned (.bool true) ∧ Below w.heap.size w w' := by
  obtain ⟨L, hL, h⟩ := Pure.FnExactShelfFunc l0 a1 a2 g
  refine law A0 c0 l0 a1 a2 w hr0 hc0 L hL (fun h0 => ?_)
  obtain ⟨w0, h1, h2, F, b, h3, h4, h5⟩ := h h0
  exact ⟨_, F, b, h1, h2, h4, h3, Nat.le_trans (show ((l0.map cModule).map cntMod).sum ≤ 3145728 from shelf_count w0) (by omega), h5⟩
end Go.Proofs.Ytcdamcfklehedaa.Hand
