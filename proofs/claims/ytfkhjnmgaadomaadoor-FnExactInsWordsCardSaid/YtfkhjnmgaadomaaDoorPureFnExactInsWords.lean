/- InsWords of the program and of the reference give the same, and what it hands back is the caller's own. -/
import Derived.Test.YtfkhjnmgaadomaaDoorOFnExactInsWordsx1
import Derived.Test.YtfkhjnmgaadomaaDoorOFnExactInsWordsx2
import Derived.Test.YtfkhjnmgaadomaaDoorBase
namespace Go.Proofs.YtfkhjnmgaadomaaDoor.Pure
open Go.RowKit Go.Proofs.YtfkhjnmgaadomaaDoor.OFnExactInsWords Go.Proofs.YtfkhjnmgaadomaaDoorW.PrintWords Go.Proofs.YtfkhjnmgaadomaaDoorW.PrintLast Go.Proofs.YtfkhjnmgaadomaaDoorW.PrintMore Go.Proofs.YtfkhjnmgaadomaaDoor.Base
set_option linter.unusedVariables false
set_option linter.unusedSimpArgs false

def qStringS (xs : List ByteArray) : Prop := xs.length ≤ 9223372036854775807

theorem ev_laws_eqStringS_l0 (xs : List ByteArray) (hx : qStringS xs) : ∀ i, i ≤ xs.length → EvP (fun k => laws_eqStringS.l0 k xs xs i) (· = true) := by
  refine upInd ?_ ?_
  · refine EvP.succ ?_
    simp only [laws_eqStringS.l0]
    exact EvP.neg (by omega) (EvP.ret _ rfl)
  · intro i hi ih
    refine EvP.succ ?_
    simp only [laws_eqStringS.l0]
    rw [w64s hi hx]
    exact EvP.pos (by omega) (EvP.pos (by omega) (EvP.pos (by omega) (EvP.pos (by trivial) ih)))
theorem ev_laws_eqStringS (xs : List ByteArray) (hx : qStringS xs) : EvP (fun k => laws_eqStringS.f k xs xs) (· = true) := by
  unfold laws_eqStringS.f
  exact EvP.pos (by trivial) (ev_laws_eqStringS_l0 xs hx 0 (by omega))

abbrev Tri := ByteArray × Int × Int

def triI (x : S26) : Tri := (x.f0, x.f1, x.f2)

/-- The table of the instructions. -/
def insTab : List Tri := match spec_l3Table.f with | some t => t.map triI | none => []

def insForms : List S46 := insTab.map fun x => ⟨x.1, x.2.1, x.2.2⟩

theorem forms_eq (k : Nat) : impl_insForms.f (k + 60) = some insForms := by kernel_rfl

theorem ev_impl_insForms : EvP (fun k => impl_insForms.f k) (· = insForms) := ⟨insForms, ⟨60, fun k hk => by
  obtain ⟨d, rfl⟩ := Nat.exists_eq_add_of_le' hk
  exact forms_eq d⟩, rfl⟩

/-- The words of the instructions. -/
def insWords : List ByteArray := insTab.map (·.1)

theorem ev_impl_InsWords : EvP (fun k => impl_InsWords.f k) (· = insWords) := by
  have loop : ∀ xs : List S46, xs.length ≤ 1000 → EvP (fun k => impl_InsWords.l0 k [] xs (xs.length : Int) 0) (· = xs.map (·.f0)) := by
    intro xs hl
    have key : ∀ i, i ≤ xs.length → ∀ out : List ByteArray, out = (xs.take i).map (·.f0) → EvP (fun k => impl_InsWords.l0 k out xs (xs.length : Int) i) (· = xs.map (·.f0)) := by
      refine upInd ?_ ?_
      · intro out ho
        refine EvP.succ ?_
        simp only [impl_InsWords.l0, slices_Clip_string_string.f, Option.bind_some]
        exact EvP.neg (by omega) (EvP.ret _ (by rw [ho, List.take_length]))
      · intro i hi ih out ho
        refine EvP.succ ?_
        simp only [impl_InsWords.l0, slices_Clip_string_string.f, Option.bind_some]
        have e : rd_T46 xs (i : Int) = xs[i] := getDn hi
        have hn : out.length ≤ 1000 := by rw [ho, List.length_map, List.length_take]; omega
        rw [e, w64s hi (by omega)]
        refine EvP.pos (by omega) (EvP.pos (by omega) (EvP.pos (by omega) (EvP.pos (by omega) (ih _ ?_))))
        rw [ho, List.take_succ_eq_append_getElem hi, List.map_append]
        rfl
    exact key 0 (by omega) [] rfl
  unfold impl_InsWords.f
  refine EvP.bind ev_impl_insForms (fun t ht => ?_)
  subst ht
  have hl : insForms.length ≤ 1000 := by decide +kernel
  have e : insForms.map (·.f0) = insWords := by
    unfold insForms insWords
    rw [List.map_map]
    rfl
  rw [← e]
  exact loop insForms hl

theorem ev_spec_InsWords : EvP (fun k => spec_InsWords.f k) (· = insWords) := by
  have loop : ∀ xs : List S26, xs.length ≤ 1000 → EvP (fun k => spec_InsWords.l0 k [] xs 0) (· = xs.map (·.f0)) := by
    intro xs hl
    have key : ∀ i, i ≤ xs.length → ∀ out : List ByteArray, out = (xs.take i).map (·.f0) → EvP (fun k => spec_InsWords.l0 k out xs i) (· = xs.map (·.f0)) := by
      refine upInd ?_ ?_
      · intro out ho
        refine EvP.succ ?_
        simp only [spec_InsWords.l0]
        exact EvP.neg (by omega) (EvP.ret _ (by rw [ho, List.take_length]))
      · intro i hi ih out ho
        refine EvP.succ ?_
        simp only [spec_InsWords.l0]
        have e : rd_T26 xs (i : Int) = xs[i] := getDn hi
        have hn : out.length ≤ 1000 := by rw [ho, List.length_map, List.length_take]; omega
        rw [e, w64s hi (by omega)]
        refine EvP.pos (by omega) (EvP.pos (by omega) (EvP.pos (by omega) (ih _ ?_)))
        rw [ho, List.take_succ_eq_append_getElem hi, List.map_append]
        rfl
    exact key 0 (by omega) [] rfl
  unfold spec_InsWords.f
  have ht : ∃ T, spec_l3Table.f = some T ∧ T.length ≤ 1000 := ⟨_, rfl, by decide +kernel⟩
  obtain ⟨T, ht, hl⟩ := ht
  have hi : insWords = T.map (·.f0) := by unfold insWords insTab; rw [ht]; simp only [List.map_map]; rfl
  rw [hi]
  exact EvP.call ht (loop T hl)

/-- A mark's text. -/
def mkD : Nat → Nat → ByteArray → ByteArray
  | 0, _, a => a
  | f + 1, n, a => if n = 0 then a else mkD f (n / 10) (strOfNums [(wrap64 (48 + ((n % 10 : Nat) : Int))) % 256] ++ a)
def mtx (n : Nat) : ByteArray := (⟨#[109]⟩ : ByteArray) ++ mkD n n ⟨#[]⟩

theorem ev_laws_markText_l0 : ∀ (f n : Nat) (a : ByteArray), n ≤ f → n ≤ 1000001 → a.size + n ≤ 3000000 → EvP (fun k => laws_markText.l0 k (n : Int) a) (· = (⟨#[109]⟩ : ByteArray) ++ mkD f n a)
  | 0, n, a, h, _, h2 => by
    refine EvP.succ ?_
    simp only [laws_markText.l0]
    exact EvP.neg (by omega) (EvP.pos (by omega) (EvP.ret _ rfl))
  | f + 1, n, a, h, h1, h2 => by
    refine EvP.succ ?_
    simp only [laws_markText.l0]
    refine EvP.ite (fun h3 => ?_) (fun h3 => EvP.pos (by omega) (EvP.ret _ ?_))
    · have e1 : wrap64 (Int.tdiv (n : Int) 10) = ((n / 10 : Nat) : Int) := by
        have : Int.tdiv (n : Int) 10 = ((n / 10 : Nat) : Int) := rfl
        rw [this, w64 (by omega) (by omega)]
      have e2 : Int.tmod (n : Int) 10 = ((n % 10 : Nat) : Int) := rfl
      have e3 : (strOfNums [(wrap64 (48 + ((n % 10 : Nat) : Int))) % 256]).size = 1 := rfl
      rw [e1, e2]
      simp only [Option.bind_some]
      have e4 : mkD (f + 1) n a = mkD f (n / 10) (strOfNums [(wrap64 (48 + ((n % 10 : Nat) : Int))) % 256] ++ a) := by rw [mkD, if_neg (by omega)]
      rw [e4]
      exact EvP.pos (by omega) (ev_laws_markText_l0 f (n / 10) _ (by omega) (by omega) (by rw [ByteArray.size_append]; omega))
    · have e : n = 0 := by omega
      subst e
      rw [mkD, if_pos rfl]
theorem ev_laws_markText (n : Nat) (h0 : 1 ≤ n) (h1 : n ≤ 1000001) : EvP (fun k => laws_markText.f k (n : Int)) (· = mtx n) := by
  unfold laws_markText.f mtx
  exact EvP.neg (by omega) (ev_laws_markText_l0 n n ⟨#[]⟩ (Nat.le_refl _) h1 (by have : (⟨#[]⟩ : ByteArray).size = 0 := rfl; omega))

def marks (a m : Nat) : List ByteArray := (List.range m).map fun j => mtx (a + j)
theorem marks_zero (a : Nat) : marks a 0 = [] := rfl
theorem marks_succ (a m : Nat) : marks a (m + 1) = mtx a :: marks (a + 1) m := by
  unfold marks
  rw [List.range_succ_eq_map, List.map_cons, List.map_map]
  congr 1
  apply List.map_congr_left
  intro j _
  show mtx (a + (j + 1)) = mtx (a + 1 + j)
  congr 1
  omega
theorem marks_len (a m : Nat) : (marks a m).length = m := by simp [marks]

theorem ev_laws_markStringS_l0 (n : Nat) (hn : n ≤ 1000000) : ∀ i, i ≤ n → ∀ (l : List ByteArray) (a : Nat), l.length = n → 1 ≤ a → a + (n - i) ≤ 1000001 → EvP (fun k => laws_markStringS.l0 k l (a : Int) i) (· = (((a + (n - i) : Nat) : Int), l.take i ++ marks a (n - i))) := by
  refine upInd ?_ ?_
  · intro l a hl h1 h2
    refine EvP.succ ?_
    simp only [laws_markStringS.l0]
    refine EvP.neg (by omega) (EvP.ret _ ?_)
    rw [Nat.sub_self, marks_zero, List.append_nil, List.take_of_length_le (by omega)]
    rfl
  · intro i hi ih l a hl h1 h2
    refine EvP.succ ?_
    simp only [laws_markStringS.l0]
    refine EvP.pos (by omega) (EvP.bind (ev_laws_markText a h1 (by omega)) (fun t ht => EvP.pos (by omega) ?_))
    subst ht
    have e1 : wrap64 ((a : Int) + 1) = ((a + 1 : Nat) : Int) := by rw [w64 (by omega) (by omega)]; rfl
    rw [e1, w64s hi (by omega), Int.toNat_natCast]
    refine (ih (l.set i (mtx a)) (a + 1) (by rw [List.length_set]; exact hl) (by omega) (by omega)).mono (fun r hr => ?_)
    rw [hr]
    have e2 : n - i = (n - (i + 1)) + 1 := by omega
    have e3 : (l.set i (mtx a)).take (i + 1) = l.take i ++ [mtx a] := by
      rw [List.take_succ_eq_append_getElem (by rw [List.length_set]; omega), List.getElem_set_self, List.take_set_of_le (Nat.le_refl _)]
    rw [e3, e2, marks_succ, List.append_assoc]
    have e4 : a + 1 + (n - (i + 1)) = a + (n - (i + 1) + 1) := by omega
    rw [e4]
    rfl
theorem ev_laws_markStringS (l : List ByteArray) (hl : l.length ≤ 1000000) : EvP (fun k => laws_markStringS.f k l 1) (· = (((1 + l.length : Nat) : Int), marks 1 l.length)) := by
  unfold laws_markStringS.f
  refine (ev_laws_markStringS_l0 l.length hl 0 (by omega) l 1 rfl (by omega) (by omega)).mono (fun r hr => ?_)
  rw [hr]
  simp

theorem ev_laws_heldStringS_l0 (L : List ByteArray) (hn : L.length ≤ 1000000) : ∀ i, i ≤ L.length → ∀ (a : Nat), 1 ≤ a → a + (L.length - i) ≤ 1000001 → L.drop i = marks a (L.length - i) → EvP (fun k => laws_heldStringS.l0 k L (a : Int) i) (· = ((a + (L.length - i) : Nat) : Int)) := by
  refine upInd ?_ ?_
  · intro a h1 h2 h3
    refine EvP.succ ?_
    simp only [laws_heldStringS.l0]
    exact EvP.neg (by omega) (EvP.ret _ (by rw [Nat.sub_self]; rfl))
  · intro i hi ih a h1 h2 h3
    refine EvP.succ ?_
    simp only [laws_heldStringS.l0]
    have e2 : L.length - i = (L.length - (i + 1)) + 1 := by omega
    rw [List.drop_eq_getElem_cons hi, e2, marks_succ] at h3
    injection h3 with h4 h5
    have e : rdOf ByteArray.empty L (i : Int) = L[i] := by simp [rdOf, hi]
    have e1 : wrap64 ((a : Int) + 1) = ((a + 1 : Nat) : Int) := by rw [w64 (by omega) (by omega)]; rfl
    rw [e, e1, w64s hi (by omega), h4]
    refine EvP.pos (by omega) (EvP.pos (by omega) (EvP.bind (ev_laws_markText a h1 (by omega)) (fun t ht => EvP.pos (by rw [ht]) ?_)))
    refine (ih (a + 1) (by omega) (by omega) h5).mono (fun r hr => ?_)
    rw [hr]
    omega
theorem ev_laws_heldStringS (m : Nat) (hm : m ≤ 1000000) : EvP (fun k => laws_heldStringS.f k (marks 1 m) 1) (· = ((1 + m : Nat) : Int)) := by
  unfold laws_heldStringS.f
  have hl := marks_len 1 m
  refine (ev_laws_heldStringS_l0 (marks 1 m) (by omega) 0 (by omega) 1 (by omega) (by omega) (by rw [hl]; rfl)).mono (fun r hr => ?_)
  rw [hr, hl]
  rfl

theorem FnExactInsWords : ∃ k, laws_FnExactInsWords.f k = some true := by
  refine EvP.rounds ?_
  unfold laws_FnExactInsWords.f
  have hl : insWords.length ≤ 1000000 := by decide +kernel
  have hq : insWords.length ≤ 9223372036854775807 := by omega
  refine EvP.bind ev_spec_InsWords (fun t1 h1 => EvP.bind ev_impl_InsWords (fun t2 h2 => ?_))
  subst h1
  subst h2
  refine EvP.bind (ev_laws_eqStringS insWords hq) (fun t3 h3 => EvP.pos h3 ?_)
  refine EvP.bind (ev_laws_markStringS insWords hl) (fun t4 h4 => ?_)
  subst h4
  refine EvP.bind (ev_laws_heldStringS insWords.length hl) (fun t5 h5 => EvP.neg (by omega) (EvP.pos h5 ?_))
  refine EvP.bind ev_impl_InsWords (fun t6 h6 => ?_)
  subst h6
  refine EvP.bind (ev_laws_eqStringS insWords hq) (fun t7 h7 => EvP.pos h7 ?_)
  exact EvP.bind (ev_laws_heldStringS insWords.length hl) (fun t8 h8 => EvP.neg (by omega) (EvP.pos h8 (EvP.ret _ rfl)))


end Go.Proofs.YtfkhjnmgaadomaaDoor.Pure
