/- For every code: the program and the reference give the same words, each is a word of an instruction, none stands twice. -/
import Derived.Test.YtfkhjnmgaadomaaDoorOFnInsWordsx1
import Derived.Test.YtfkhjnmgaadomaaDoorOFnInsWordsx2
import Derived.Test.YtfkhjnmgaadomaaDoorBase
namespace Go.Proofs.YtfkhjnmgaadomaaDoor.Pure
open Go.RowKit Go.Proofs.YtfkhjnmgaadomaaDoor.OFnInsWords Go.Proofs.YtfkhjnmgaadomaaDoorW.PrintWords Go.Proofs.YtfkhjnmgaadomaaDoorW.PrintLast Go.Proofs.YtfkhjnmgaadomaaDoorW.PrintMore Go.Proofs.YtfkhjnmgaadomaaDoor.Base
set_option linter.unusedVariables false
set_option linter.unusedSimpArgs false

abbrev Tri := ByteArray × Int × Int

/-- The row of a word in a table. -/
def look (w : ByteArray) : List Tri → ByteArray × Int × Int × Bool
  | [] => (⟨#[]⟩, 0, 0, false)
  | x :: xs => if x.1.toList = w.toList then (x.1, x.2.1, x.2.2, true) else look w xs

def triF (x : S46) : Tri := (x.f0, x.f1, x.f2)

def triI (x : S26) : Tri := (x.f0, x.f1, x.f2)

/-- The table of the instructions. -/
def insTab : List Tri := match spec_l3Table.f with | some t => t.map triI | none => []

def insForms : List S46 := insTab.map fun x => ⟨x.1, x.2.1, x.2.2⟩

theorem forms_eq (k : Nat) : impl_insForms.f (k + 60) = some insForms := by kernel_rfl

theorem ev_impl_insForms : EvP (fun k => impl_insForms.f k) (· = insForms) := ⟨insForms, ⟨60, fun k hk => by
  obtain ⟨d, rfl⟩ := Nat.exists_eq_add_of_le' hk
  exact forms_eq d⟩, rfl⟩

theorem ev_impl_formOf (w : ByteArray) : EvP (fun k => impl_formOf.f k w) (· = look w insTab) := by
  have loop : ∀ xs : List S46, xs.length ≤ 1000 → EvP (fun k => impl_formOf.l0 k w xs (xs.length : Int) 0) (· = look w (xs.map triF)) := by
    intro xs hl
    have key : ∀ i, i ≤ xs.length → EvP (fun k => impl_formOf.l0 k w xs (xs.length : Int) i) (· = look w ((xs.drop i).map triF)) := by
      refine upInd ?_ ?_
      · refine EvP.succ ?_
        simp only [impl_formOf.l0]
        exact EvP.neg (by omega) (EvP.ret _ (by rw [List.drop_length]; rfl))
      · intro i hi ih
        refine EvP.succ ?_
        simp only [impl_formOf.l0]
        have e : rd_T46 xs (i : Int) = xs[i] := getDn hi
        rw [e, w64s hi (by omega), List.drop_eq_getElem_cons hi, List.map_cons, look]
        refine EvP.pos (by omega) (EvP.pos (by omega) (EvP.pos (by omega) (EvP.ite (fun h => EvP.ret _ ?_) (fun h => ih.mono (fun r hr => ?_)))))
        · exact (if_pos h).symm
        · rw [hr]
          exact (if_neg h).symm
    exact (key 0 (by omega)).mono (fun r hr => by rw [hr, List.drop_zero])
  unfold impl_formOf.f
  refine EvP.bind ev_impl_insForms (fun t ht => ?_)
  subst ht
  have hl : insForms.length ≤ 1000 := by decide +kernel
  have e : insForms.map triF = insTab := by
    unfold insForms
    rw [List.map_map]
    exact List.map_id _
  rw [← e]
  exact loop insForms hl

/-- A number is below a limit, or 0 if there is none. -/
def lim (l n : Int) : Bool := decide (n = 0 ∨ (0 < n ∧ n < l))

def insOk (w : ByteArray) (a b : Int) : Bool := (look w insTab).2.2.2 && (lim (look w insTab).2.1 a && lim (look w insTab).2.2.1 b)

theorem eq_impl_limitOk (l n : Int) : impl_limitOk.f l n = some (lim l n) := by
  unfold impl_limitOk.f lim
  by_cases h : n = 0
  · rw [if_pos h, decide_eq_true (.inl h)]
  · rw [if_neg h]
    by_cases h2 : n > 0
    · rw [if_pos h2]
      congr 1
      rw [decide_eq_decide]
      omega
    · rw [if_neg h2, decide_eq_false (by omega)]

theorem ev_impl_InsOk (w : ByteArray) (a b : Int) : EvP (fun k => impl_InsOk.f k w a b) (· = insOk w a b) := by
  unfold impl_InsOk.f insOk
  refine EvP.bind (ev_impl_formOf w) (fun t ht => ?_)
  subst ht
  refine EvP.ite (fun h => EvP.call (eq_impl_limitOk _ _) (EvP.ite (fun h2 => EvP.call (eq_impl_limitOk _ _) (EvP.ret _ ?_)) (fun h2 => EvP.ret _ ?_))) (fun h => EvP.ret _ ?_)
  · rw [h, h2, Bool.true_and, Bool.true_and]
  · rw [Bool.not_eq_true] at h2
    rw [h, h2, Bool.true_and, Bool.false_and]
  · rw [Bool.not_eq_true] at h
    rw [h, Bool.false_and]

/-- The words of the instructions. -/
def insWords : List ByteArray := insTab.map (·.1)

theorem ev_impl_InsWords : EvP (fun k => impl_InsWords.f k) (· = insWords) := by
  have loop : ∀ xs : List S46, xs.length ≤ 1000 → EvP (fun k => impl_InsWords.l0 k [] xs (xs.length : Int) 0) (· = xs.map (·.f0)) := by
    intro xs hl
    have key : ∀ i, i ≤ xs.length → ∀ out : List ByteArray, out = (xs.take i).map (·.f0) → EvP (fun k => impl_InsWords.l0 k out xs (xs.length : Int) i) (· = xs.map (·.f0)) := by
      refine upInd ?_ ?_
      · intro out ho
        refine EvP.succ ?_
        simp only [impl_InsWords.l0, slices_Clip_string_string.f, Option.bind_some]
        exact EvP.neg (by omega) (EvP.ret _ (by rw [ho, List.take_length]))
      · intro i hi ih out ho
        refine EvP.succ ?_
        simp only [impl_InsWords.l0, slices_Clip_string_string.f, Option.bind_some]
        have e : rd_T46 xs (i : Int) = xs[i] := getDn hi
        have hn : out.length ≤ 1000 := by rw [ho, List.length_map, List.length_take]; omega
        rw [e, w64s hi (by omega)]
        refine EvP.pos (by omega) (EvP.pos (by omega) (EvP.pos (by omega) (EvP.pos (by omega) (ih _ ?_))))
        rw [ho, List.take_succ_eq_append_getElem hi, List.map_append]
        rfl
    exact key 0 (by omega) [] rfl
  unfold impl_InsWords.f
  refine EvP.bind ev_impl_insForms (fun t ht => ?_)
  subst ht
  have hl : insForms.length ≤ 1000 := by decide +kernel
  have e : insForms.map (·.f0) = insWords := by
    unfold insForms insWords
    rw [List.map_map]
    rfl
  rw [← e]
  exact loop insForms hl

theorem ev_spec_InsWords : EvP (fun k => spec_InsWords.f k) (· = insWords) := by
  have loop : ∀ xs : List S26, xs.length ≤ 1000 → EvP (fun k => spec_InsWords.l0 k [] xs 0) (· = xs.map (·.f0)) := by
    intro xs hl
    have key : ∀ i, i ≤ xs.length → ∀ out : List ByteArray, out = (xs.take i).map (·.f0) → EvP (fun k => spec_InsWords.l0 k out xs i) (· = xs.map (·.f0)) := by
      refine upInd ?_ ?_
      · intro out ho
        refine EvP.succ ?_
        simp only [spec_InsWords.l0]
        exact EvP.neg (by omega) (EvP.ret _ (by rw [ho, List.take_length]))
      · intro i hi ih out ho
        refine EvP.succ ?_
        simp only [spec_InsWords.l0]
        have e : rd_T26 xs (i : Int) = xs[i] := getDn hi
        have hn : out.length ≤ 1000 := by rw [ho, List.length_map, List.length_take]; omega
        rw [e, w64s hi (by omega)]
        refine EvP.pos (by omega) (EvP.pos (by omega) (EvP.pos (by omega) (ih _ ?_)))
        rw [ho, List.take_succ_eq_append_getElem hi, List.map_append]
        rfl
    exact key 0 (by omega) [] rfl
  unfold spec_InsWords.f
  have ht : ∃ T, spec_l3Table.f = some T ∧ T.length ≤ 1000 := ⟨_, rfl, by decide +kernel⟩
  obtain ⟨T, ht, hl⟩ := ht
  have hi : insWords = T.map (·.f0) := by unfold insWords insTab; rw [ht]; simp only [List.map_map]; rfl
  rw [hi]
  exact EvP.call ht (loop T hl)

theorem ev_hlTexts (xs : List ByteArray) (hl : xs.length ≤ 1000000) : EvP (fun k => laws_hlTexts.f k xs xs) (· = true) := by
  have key : ∀ i, i ≤ xs.length → EvP (fun k => laws_hlTexts.l0 k xs xs i) (· = true) := by
    refine upInd ?_ ?_
    · refine EvP.succ ?_
      simp only [laws_hlTexts.l0]
      exact EvP.neg (by omega) (EvP.ret _ rfl)
    · intro i hi ih
      refine EvP.succ ?_
      simp only [laws_hlTexts.l0]
      rw [w64s hi (by omega)]
      exact EvP.pos (by omega) (EvP.pos (by omega) (EvP.pos (by omega) (EvP.pos trivial ih)))
  unfold laws_hlTexts.f
  exact EvP.pos rfl (key 0 (by omega))

theorem ev_hlHas (xs : List ByteArray) (hl : xs.length ≤ 1000000) (w : ByteArray) : EvP (fun k => laws_hlHas.f k xs w) (· = xs.any (fun x => x.toList == w.toList)) := by
  have key : ∀ i, i ≤ xs.length → EvP (fun k => laws_hlHas.l0 k xs w i) (· = (xs.drop i).any (fun x => x.toList == w.toList)) := by
    refine upInd ?_ ?_
    · refine EvP.succ ?_
      simp only [laws_hlHas.l0]
      exact EvP.neg (by omega) (EvP.ret _ (by rw [List.drop_length]; rfl))
    · intro i hi ih
      refine EvP.succ ?_
      simp only [laws_hlHas.l0]
      have e : rdOf ByteArray.empty xs (i : Int) = xs[i] := getDn hi
      rw [e, w64s hi (by omega), List.drop_eq_getElem_cons hi, List.any_cons]
      refine EvP.pos (by omega) (EvP.pos (by omega) (EvP.ite (fun h => EvP.ret _ ?_) (fun h => ih.mono (fun r hr => ?_))))
      · rw [beq_iff_eq.2 h, Bool.true_or]
      · rw [hr, beq_eq_false_iff_ne.2 h, Bool.false_or]
  unfold laws_hlHas.f
  exact (key 0 (by omega)).mono (fun r hr => by rw [hr, List.drop_zero])

theorem words_len : insWords.length = 37 := by decide +kernel
theorem words_ok : ∀ i : Fin 37, insOk (insWords.getD i.val ByteArray.empty) 0 0 = true ∧ (insWords.take i.val).any (fun x => x.toList == (insWords.getD i.val ByteArray.empty).toList) = false := by decide +kernel

theorem FnInsWords : laws_FnInsWords.Pure := by
  intro l _ _ hw
  refine EvP.rounds ?_
  unfold laws_FnInsWords.f
  refine EvP.ite (fun _ => EvP.ret _ rfl) (fun _ => ?_)
  refine EvP.bind ev_impl_InsWords (fun t1 h1 => ?_)
  refine EvP.bind ev_spec_InsWords (fun t2 h2 => ?_)
  subst h1
  subst h2
  have hl := words_len
  refine EvP.bind (ev_hlTexts insWords (by omega)) (fun t3 h3 => EvP.pos h3 ?_)
  have key : ∀ i, i ≤ insWords.length → EvP (fun k => laws_FnInsWords.l0 k l insWords i) (· = true) := by
    refine upInd ?_ ?_
    · refine EvP.succ ?_
      simp only [laws_FnInsWords.l0]
      exact EvP.neg (by omega) (EvP.pos (by omega) (EvP.ret _ (decide_eq_true (by omega))))
    · intro i hi ih
      refine EvP.succ ?_
      simp only [laws_FnInsWords.l0]
      have e : rdOf ByteArray.empty insWords (i : Int) = insWords.getD i ByteArray.empty := rfl
      obtain ⟨o1, o2⟩ := words_ok ⟨i, by omega⟩
      rw [e, w64s hi (by omega), Int.toNat_natCast]
      refine EvP.pos (by omega) (EvP.pos (by omega) ?_)
      refine EvP.bind (ev_impl_InsOk _ 0 0) (fun t ht => EvP.pos (by rw [ht]; exact o1) (EvP.pos (by omega) ?_))
      refine EvP.bind (ev_hlHas (insWords.take i) (by rw [List.length_take]; omega) _) (fun u hu => EvP.neg ?_ ih)
      rw [hu, o2]
      simp
  exact key 0 (by omega)


end Go.Proofs.YtfkhjnmgaadomaaDoor.Pure
