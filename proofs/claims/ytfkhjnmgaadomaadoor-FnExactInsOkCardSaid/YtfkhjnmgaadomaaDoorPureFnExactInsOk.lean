/- InsOk of the program and of the reference give the same for every instruction. -/
import Derived.Test.YtfkhjnmgaadomaaDoorOFnExactInsOkx1
import Derived.Test.YtfkhjnmgaadomaaDoorOFnExactInsOkx2
import Derived.Test.YtfkhjnmgaadomaaDoorBase
namespace Go.Proofs.YtfkhjnmgaadomaaDoor.Pure
open Go.RowKit Go.Proofs.YtfkhjnmgaadomaaDoor.OFnExactInsOk Go.Proofs.YtfkhjnmgaadomaaDoorW.PrintWords Go.Proofs.YtfkhjnmgaadomaaDoorW.PrintLast Go.Proofs.YtfkhjnmgaadomaaDoorW.PrintMore Go.Proofs.YtfkhjnmgaadomaaDoor.Base
set_option linter.unusedVariables false
set_option linter.unusedSimpArgs false

abbrev Tri := ByteArray × Int × Int

/-- The row of a word in a table. -/
def look (w : ByteArray) : List Tri → ByteArray × Int × Int × Bool
  | [] => (⟨#[]⟩, 0, 0, false)
  | x :: xs => if x.1.toList = w.toList then (x.1, x.2.1, x.2.2, true) else look w xs

def triF (x : S46) : Tri := (x.f0, x.f1, x.f2)

def triI (x : S26) : Tri := (x.f0, x.f1, x.f2)

/-- The table of the instructions. -/
def insTab : List Tri := match spec_l3Table.f with | some t => t.map triI | none => []

theorem insTab_ok : insTab.all (fun x => decide (0 ≤ x.2.1 ∧ x.2.1 ≤ 1000001 ∧ 0 ≤ x.2.2 ∧ x.2.2 ≤ 1000001)) = true := by decide +kernel

theorem look_in (w : ByteArray) : ∀ T : List Tri, T.all (fun x => decide (0 ≤ x.2.1 ∧ x.2.1 ≤ 1000001 ∧ 0 ≤ x.2.2 ∧ x.2.2 ≤ 1000001)) = true → 0 ≤ (look w T).2.1 ∧ (look w T).2.1 ≤ 1000001 ∧ 0 ≤ (look w T).2.2.1 ∧ (look w T).2.2.1 ≤ 1000001
  | [], _ => by unfold look; simp
  | x :: xs, h => by
    rw [List.all_cons, Bool.and_eq_true] at h
    unfold look
    split
    · exact of_decide_eq_true h.1
    · exact look_in w xs h.2

def insForms : List S46 := insTab.map fun x => ⟨x.1, x.2.1, x.2.2⟩

theorem forms_eq (k : Nat) : impl_insForms.f (k + 60) = some insForms := by kernel_rfl

theorem ev_impl_insForms : EvP (fun k => impl_insForms.f k) (· = insForms) := ⟨insForms, ⟨60, fun k hk => by
  obtain ⟨d, rfl⟩ := Nat.exists_eq_add_of_le' hk
  exact forms_eq d⟩, rfl⟩

theorem ev_impl_formOf (w : ByteArray) : EvP (fun k => impl_formOf.f k w) (· = look w insTab) := by
  have loop : ∀ xs : List S46, xs.length ≤ 1000 → EvP (fun k => impl_formOf.l0 k w xs (xs.length : Int) 0) (· = look w (xs.map triF)) := by
    intro xs hl
    have key : ∀ i, i ≤ xs.length → EvP (fun k => impl_formOf.l0 k w xs (xs.length : Int) i) (· = look w ((xs.drop i).map triF)) := by
      refine upInd ?_ ?_
      · refine EvP.succ ?_
        simp only [impl_formOf.l0]
        exact EvP.neg (by omega) (EvP.ret _ (by rw [List.drop_length]; rfl))
      · intro i hi ih
        refine EvP.succ ?_
        simp only [impl_formOf.l0]
        have e : rd_T46 xs (i : Int) = xs[i] := getDn hi
        rw [e, w64s hi (by omega), List.drop_eq_getElem_cons hi, List.map_cons, look]
        refine EvP.pos (by omega) (EvP.pos (by omega) (EvP.pos (by omega) (EvP.ite (fun h => EvP.ret _ ?_) (fun h => ih.mono (fun r hr => ?_)))))
        · exact (if_pos h).symm
        · rw [hr]
          exact (if_neg h).symm
    exact (key 0 (by omega)).mono (fun r hr => by rw [hr, List.drop_zero])
  unfold impl_formOf.f
  refine EvP.bind ev_impl_insForms (fun t ht => ?_)
  subst ht
  have hl : insForms.length ≤ 1000 := by decide +kernel
  have e : insForms.map triF = insTab := by
    unfold insForms
    rw [List.map_map]
    exact List.map_id _
  rw [← e]
  exact loop insForms hl

theorem ev_spec_l3Needs (w : ByteArray) : EvP (fun k => spec_l3Needs.f k w) (· = look w insTab) := by
  have loop : ∀ xs : List S26, xs.length ≤ 1000 → EvP (fun k => spec_l3Needs.l0 k w xs 0) (· = look w (xs.map triI)) := by
    intro xs hl
    have key : ∀ i, i ≤ xs.length → EvP (fun k => spec_l3Needs.l0 k w xs i) (· = look w ((xs.drop i).map triI)) := by
      refine upInd ?_ ?_
      · refine EvP.succ ?_
        simp only [spec_l3Needs.l0]
        exact EvP.neg (by omega) (EvP.ret _ (by rw [List.drop_length]; rfl))
      · intro i hi ih
        refine EvP.succ ?_
        simp only [spec_l3Needs.l0]
        have e : rd_T26 xs (i : Int) = xs[i] := getDn hi
        rw [e, w64s hi (by omega), List.drop_eq_getElem_cons hi, List.map_cons, look]
        refine EvP.pos (by omega) (EvP.pos (by omega) (EvP.ite (fun h => EvP.ret _ ?_) (fun h => ih.mono (fun r hr => ?_))))
        · exact (if_pos h).symm
        · rw [hr]
          exact (if_neg h).symm
    exact (key 0 (by omega)).mono (fun r hr => by rw [hr, List.drop_zero])
  unfold spec_l3Needs.f
  have ht : ∃ T, spec_l3Table.f = some T ∧ T.length ≤ 1000 := ⟨_, rfl, by decide +kernel⟩
  obtain ⟨T, ht, hl⟩ := ht
  have hi : insTab = T.map triI := by unfold insTab; rw [ht]
  rw [hi]
  exact EvP.call ht (loop T hl)

/-- A number is below a limit, or 0 if there is none. -/
def lim (l n : Int) : Bool := decide (n = 0 ∨ (0 < n ∧ n < l))

def insOk (w : ByteArray) (a b : Int) : Bool := (look w insTab).2.2.2 && (lim (look w insTab).2.1 a && lim (look w insTab).2.2.1 b)

theorem eq_impl_limitOk (l n : Int) : impl_limitOk.f l n = some (lim l n) := by
  unfold impl_limitOk.f lim
  by_cases h : n = 0
  · rw [if_pos h, decide_eq_true (.inl h)]
  · rw [if_neg h]
    by_cases h2 : n > 0
    · rw [if_pos h2]
      congr 1
      rw [decide_eq_decide]
      omega
    · rw [if_neg h2, decide_eq_false (by omega)]

theorem eq_spec_l3Fits (n l : Int) (h0 : 0 ≤ l) (h1 : l ≤ 1000001) : spec_l3Fits.f n l = some (lim l n) := by
  unfold spec_l3Fits.f lim spec_l6In.f
  by_cases h : l = 0
  · rw [if_pos h]
    congr 1
    rw [Bool.eq_iff_iff, beq_iff_eq, decide_eq_true_iff]
    omega
  · rw [if_neg h, w64 (by omega) (by omega)]
    by_cases h2 : n ≥ 0
    · rw [if_pos h2]
      simp only [Option.bind_some]
      congr 1
      rw [decide_eq_decide]
      omega
    · rw [if_neg h2, decide_eq_false (by omega)]
      rfl

theorem ev_impl_InsOk (w : ByteArray) (a b : Int) : EvP (fun k => impl_InsOk.f k w a b) (· = insOk w a b) := by
  unfold impl_InsOk.f insOk
  refine EvP.bind (ev_impl_formOf w) (fun t ht => ?_)
  subst ht
  refine EvP.ite (fun h => EvP.call (eq_impl_limitOk _ _) (EvP.ite (fun h2 => EvP.call (eq_impl_limitOk _ _) (EvP.ret _ ?_)) (fun h2 => EvP.ret _ ?_))) (fun h => EvP.ret _ ?_)
  · rw [h, h2, Bool.true_and, Bool.true_and]
  · rw [Bool.not_eq_true] at h2
    rw [h, h2, Bool.true_and, Bool.false_and]
  · rw [Bool.not_eq_true] at h
    rw [h, Bool.false_and]

theorem ev_spec_InsOk (w : ByteArray) (a b : Int) : EvP (fun k => spec_InsOk.f k w a b) (· = insOk w a b) := by
  unfold spec_InsOk.f insOk
  obtain ⟨r0, r1, r2, r3⟩ := look_in w insTab insTab_ok
  refine EvP.bind (ev_spec_l3Needs w) (fun t ht => ?_)
  subst ht
  refine EvP.ite (fun h => EvP.call (eq_spec_l3Fits _ _ r0 r1) (EvP.ite (fun h2 => EvP.call (eq_spec_l3Fits _ _ r2 r3) (EvP.ret _ ?_)) (fun h2 => EvP.ret _ ?_))) (fun h => EvP.ret _ ?_)
  · rw [h, h2, Bool.true_and, Bool.true_and]
  · rw [Bool.not_eq_true] at h2
    rw [h, h2, Bool.true_and, Bool.false_and]
  · rw [Bool.not_eq_true] at h
    rw [h, Bool.false_and]

theorem FnExactInsOk (s : ByteArray) (a b : Int) (_g : gStr s ∧ gInt a ∧ gInt b) : ∃ k, laws_FnExactInsOk.f k s a b = some true := by
  refine EvP.rounds ?_
  unfold laws_FnExactInsOk.f laws_szIns.f laws_toIns.f
  have key : EvP (fun k => (spec_InsOk.f k s a b).bind fun t186 => ((impl_InsOk.f k s a b).bind fun t190 => (if (t190 != t186) = true then (some false) else (some true)))) (· = true) := by
    refine EvP.bind (ev_spec_InsOk s a b) (fun t ht => EvP.bind (ev_impl_InsOk s a b) (fun u hu => EvP.neg ?_ (EvP.ret _ rfl)))
    rw [ht, hu]
    simp
  by_cases h : (wrap64 (1048576 - (s.size : Int))) < 0
  · simp only [if_pos h, Option.bind_some]
    exact EvP.pos (by decide) (EvP.ret _ rfl)
  · simp only [if_neg h, Option.bind_some]
    exact key


end Go.Proofs.YtfkhjnmgaadomaaDoor.Pure
