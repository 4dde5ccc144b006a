/- InsText of the program and of the reference give the same for every instruction. -/
import Derived.Test.YtfkhjnmgaadomaaDoorOFnExactInsTextx1
import Derived.Test.YtfkhjnmgaadomaaDoorOFnExactInsTextx2
import Derived.Test.YtfkhjnmgaadomaaDoorOFnExactInsTextx3
import Derived.Test.YtfkhjnmgaadomaaDoorBase
namespace Go.Proofs.YtfkhjnmgaadomaaDoor.Pure
open Go.RowKit Go.Proofs.YtfkhjnmgaadomaaDoor.OFnExactInsText Go.Proofs.YtfkhjnmgaadomaaDoorW.PrintWords Go.Proofs.YtfkhjnmgaadomaaDoorW.PrintLast Go.Proofs.YtfkhjnmgaadomaaDoorW.PrintMore Go.Proofs.YtfkhjnmgaadomaaDoor.Base
set_option linter.unusedVariables false
set_option linter.unusedSimpArgs false

abbrev Tri := ByteArray × Int × Int

/-- The row of a word in a table. -/
def look (w : ByteArray) : List Tri → ByteArray × Int × Int × Bool
  | [] => (⟨#[]⟩, 0, 0, false)
  | x :: xs => if x.1.toList = w.toList then (x.1, x.2.1, x.2.2, true) else look w xs

def triF (x : S46) : Tri := (x.f0, x.f1, x.f2)

def triI (x : S26) : Tri := (x.f0, x.f1, x.f2)

/-- The table of the instructions. -/
def insTab : List Tri := match spec_l3Table.f with | some t => t.map triI | none => []

theorem insTab_ok : insTab.all (fun x => decide (0 ≤ x.2.1 ∧ x.2.1 ≤ 1000001 ∧ 0 ≤ x.2.2 ∧ x.2.2 ≤ 1000001)) = true := by decide +kernel

theorem look_in (w : ByteArray) : ∀ T : List Tri, T.all (fun x => decide (0 ≤ x.2.1 ∧ x.2.1 ≤ 1000001 ∧ 0 ≤ x.2.2 ∧ x.2.2 ≤ 1000001)) = true → 0 ≤ (look w T).2.1 ∧ (look w T).2.1 ≤ 1000001 ∧ 0 ≤ (look w T).2.2.1 ∧ (look w T).2.2.1 ≤ 1000001
  | [], _ => by unfold look; simp
  | x :: xs, h => by
    rw [List.all_cons, Bool.and_eq_true] at h
    unfold look
    split
    · exact of_decide_eq_true h.1
    · exact look_in w xs h.2

def insForms : List S46 := insTab.map fun x => ⟨x.1, x.2.1, x.2.2⟩

theorem forms_eq (k : Nat) : impl_insForms.f (k + 60) = some insForms := by kernel_rfl

theorem ev_impl_insForms : EvP (fun k => impl_insForms.f k) (· = insForms) := ⟨insForms, ⟨60, fun k hk => by
  obtain ⟨d, rfl⟩ := Nat.exists_eq_add_of_le' hk
  exact forms_eq d⟩, rfl⟩

theorem ev_impl_formOf (w : ByteArray) : EvP (fun k => impl_formOf.f k w) (· = look w insTab) := by
  have loop : ∀ xs : List S46, xs.length ≤ 1000 → EvP (fun k => impl_formOf.l0 k w xs (xs.length : Int) 0) (· = look w (xs.map triF)) := by
    intro xs hl
    have key : ∀ i, i ≤ xs.length → EvP (fun k => impl_formOf.l0 k w xs (xs.length : Int) i) (· = look w ((xs.drop i).map triF)) := by
      refine upInd ?_ ?_
      · refine EvP.succ ?_
        simp only [impl_formOf.l0]
        exact EvP.neg (by omega) (EvP.ret _ (by rw [List.drop_length]; rfl))
      · intro i hi ih
        refine EvP.succ ?_
        simp only [impl_formOf.l0]
        have e : rd_T46 xs (i : Int) = xs[i] := getDn hi
        rw [e, w64s hi (by omega), List.drop_eq_getElem_cons hi, List.map_cons, look]
        refine EvP.pos (by omega) (EvP.pos (by omega) (EvP.pos (by omega) (EvP.ite (fun h => EvP.ret _ ?_) (fun h => ih.mono (fun r hr => ?_)))))
        · exact (if_pos h).symm
        · rw [hr]
          exact (if_neg h).symm
    exact (key 0 (by omega)).mono (fun r hr => by rw [hr, List.drop_zero])
  unfold impl_formOf.f
  refine EvP.bind ev_impl_insForms (fun t ht => ?_)
  subst ht
  have hl : insForms.length ≤ 1000 := by decide +kernel
  have e : insForms.map triF = insTab := by
    unfold insForms
    rw [List.map_map]
    exact List.map_id _
  rw [← e]
  exact loop insForms hl

theorem ev_spec_l3Needs (w : ByteArray) : EvP (fun k => spec_l3Needs.f k w) (· = look w insTab) := by
  have loop : ∀ xs : List S26, xs.length ≤ 1000 → EvP (fun k => spec_l3Needs.l0 k w xs 0) (· = look w (xs.map triI)) := by
    intro xs hl
    have key : ∀ i, i ≤ xs.length → EvP (fun k => spec_l3Needs.l0 k w xs i) (· = look w ((xs.drop i).map triI)) := by
      refine upInd ?_ ?_
      · refine EvP.succ ?_
        simp only [spec_l3Needs.l0]
        exact EvP.neg (by omega) (EvP.ret _ (by rw [List.drop_length]; rfl))
      · intro i hi ih
        refine EvP.succ ?_
        simp only [spec_l3Needs.l0]
        have e : rd_T26 xs (i : Int) = xs[i] := getDn hi
        rw [e, w64s hi (by omega), List.drop_eq_getElem_cons hi, List.map_cons, look]
        refine EvP.pos (by omega) (EvP.pos (by omega) (EvP.ite (fun h => EvP.ret _ ?_) (fun h => ih.mono (fun r hr => ?_))))
        · exact (if_pos h).symm
        · rw [hr]
          exact (if_neg h).symm
    exact (key 0 (by omega)).mono (fun r hr => by rw [hr, List.drop_zero])
  unfold spec_l3Needs.f
  have ht : ∃ T, spec_l3Table.f = some T ∧ T.length ≤ 1000 := ⟨_, rfl, by decide +kernel⟩
  obtain ⟨T, ht, hl⟩ := ht
  have hi : insTab = T.map triI := by unfold insTab; rw [ht]
  rw [hi]
  exact EvP.call ht (loop T hl)

/-- A number is below a limit, or 0 if there is none. -/
def lim (l n : Int) : Bool := decide (n = 0 ∨ (0 < n ∧ n < l))

def insOk (w : ByteArray) (a b : Int) : Bool := (look w insTab).2.2.2 && (lim (look w insTab).2.1 a && lim (look w insTab).2.2.1 b)

theorem eq_impl_limitOk (l n : Int) : impl_limitOk.f l n = some (lim l n) := by
  unfold impl_limitOk.f lim
  by_cases h : n = 0
  · rw [if_pos h, decide_eq_true (.inl h)]
  · rw [if_neg h]
    by_cases h2 : n > 0
    · rw [if_pos h2]
      congr 1
      rw [decide_eq_decide]
      omega
    · rw [if_neg h2, decide_eq_false (by omega)]

theorem eq_spec_l3Fits (n l : Int) (h0 : 0 ≤ l) (h1 : l ≤ 1000001) : spec_l3Fits.f n l = some (lim l n) := by
  unfold spec_l3Fits.f lim spec_l6In.f
  by_cases h : l = 0
  · rw [if_pos h]
    congr 1
    rw [Bool.eq_iff_iff, beq_iff_eq, decide_eq_true_iff]
    omega
  · rw [if_neg h, w64 (by omega) (by omega)]
    by_cases h2 : n ≥ 0
    · rw [if_pos h2]
      simp only [Option.bind_some]
      congr 1
      rw [decide_eq_decide]
      omega
    · rw [if_neg h2, decide_eq_false (by omega)]
      rfl

theorem ev_impl_InsOk (w : ByteArray) (a b : Int) : EvP (fun k => impl_InsOk.f k w a b) (· = insOk w a b) := by
  unfold impl_InsOk.f insOk
  refine EvP.bind (ev_impl_formOf w) (fun t ht => ?_)
  subst ht
  refine EvP.ite (fun h => EvP.call (eq_impl_limitOk _ _) (EvP.ite (fun h2 => EvP.call (eq_impl_limitOk _ _) (EvP.ret _ ?_)) (fun h2 => EvP.ret _ ?_))) (fun h => EvP.ret _ ?_)
  · rw [h, h2, Bool.true_and, Bool.true_and]
  · rw [Bool.not_eq_true] at h2
    rw [h, h2, Bool.true_and, Bool.false_and]
  · rw [Bool.not_eq_true] at h
    rw [h, Bool.false_and]

theorem ev_spec_InsOk (w : ByteArray) (a b : Int) : EvP (fun k => spec_InsOk.f k w a b) (· = insOk w a b) := by
  unfold spec_InsOk.f insOk
  obtain ⟨r0, r1, r2, r3⟩ := look_in w insTab insTab_ok
  refine EvP.bind (ev_spec_l3Needs w) (fun t ht => ?_)
  subst ht
  refine EvP.ite (fun h => EvP.call (eq_spec_l3Fits _ _ r0 r1) (EvP.ite (fun h2 => EvP.call (eq_spec_l3Fits _ _ r2 r3) (EvP.ret _ ?_)) (fun h2 => EvP.ret _ ?_))) (fun h => EvP.ret _ ?_)
  · rw [h, h2, Bool.true_and, Bool.true_and]
  · rw [Bool.not_eq_true] at h2
    rw [h, h2, Bool.true_and, Bool.false_and]
  · rw [Bool.not_eq_true] at h
    rw [h, Bool.false_and]

/-- A number's text. -/
def dec (n : Int) : ByteArray := ⟨(Lib.itoa n).toArray⟩

theorem dec_small {n : Nat} (h : n < 10) : dec (n : Int) = strOfNums [(wrap64 (48 + (n : Int))) % 256] := by
  unfold dec Lib.itoa
  rw [if_neg (by omega), Int.toNat_natCast, Lib.decDigits, dif_pos h]
  have h2 : n = 0 ∨ n = 1 ∨ n = 2 ∨ n = 3 ∨ n = 4 ∨ n = 5 ∨ n = 6 ∨ n = 7 ∨ n = 8 ∨ n = 9 := by omega
  rcases h2 with e | e | e | e | e | e | e | e | e | e <;> subst e <;> simp [strOfNums, wrap64]

theorem dec_step {n : Nat} (h : ¬ n < 10) : dec (n : Int) = dec ((n / 10 : Nat) : Int) ++ dec ((n % 10 : Nat) : Int) := by
  have h1 : Lib.decDigits (n % 10) = [UInt8.ofNat (48 + n % 10)] := by rw [Lib.decDigits, dif_pos (by omega)]
  unfold dec Lib.itoa
  rw [if_neg (by omega), if_neg (by omega), if_neg (by omega), Int.toNat_natCast, Int.toNat_natCast, Int.toNat_natCast, h1, Lib.decDigits, dif_neg h]
  apply ByteArray.ext
  simp

theorem dec_size : ∀ n : Nat, (dec (n : Int)).size ≤ n + 1 := by
  intro n
  induction n using Nat.strongRecOn with
  | _ n ih =>
    by_cases h : n < 10
    · rw [dec_small h]
      have : (strOfNums [(wrap64 (48 + (n : Int))) % 256]).size = 1 := rfl
      omega
    · rw [dec_step h, ByteArray.size_append]
      have h1 := ih (n / 10) (by omega)
      have h2 : (dec ((n % 10 : Nat) : Int)).size = 1 := by rw [dec_small (by omega)]; rfl
      omega

theorem ev_dec_all : ∀ n : Nat, n ≤ 1000001 → EvP (fun k => spec_l6Dec.f k (n : Int)) (· = dec (n : Int)) := by
  intro n
  induction n using Nat.strongRecOn with
  | _ n ih =>
    intro hn
    refine EvP.succ ?_
    simp only [spec_l6Dec.f]
    refine EvP.neg (by omega) (EvP.neg (by omega) (EvP.ite (fun h => EvP.ret _ (dec_small (by omega)).symm) (fun h => ?_)))
    have e1 : wrap64 (Int.tdiv (n : Int) 10) = ((n / 10 : Nat) : Int) := by
      have : Int.tdiv (n : Int) 10 = ((n / 10 : Nat) : Int) := rfl
      rw [this, w64 (by omega) (by omega)]
    have e2 : Int.tmod (n : Int) 10 = ((n % 10 : Nat) : Int) := rfl
    rw [e1, e2]
    refine EvP.bind (ih (n / 10) (by omega) (by omega)) (fun t ht => ?_)
    simp only [Option.bind_some]
    have hs := dec_size (n / 10)
    have h1 : (strOfNums [(wrap64 (48 + ((n % 10 : Nat) : Int))) % 256]).size = 1 := rfl
    refine EvP.pos (by rw [ht]; omega) (EvP.ret _ ?_)
    rw [ht, ← dec_small (by omega : n % 10 < 10), ← dec_step (by omega)]

/-- An instruction's text. -/
def insText (w : ByteArray) (a b : Int) : ByteArray :=
  if insOk w a b = true then (if (look w insTab).2.1 = 0 then w else if (look w insTab).2.2.1 = 0 then w ++ ((⟨#[32]⟩ : ByteArray) ++ dec a) else (w ++ ((⟨#[32]⟩ : ByteArray) ++ dec a)) ++ ((⟨#[32]⟩ : ByteArray) ++ dec b)) else ⟨#[]⟩

theorem lim_num {l n : Int} (h : lim l n = true) (h1 : l ≤ 1000001) (h0 : 0 ≤ l) : 0 ≤ n ∧ n ≤ 1000001 := by
  have := of_decide_eq_true h
  omega
theorem ins_num {w : ByteArray} {a b : Int} (h : insOk w a b = true) : (0 ≤ a ∧ a ≤ 1000001) ∧ 0 ≤ b ∧ b ≤ 1000001 := by
  obtain ⟨r0, r1, r2, r3⟩ := look_in w insTab insTab_ok
  unfold insOk at h
  rw [Bool.and_eq_true, Bool.and_eq_true] at h
  exact ⟨lim_num h.2.1 r1 r0, lim_num h.2.2 r3 r2⟩

theorem look_two_of (w : ByteArray) : ∀ T : List Tri, T.all (fun x => decide (x.2.1 = 0 → x.2.2 = 0)) = true → (look w T).2.1 = 0 → (look w T).2.2.1 = 0
  | [], _, _ => rfl
  | x :: xs, h, h0 => by
    rw [List.all_cons, Bool.and_eq_true] at h
    unfold look at h0 ⊢
    split
    · rename_i hc
      rw [if_pos hc] at h0
      exact of_decide_eq_true h.1 h0
    · rename_i hc
      rw [if_neg hc] at h0
      exact look_two_of w xs h.2 h0
theorem look_two (w : ByteArray) : (look w insTab).2.1 = 0 → (look w insTab).2.2.1 = 0 := look_two_of w insTab (by decide +kernel)

theorem eq_itoa {a : Int} (h0 : 0 ≤ a) (h1 : a ≤ 1000001) : strconv_Itoa.f a = some (dec a) := by
  unfold strconv_Itoa.f
  rw [if_pos (by omega)]
  rfl

theorem ev_impl_InsText (w : ByteArray) (hw : w.size ≤ 2000000) (a b : Int) : EvP (fun k => impl_InsText.f k w a b) (· = insText w a b) := by
  unfold impl_InsText.f insText
  refine EvP.bind (ev_impl_InsOk w a b) (fun t ht => ?_)
  subst ht
  refine EvP.ite (fun h => ?_) (fun h => EvP.ret _ (by rw [if_neg h]))
  rw [if_pos h]
  obtain ⟨⟨a0, a1⟩, b0, b1⟩ := ins_num h
  obtain ⟨r0, r1, r2, r3⟩ := look_in w insTab insTab_ok
  have sa := dec_size a.toNat
  have sb := dec_size b.toNat
  have ea : ((a.toNat : Nat) : Int) = a := by omega
  have eb : ((b.toNat : Nat) : Int) = b := by omega
  rw [ea] at sa
  rw [eb] at sb
  have s1 : ((⟨#[32]⟩ : ByteArray) ++ dec a).size = 1 + (dec a).size := by rw [ByteArray.size_append]; rfl
  have s2 : ((⟨#[32]⟩ : ByteArray) ++ dec b).size = 1 + (dec b).size := by rw [ByteArray.size_append]; rfl
  have ht : EvP (fun k => impl_insText.f k w a b) (· = (if (look w insTab).2.1 = 0 then w else if (look w insTab).2.2.1 = 0 then w ++ ((⟨#[32]⟩ : ByteArray) ++ dec a) else (w ++ ((⟨#[32]⟩ : ByteArray) ++ dec a)) ++ ((⟨#[32]⟩ : ByteArray) ++ dec b))) := by
    unfold impl_insText.f
    refine EvP.bind (ev_impl_formOf w) (fun t ht => ?_)
    subst ht
    have many : impl_insForm_many.f (look w insTab).1 (look w insTab).2.1 (look w insTab).2.2.1 = some (if (look w insTab).2.1 = 0 then 0 else if (look w insTab).2.2.1 = 0 then 1 else 2) := by
      unfold impl_insForm_many.f
      by_cases h1 : (look w insTab).2.1 = 0
      · rw [if_pos h1, if_pos h1]
      · rw [if_neg h1, if_neg h1]
        by_cases h2 : (look w insTab).2.2.1 = 0
        · rw [if_pos h2, if_pos h2]
        · rw [if_neg h2, if_neg h2]
    refine EvP.call many ?_
    by_cases h1 : (look w insTab).2.1 = 0
    · rw [if_pos h1, if_pos h1]
      refine EvP.neg (by omega) (EvP.succ ?_)
      simp only [impl_insText.j0]
      refine EvP.call many ?_
      rw [if_pos h1]
      exact EvP.neg (by omega) (EvP.ret _ rfl)
    · rw [if_neg h1, if_neg h1]
      refine EvP.pos (by split <;> omega) (EvP.call (eq_itoa a0 a1) (EvP.pos (by omega) (EvP.pos (by omega) (EvP.succ ?_))))
      simp only [impl_insText.j0]
      refine EvP.call many ?_
      rw [if_neg h1]
      by_cases h2 : (look w insTab).2.2.1 = 0
      · rw [if_pos h2, if_pos h2]
        exact EvP.neg (by omega) (EvP.ret _ rfl)
      · rw [if_neg h2, if_neg h2]
        have s3 : (w ++ ((⟨#[32]⟩ : ByteArray) ++ dec a)).size = w.size + (1 + (dec a).size) := by rw [ByteArray.size_append, s1]
        exact EvP.pos (by omega) (EvP.call (eq_itoa b0 b1) (EvP.pos (by omega) (EvP.pos (by omega) (EvP.ret _ rfl))))
  exact EvP.bind ht (fun t hq => EvP.ret _ hq)

theorem ev_spec_InsText (w : ByteArray) (hw : w.size ≤ 2000000) (a b : Int) : EvP (fun k => spec_InsText.f k w a b) (· = insText w a b) := by
  unfold spec_InsText.f insText
  refine EvP.bind (ev_spec_InsOk w a b) (fun t ht => ?_)
  subst ht
  refine EvP.ite (fun h => ?_) (fun h => EvP.ret _ (by rw [if_neg h]))
  rw [if_pos h]
  obtain ⟨⟨a0, a1⟩, b0, b1⟩ := ins_num h
  obtain ⟨r0, r1, r2, r3⟩ := look_in w insTab insTab_ok
  have sa := dec_size a.toNat
  have sb := dec_size b.toNat
  have da := ev_dec_all a.toNat (by omega)
  have db := ev_dec_all b.toNat (by omega)
  have ea : ((a.toNat : Nat) : Int) = a := by omega
  have eb : ((b.toNat : Nat) : Int) = b := by omega
  rw [ea] at sa da
  rw [eb] at sb db
  have s0 : (w ++ (⟨#[32]⟩ : ByteArray)).size = w.size + 1 := by rw [ByteArray.size_append]; rfl
  refine EvP.bind (ev_spec_l3Needs w) (fun t ht => ?_)
  subst ht
  refine EvP.ite (fun h1 => ?_) (fun h1 => ?_)
  · rw [if_neg (by omega)]
    refine EvP.pos (by omega) (EvP.bind da (fun t ht => ?_))
    subst ht
    have s1 : ((w ++ (⟨#[32]⟩ : ByteArray)) ++ dec a).size = w.size + 1 + (dec a).size := by rw [ByteArray.size_append, s0]
    refine EvP.pos (by omega) (EvP.ite (fun h2 => ?_) (fun h2 => EvP.ret _ ?_))
    · rw [if_neg (by omega)]
      refine EvP.pos (by omega) (EvP.bind db (fun t ht => ?_))
      subst ht
      have s2 : (((w ++ (⟨#[32]⟩ : ByteArray)) ++ dec a) ++ (⟨#[32]⟩ : ByteArray)).size = w.size + 1 + (dec a).size + 1 := by rw [ByteArray.size_append, s1]; rfl
      refine EvP.pos (by omega) (EvP.ret _ ?_)
      simp only [ByteArray.append_assoc]
    · rw [if_pos (by omega)]
      simp only [ByteArray.append_assoc]
  · have h3 : (look w insTab).2.1 = 0 := by omega
    have h4 := look_two w h3
    rw [if_pos h3]
    exact EvP.neg (by omega) (EvP.ret _ rfl)

theorem FnExactInsText (s : ByteArray) (a b : Int) (_g : gStr s ∧ gInt a ∧ gInt b) : ∃ k, laws_FnExactInsText.f k s a b = some true := by
  refine EvP.rounds ?_
  unfold laws_FnExactInsText.f laws_szIns.f laws_toIns.f
  by_cases h : (wrap64 (1048576 - (s.size : Int))) < 0
  · simp only [if_pos h, Option.bind_some]
    exact EvP.pos (by decide) (EvP.ret _ rfl)
  · have hw : s.size ≤ 2000000 := by
      have g := _g.1
      unfold gStr at g
      rw [w64 (by omega) (by omega)] at h
      omega
    simp only [if_neg h, Option.bind_some]
    refine EvP.bind (ev_spec_InsText s hw a b) (fun t ht => EvP.bind (ev_impl_InsText s hw a b) (fun u hu => EvP.pos ?_ (EvP.ret _ rfl)))
    rw [ht, hu]


end Go.Proofs.YtfkhjnmgaadomaaDoor.Pure
