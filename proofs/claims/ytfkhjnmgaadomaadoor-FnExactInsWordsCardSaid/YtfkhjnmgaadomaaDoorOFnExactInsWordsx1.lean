-- Laid by a program of this session (wip/myprint.py): the kit's print of the functions, contracts of our own among them.
import Derived.Test.YtfkhjnmgaadomaaDoorOFnExactInsWordsx0
namespace Go.Proofs.YtfkhjnmgaadomaaDoor.OFnExactInsWords
open Go.RowKit Go.Proofs.YtfkhjnmgaadomaaDoorW.PrintWords Go.Proofs.YtfkhjnmgaadomaaDoorW.PrintLast Go.Proofs.YtfkhjnmgaadomaaDoorW.PrintMore
attribute [local go_sem] max2_int min2_int max_two min_two max_three min_three max_four min_four   -- for this text's walks alone
set_option linter.unusedVariables false
set_option linter.unusedSimpArgs false

/-! ### strings_Fields: function 51 -/
theorem tabIs_below {P : Program} {w W : World} {name : String} {k : IntKind} {zs : List Int} (h : Lib.TabIs P w name k zs) (hb : Below w.heap.size w W) : Lib.TabIs P W name k zs := by
  unfold Lib.TabIs World.var? at h ⊢
  cases hg : P.globalNamed name with
  | none => rw [hg] at h; cases h
  | some g =>
    rw [hg] at h
    simp only [Option.bind_some] at h ⊢
    have hlt : g < w.heap.size := by
      rcases Nat.lt_or_ge g w.heap.size with h' | h'
      · exact h'
      · rw [Array.getElem?_eq_none h'] at h; cases h
    rw [hb.block g hlt]
    exact h
/-- What stands in the world ahead of the call, and is asked by what it comes to in the library. -/
structure Tab (w : World) : Prop where
  f1 : Lib.TabIs Tryd.prog w "strings.asciiSpace" .u8 Lib.asciiSpaceTab
theorem Tab.below {w W : World} (h : Tab w) (hb : Below w.heap.size w W) : Tab W := ⟨tabIs_below h.f1 hb⟩

def asciiB (s : ByteArray) : Bool := s.data.toList.all fun b => decide (b.toNat < 128)
def strings_Fields.f (s : ByteArray) : Option (List ByteArray) := if s.size < 1000000 ∧ asciiB s = true ∧ (Lib.fields s.data.toList).length ≤ 1000000 then some ((Lib.fields s.data.toList).map fun l => ⟨l.toArray⟩) else none
theorem strings_Fields.calls (a0 : ByteArray) (r : List ByteArray) (w : World) (hT_ : Tab w) (h : strings_Fields.f a0 = some r) :
    Calls Tryd.prog 51 #[.string a0] w fun e w' => ∃ v0_ : Value, e = .returned (v0_) ∧ Kd.R Kd.string 9 w' w.heap.size (fun _ => True) v0_ r ∧ Below w.heap.size w w' := by
  unfold strings_Fields.f at h
  split at h
  · rename_i hc
    obtain rfl := Option.some.inj h
    have ha : ∀ (j : Nat) b, a0.data.toList[j]? = some b → b.toNat < 128 := by
      intro j b hb
      have h2 := List.all_eq_true.1 hc.2.1 b (List.mem_of_getElem? hb)
      exact of_decide_eq_true h2
    refine (Tryd.strings_Fields_laid a0 w (by omega) ha hT_.f1).mono ?_
    rintro e w' ⟨rfl, rfl⟩
    refine ⟨_, rfl, Kd.R_of_own ?_ (fun _ _ => trivial), below_alloc (Below.refl _ _) _⟩
    have hl := hc.2.2
    refine ⟨by simp [encs_length], .inr ⟨w.heap.size, _, _, by rw [List.length_map], Nat.le_refl _, heap_alloc_new w _, Nat.le_refl _, ?_, ?_, ?_⟩⟩
    · have hm : (1000000 : Nat) ≤ maxLen := by decide
      exact Nat.le_trans (by simpa using hl) hm
    · simp
    · rw [List.take_of_length_le (by simp)]
      simp [encs]
  · cases h

/-! ### impl_insForms: function 34 -/
mutual
def impl_insForms.l0 : Nat → List (S46) → List ByteArray → Int → Int → Option ((List (S46)))
 | 0,_,_,_,_ => none
 | k + 1,x1,x8,x9,x10 => if x10 < x9 then (if 0 ≤ x10 then (if x10 < (x8.length : Int) then (if x1.length < 4398046511104 then (impl_insForms.l0 k (x1 ++ [(⟨rdOf ByteArray.empty x8 x10,0,0⟩ : S46)]) x8 x9 (wrap64 (x10 + 1))) else (none)) else (none)) else (none)) else ((some (([(⟨(⟨#[99,111,112,121]⟩ : ByteArray),6,0⟩ : S46),(⟨(⟨#[109,111,118,101]⟩ : ByteArray),6,0⟩ : S46),(⟨(⟨#[112,117,116]⟩ : ByteArray),6,0⟩ : S46),(⟨(⟨#[100,114,111,112]⟩ : ByteArray),0,0⟩ : S46)] : List (S46)) : List (S46))).bind fun y111 => (if x1.length + y111.length < 4398046511104 then ((some (x1 ++ y111 : List (S46))).bind fun y114 => ((some (([(⟨(⟨#[112,97,99,107]⟩ : ByteArray),3,0⟩ : S46),(⟨(⟨#[117,110,112,97,99,107]⟩ : ByteArray),3,0⟩ : S46),(⟨(⟨#[108,101,110,100]⟩ : ByteArray),6,0⟩ : S46),(⟨(⟨#[108,101,110,100,119]⟩ : ByteArray),6,0⟩ : S46),(⟨(⟨#[102,105,101,108,100]⟩ : ByteArray),3,3⟩ : S46)] : List (S46)) : List (S46))).bind fun y117 => (if y114.length + y117.length < 4398046511104 then ((some (y114 ++ y117 : List (S46))).bind fun y120 => ((some (([(⟨(⟨#[114,101,97,100]⟩ : ByteArray),0,0⟩ : S46),(⟨(⟨#[112,101,101,107]⟩ : ByteArray),0,0⟩ : S46),(⟨(⟨#[119,114,105,116,101]⟩ : ByteArray),0,0⟩ : S46),(⟨(⟨#[102,114,101,101,122,101]⟩ : ByteArray),0,0⟩ : S46)] : List (S46)) : List (S46))).bind fun y123 => (if y120.length + y123.length < 4398046511104 then ((strings_Fields.f (⟨#[107,101,101,112,32,116,97,107,101,32,104,97,115,32,115,101,101,32,115,101,101,119]⟩ : ByteArray)).bind fun t129 => (impl_insForms.l1 k (y120 ++ y123) t129 (t129.length : Int) 0)) else (none)))) else (none)))) else (none)))
def impl_insForms.l1 : Nat → List (S46) → List ByteArray → Int → Int → Option ((List (S46)))
 | 0,_,_,_,_ => none
 | k + 1,x1,x42,x43,x44 => if x44 < x43 then (if 0 ≤ x44 then (if x44 < (x42.length : Int) then (if x1.length < 4398046511104 then (impl_insForms.l1 k (x1 ++ [(⟨rdOf ByteArray.empty x42 x44,3,0⟩ : S46)]) x42 x43 (wrap64 (x44 + 1))) else (none)) else (none)) else (none)) else ((some (([(⟨(⟨#[106,117,109,112]⟩ : ByteArray),40,0⟩ : S46),(⟨(⟨#[122,101,114,111]⟩ : ByteArray),40,0⟩ : S46),(⟨(⟨#[99,97,108,108]⟩ : ByteArray),3,4⟩ : S46),(⟨(⟨#[114,101,116]⟩ : ByteArray),0,0⟩ : S46),(⟨(⟨#[102,97,105,108]⟩ : ByteArray),0,0⟩ : S46)] : List (S46)) : List (S46))).bind fun y136 => (if x1.length + y136.length < 4398046511104 then (some (x1 ++ y136)) else (none)))
end
def impl_insForms.f (k : Nat)  : Option ((List (S46))):=(strings_Fields.f (⟨#[116,114,117,101,32,102,97,108,115,101,32,109,101,32,97,100,100,32,115,117,98,32,109,117,108,32,100,105,118,32,109,111,100,32,108,101,115,115,32,115,97,109,101,32,97,110,100,32,111,114,32,110,111,116]⟩ : ByteArray)).bind fun t104 => (impl_insForms.l0 k (([(⟨(⟨#[110,117,109]⟩ : ByteArray),1000001,0⟩ : S46)] : List (S46))) t104 (t104.length : Int) 0)
theorem impl_insForms.mono_l : ∀ k,(∀ y0 y1 y2 y3,LeO (impl_insForms.l0 k y0 y1 y2 y3) (impl_insForms.l0 (k + 1) y0 y1 y2 y3)) ∧ (∀ y0 y1 y2 y3,LeO (impl_insForms.l1 k y0 y1 y2 y3) (impl_insForms.l1 (k + 1) y0 y1 y2 y3))
 | 0 => ⟨fun _ _ _ _ r h => by simp [impl_insForms.l0] at h,fun _ _ _ _ r h => by simp [impl_insForms.l1] at h⟩
 | k + 1 => by
  obtain ⟨ih0,ih1⟩:=impl_insForms.mono_l k
  refine ⟨?_,?_⟩
  ·intro y0 y1 y2 y3
   unfold impl_insForms.l0
   repeat' first
   | (with_reducible exact ih0 _ _ _ _)
   | (with_reducible exact ih1 _ _ _ _)
   | (with_reducible exact LeO.refl _)
   | (with_reducible exact LeO.none _)
   | (with_reducible refine LeO.ite ?_ ?_)
   | (with_reducible refine LeO.bind ?_ (fun _ => ?_))
   | exact ih0 _ _ _ _
   | exact ih1 _ _ _ _
   | exact LeO.none _
   | refine LeO.ite ?_ ?_
   | refine LeO.bind ?_ (fun _ => ?_)
  ·intro y0 y1 y2 y3
   unfold impl_insForms.l1
   repeat' first
   | (with_reducible exact ih0 _ _ _ _)
   | (with_reducible exact ih1 _ _ _ _)
   | (with_reducible exact LeO.refl _)
   | (with_reducible exact LeO.none _)
   | (with_reducible refine LeO.ite ?_ ?_)
   | (with_reducible refine LeO.bind ?_ (fun _ => ?_))
   | exact ih0 _ _ _ _
   | exact ih1 _ _ _ _
   | exact LeO.none _
   | refine LeO.ite ?_ ?_
   | refine LeO.bind ?_ (fun _ => ?_)
theorem impl_insForms.mono : ∀ k,LeO (impl_insForms.f k ) (impl_insForms.f (k + 1) ):=by
 intro  k
 obtain ⟨ih0,ih1⟩:=impl_insForms.mono_l k
 unfold impl_insForms.f
 repeat' first
   | (with_reducible exact ih0 _ _ _ _)
   | (with_reducible exact ih1 _ _ _ _)
   | (with_reducible exact LeO.refl _)
   | (with_reducible exact LeO.none _)
   | (with_reducible refine LeO.ite ?_ ?_)
   | (with_reducible refine LeO.bind ?_ (fun _ => ?_))
   | exact ih0 _ _ _ _
   | exact ih1 _ _ _ _
   | exact LeO.none _
   | refine LeO.ite ?_ ?_
   | refine LeO.bind ?_ (fun _ => ?_)
set_option maxHeartbeats 8000000 in
set_option maxRecDepth 100000 in
theorem impl_insForms.calls (k : Nat)  (r : List (S46)) (w : World) (hT_ : Tab w) (h : impl_insForms.f k  = some r) :
  Calls Tryd.prog 34 #[] w fun e w' => ∃ v0_ : Value,e = .returned (v0_) ∧ Kd.R k46 46 w' w.heap.size (fun _ => True) v0_ r ∧ Below w.heap.size w w':=by
 have hu46:=Tryd.underlying46
 have HB:=Aside0.mk (Below.refl w.heap.size w)
 have H : ((strings_Fields.f (⟨#[116,114,117,101,32,102,97,108,115,101,32,109,101,32,97,100,100,32,115,117,98,32,109,117,108,32,100,105,118,32,109,111,100,32,108,101,115,115,32,115,97,109,101,32,97,110,100,32,111,114,32,110,111,116]⟩ : ByteArray)).bind fun t104 => (impl_insForms.l0 k (([(⟨(⟨#[110,117,109]⟩ : ByteArray),1000001,0⟩ : S46)] : List (S46))) t104 (t104.length : Int) 0)) = some r:=h
 clear h
 obtain ⟨y101,hy101⟩ : ∃ y_ : List (S46),y_ = (([(⟨(⟨#[110,117,109]⟩ : ByteArray),1000001,0⟩ : S46)] : List (S46))):=⟨_,rfl⟩
 replace H : ((strings_Fields.f (⟨#[116,114,117,101,32,102,97,108,115,101,32,109,101,32,97,100,100,32,115,117,98,32,109,117,108,32,100,105,118,32,109,111,100,32,108,101,115,115,32,115,97,109,101,32,97,110,100,32,111,114,32,110,111,116]⟩ : ByteArray)).bind fun t104 => (impl_insForms.l0 k y101 t104 (t104.length : Int) 0)) = some r:=by first | (rw [hy101];with_reducible exact H) | (have H2_:=(Option.bind_some _ _).symm.trans H;rw [hy101];with_reducible exact H2_) | (have H2_:=(Option.bind_some _ _).symm.trans H;with_reducible exact H2_) | with_reducible exact H | (rw [hy101];exact H) | exact H
 have Ny101:=Aside0.mk hy101
 clear hy101
 replace H:=Option.bind_eq_some_iff.mp H
 obtain ⟨t104,A10,H⟩:=H
 replace H : (impl_insForms.l0 k y101 t104 (t104.length : Int) 0) = some r:=H
 have A1:=Aside0.mk A10
 clear A10
 have H':=Aside0.mk H
 clear H
 go_enter Tryd.func34,Tryd.ntmps34
 go_wp2_with (first | ((with_reducible refine gate_dst (N:=7) rfl ?_);refine Kd.R_lit k46 _ 46 ?hg (N:=7) ?hd (xs:=([(⟨(⟨#[110,117,109]⟩ : ByteArray),1000001,0⟩ : S46)] : List (S46))) (inner:=[.string (⟨#[110,117,109]⟩ : ByteArray),.int .i64 1000001,.int .i64 0]) (ok:=fun _ => True) (okp:=fun _ => True) ?hr ?hp (fun _ hk => hk) trivial (Below.refl _ _) (Nat.le_refl _) (by simp) ?_;(case hd => rfl);(case hg => rfl);(case hr => first | (go_simp;done) | (go_simp;rfl));(case hp => exact (Reps.c3 (show Kd.M k46 _ _ _ (⟨(⟨#[110,117,109]⟩ : ByteArray),1000001,0⟩ : S46) [.string (⟨#[110,117,109]⟩ : ByteArray),.int .i64 1000001,.int .i64 0] from (k46_mkM _ _ _ (⟨(⟨#[110,117,109]⟩ : ByteArray),1000001,0⟩ : S46) )) (Reps.none _ _)));intro v102 w2 ho3 hb hg_ hnew_;clear hg_ hnew_;(first | rw [← Ny101.out] at ho3 | (simp only [Int.reduceToNat] at ho3;rw [← Ny101.out] at ho3));have n0_:=Aside0.mk (Kd.R_lower ho3 (below_size (Up.Bup HB)));have n1_:=Up.BB HB hb;clear HB;have HO103:=n0_;have HB:=n1_;clear n0_ n1_ hb ho3) | ((with_reducible refine gate_callee (f:=51) rfl ?_);refine Up.gl (some 8) Tryd.func51 #[.string (⟨#[116,114,117,101,32,102,97,108,115,101,32,109,101,32,97,100,100,32,115,117,98,32,109,117,108,32,100,105,118,32,109,111,100,32,108,101,115,115,32,115,97,109,101,32,97,110,100,32,111,114,32,110,111,116]⟩ : ByteArray)] ?_;(with_reducible refine (strings_Fields.calls (hT_:=?tab1) (⟨#[116,114,117,101,32,102,97,108,115,101,32,109,101,32,97,100,100,32,115,117,98,32,109,117,108,32,100,105,118,32,109,111,100,32,108,101,115,115,32,115,97,109,101,32,97,110,100,32,111,114,32,110,111,116]⟩ : ByteArray) t104 _ A1.out).mono ?_);(case tab1 => exact hT_.below (Up.Bx HB));rintro e w4 ⟨v105,rfl,ho0,hb⟩;refine ⟨_,rfl,?_⟩;have n0_:=Up.RB HO103 hb;have n1_:=Aside0.mk (Kd.R_lower ho0 (below_size (Up.Bup HB)));have n2_:=Up.BB HB hb;clear HO103 HB;have HO103:=n0_;have HO106:=n1_;have HB:=n2_;clear n0_ n1_ n2_;(try clear hb);(try clear hb2);(try clear hk);(try clear hi);(try clear ho0);obtain ⟨Ao5,co5,eo5⟩:=Kd.R_slice HO106.out;subst eo5))
 go_loopg [1,10] k (fun kq v1 v10 w' => ∃ (x1_1 : List (S46)) (x10_1 : Int),v10 = .int .i64 x10_1 ∧ Aside0 (impl_insForms.l0 kq x1_1 t104 (t104.length : Int) x10_1 = some r) ∧ Aside0 (kq ≤ k) ∧ Aside0 (Kd.R k46 46 w' w.heap.size (fun _ => True) v1 x1_1) ∧ Aside0 (Kd.R Kd.string 9 w' w.heap.size (fun _ => True) (.slice Ao5 t104.length co5) t104) ∧ Aside0 (Below w.heap.size w w'))
 case atStart => exact ⟨(y101),(0),(by first | rfl | (simp;done) | (simp [*];done)),H',⟨Nat.le_refl _⟩,⟨Up.Rup HO103⟩,⟨Up.Rup HO106⟩,⟨Up.Bup HB⟩⟩
 case round =>
  clear H'
  try clear p2
  try clear c3
  try clear c5
  obtain ⟨x1_1,x10_1,rfl,HA,HK1,HO_1,HO_8,HB⟩:=hrel
  cases gk with
  | zero => exact absurd HA.out (by simp [impl_insForms.l0])
  | succ k1 =>
   have H:=HA.out
   clear HA
   simp only [impl_insForms.l0] at H
   by_cases c6 : x10_1 < (t104.length : Int)
   ·rw [if_pos c6] at H
    have c6b0 : decide (x10_1 < (t104.length : Int)) = true:=decide_eq_true c6
    clear c6
    by_cases c7 : 0 ≤ x10_1
    ·rw [if_pos c7] at H
     have c7b0 : decide (0 ≤ x10_1) = true:=decide_eq_true c7
     clear c7
     by_cases c8 : x10_1 < (t104.length : Int)
     ·rw [if_pos c8] at H
      have c8b0 : decide (x10_1 < (t104.length : Int)) = true:=decide_eq_true c8
      clear c8
      by_cases c9 : x1_1.length < 4398046511104
      ·rw [if_pos c9] at H
       have LMc9:=Aside0.mk c9
       clear c9
       obtain ⟨y108,hy108⟩ : ∃ y_ : List (S46),y_ = (x1_1 ++ [(⟨rdOf ByteArray.empty t104 x10_1,0,0⟩ : S46)]):=⟨_,rfl⟩
       replace H : (impl_insForms.l0 k1 y108 t104 (t104.length : Int) (wrap64 (x10_1 + 1))) = some r:=by first | (rw [hy108];with_reducible exact H) | (have H2_:=(Option.bind_some _ _).symm.trans H;rw [hy108];with_reducible exact H2_) | (have H2_:=(Option.bind_some _ _).symm.trans H;with_reducible exact H2_) | with_reducible exact H | (rw [hy108];exact H) | exact H
       have Ny108:=Aside0.mk hy108
       clear hy108
       have H':=Aside0.mk H
       clear H
       have p107 : 0 ≤ (x10_1 : Int):=Up.od
       have q107 : x10_1 < (t104.length : Int):=Up.od
       obtain ⟨ad107,e107,hx107_0⟩:=Kd.at_string (Kd.R_reads' HO_8.out).2.2 x10_1 p107 q107
       cases e107
       replace p107:=eq_true p107
       replace q107:=eq_true q107
       go_wp2_with (first | ((with_reducible refine gate_builtin (b:=.append) (xs:=#[.tmp 14,.tmp 17]) rfl ?_);at_builtin;refine Kd.R_append k46 (w0:=w) w.heap.size rfl (.tmp 14) (.tmp 17) 49 46 (.agg #[(.string ⟨#[]⟩),(.int .i64 0),(.int .i64 0)]) 32 rfl Tryd.underlying49 info46 rfl (by decide) (by omega) u1 x1_1 (⟨rdOf ByteArray.empty t104 x10_1,0,0⟩ : S46) [.string (rdOf ByteArray.empty t104 x10_1),.int .i64 0,.int .i64 0] (fun _ => True) (fun _ => False) rfl rfl ?aP (fun _ hk => hk.elim) ?aF ?aO ?aB ?aS ?aL ?_;(case aP => exact k46_mkM _ _ _ (⟨rdOf ByteArray.empty t104 x10_1,0,0⟩ : S46));(case aB => exact (Up.Bup HB));(case aF => exact (fun _ _ => trivial));(case aO => exact (Up.Rup HO_1));(case aS => exact (below_size (Up.Bup HB)));(case aL => have:=LMc9.out;omega);intro v109 w10 ho hb hg hat;rw [← Ny108.out] at ho;have n0_:=Aside0.mk (Kd.R_over' (Up.Rup HO_8) (Kd.R_typed (Up.Rup HO_1)) (by decide) hg);have n1_:=Aside0.mk (hb);have n2_:=Aside0.mk (ho);clear HO_8 HB HO_1;have HO_8:=n0_;have HB:=n1_;have HO110:=n2_;clear n0_ n1_ n2_ ho hb hg hat))
       go_roundg k1
       case measure => have:=HK1.out;omega
       case rel => exact ⟨(y108),(wrap64 (x10_1 + 1)),(by first | rfl | (simp;done) | (simp [*];done)),H',⟨by have:=HK1.out;omega⟩,⟨Up.Rup HO110⟩,⟨Up.Rup HO_8⟩,⟨Up.Bup HB⟩⟩
      ·rw [if_neg c9] at H
       exact absurd H (by simp)
     ·rw [if_neg c8] at H
      exact absurd H (by simp)
    ·rw [if_neg c7] at H
     exact absurd H (by simp)
   ·rw [if_neg c6] at H
    have c6b0 : decide (x10_1 < (t104.length : Int)) = false:=decide_eq_false c6
    clear c6
    obtain ⟨y111,hy111⟩ : ∃ y_ : List (S46),y_ = (([(⟨(⟨#[99,111,112,121]⟩ : ByteArray),6,0⟩ : S46),(⟨(⟨#[109,111,118,101]⟩ : ByteArray),6,0⟩ : S46),(⟨(⟨#[112,117,116]⟩ : ByteArray),6,0⟩ : S46),(⟨(⟨#[100,114,111,112]⟩ : ByteArray),0,0⟩ : S46)] : List (S46))):=⟨_,rfl⟩
    replace H : (if x1_1.length + y111.length < 4398046511104 then ((some (x1_1 ++ y111 : List (S46))).bind fun y114 => ((some (([(⟨(⟨#[112,97,99,107]⟩ : ByteArray),3,0⟩ : S46),(⟨(⟨#[117,110,112,97,99,107]⟩ : ByteArray),3,0⟩ : S46),(⟨(⟨#[108,101,110,100]⟩ : ByteArray),6,0⟩ : S46),(⟨(⟨#[108,101,110,100,119]⟩ : ByteArray),6,0⟩ : S46),(⟨(⟨#[102,105,101,108,100]⟩ : ByteArray),3,3⟩ : S46)] : List (S46)) : List (S46))).bind fun y117 => (if y114.length + y117.length < 4398046511104 then ((some (y114 ++ y117 : List (S46))).bind fun y120 => ((some (([(⟨(⟨#[114,101,97,100]⟩ : ByteArray),0,0⟩ : S46),(⟨(⟨#[112,101,101,107]⟩ : ByteArray),0,0⟩ : S46),(⟨(⟨#[119,114,105,116,101]⟩ : ByteArray),0,0⟩ : S46),(⟨(⟨#[102,114,101,101,122,101]⟩ : ByteArray),0,0⟩ : S46)] : List (S46)) : List (S46))).bind fun y123 => (if y120.length + y123.length < 4398046511104 then ((strings_Fields.f (⟨#[107,101,101,112,32,116,97,107,101,32,104,97,115,32,115,101,101,32,115,101,101,119]⟩ : ByteArray)).bind fun t129 => (impl_insForms.l1 k1 (y120 ++ y123) t129 (t129.length : Int) 0)) else (none)))) else (none)))) else (none)) = some r:=by first | (rw [hy111];with_reducible exact H) | (have H2_:=(Option.bind_some _ _).symm.trans H;rw [hy111];with_reducible exact H2_) | (have H2_:=(Option.bind_some _ _).symm.trans H;with_reducible exact H2_) | with_reducible exact H | (rw [hy111];exact H) | exact H
    have Ny111:=Aside0.mk hy111
    clear hy111
    by_cases c11 : x1_1.length + y111.length < 4398046511104
    ·rw [if_pos c11] at H
     have LMc11:=Aside0.mk c11
     clear c11
     obtain ⟨y114,hy114⟩ : ∃ y_ : List (S46),y_ = (x1_1 ++ y111):=⟨_,rfl⟩
     replace H : ((some (([(⟨(⟨#[112,97,99,107]⟩ : ByteArray),3,0⟩ : S46),(⟨(⟨#[117,110,112,97,99,107]⟩ : ByteArray),3,0⟩ : S46),(⟨(⟨#[108,101,110,100]⟩ : ByteArray),6,0⟩ : S46),(⟨(⟨#[108,101,110,100,119]⟩ : ByteArray),6,0⟩ : S46),(⟨(⟨#[102,105,101,108,100]⟩ : ByteArray),3,3⟩ : S46)] : List (S46)) : List (S46))).bind fun y117 => (if y114.length + y117.length < 4398046511104 then ((some (y114 ++ y117 : List (S46))).bind fun y120 => ((some (([(⟨(⟨#[114,101,97,100]⟩ : ByteArray),0,0⟩ : S46),(⟨(⟨#[112,101,101,107]⟩ : ByteArray),0,0⟩ : S46),(⟨(⟨#[119,114,105,116,101]⟩ : ByteArray),0,0⟩ : S46),(⟨(⟨#[102,114,101,101,122,101]⟩ : ByteArray),0,0⟩ : S46)] : List (S46)) : List (S46))).bind fun y123 => (if y120.length + y123.length < 4398046511104 then ((strings_Fields.f (⟨#[107,101,101,112,32,116,97,107,101,32,104,97,115,32,115,101,101,32,115,101,101,119]⟩ : ByteArray)).bind fun t129 => (impl_insForms.l1 k1 (y120 ++ y123) t129 (t129.length : Int) 0)) else (none)))) else (none))) = some r:=by first | (rw [hy114];with_reducible exact H) | (have H2_:=(Option.bind_some _ _).symm.trans H;rw [hy114];with_reducible exact H2_) | (have H2_:=(Option.bind_some _ _).symm.trans H;with_reducible exact H2_) | with_reducible exact H | (rw [hy114];exact H) | exact H
     have Ny114:=Aside0.mk hy114
     clear hy114
     obtain ⟨y117,hy117⟩ : ∃ y_ : List (S46),y_ = (([(⟨(⟨#[112,97,99,107]⟩ : ByteArray),3,0⟩ : S46),(⟨(⟨#[117,110,112,97,99,107]⟩ : ByteArray),3,0⟩ : S46),(⟨(⟨#[108,101,110,100]⟩ : ByteArray),6,0⟩ : S46),(⟨(⟨#[108,101,110,100,119]⟩ : ByteArray),6,0⟩ : S46),(⟨(⟨#[102,105,101,108,100]⟩ : ByteArray),3,3⟩ : S46)] : List (S46))):=⟨_,rfl⟩
     replace H : (if y114.length + y117.length < 4398046511104 then ((some (y114 ++ y117 : List (S46))).bind fun y120 => ((some (([(⟨(⟨#[114,101,97,100]⟩ : ByteArray),0,0⟩ : S46),(⟨(⟨#[112,101,101,107]⟩ : ByteArray),0,0⟩ : S46),(⟨(⟨#[119,114,105,116,101]⟩ : ByteArray),0,0⟩ : S46),(⟨(⟨#[102,114,101,101,122,101]⟩ : ByteArray),0,0⟩ : S46)] : List (S46)) : List (S46))).bind fun y123 => (if y120.length + y123.length < 4398046511104 then ((strings_Fields.f (⟨#[107,101,101,112,32,116,97,107,101,32,104,97,115,32,115,101,101,32,115,101,101,119]⟩ : ByteArray)).bind fun t129 => (impl_insForms.l1 k1 (y120 ++ y123) t129 (t129.length : Int) 0)) else (none)))) else (none)) = some r:=by first | (rw [hy117];with_reducible exact H) | (have H2_:=(Option.bind_some _ _).symm.trans H;rw [hy117];with_reducible exact H2_) | (have H2_:=(Option.bind_some _ _).symm.trans H;with_reducible exact H2_) | with_reducible exact H | (rw [hy117];exact H) | exact H
     have Ny117:=Aside0.mk hy117
     clear hy117
     by_cases c12 : y114.length + y117.length < 4398046511104
     ·rw [if_pos c12] at H
      have LMc12:=Aside0.mk c12
      clear c12
      obtain ⟨y120,hy120⟩ : ∃ y_ : List (S46),y_ = (y114 ++ y117):=⟨_,rfl⟩
      replace H : ((some (([(⟨(⟨#[114,101,97,100]⟩ : ByteArray),0,0⟩ : S46),(⟨(⟨#[112,101,101,107]⟩ : ByteArray),0,0⟩ : S46),(⟨(⟨#[119,114,105,116,101]⟩ : ByteArray),0,0⟩ : S46),(⟨(⟨#[102,114,101,101,122,101]⟩ : ByteArray),0,0⟩ : S46)] : List (S46)) : List (S46))).bind fun y123 => (if y120.length + y123.length < 4398046511104 then ((strings_Fields.f (⟨#[107,101,101,112,32,116,97,107,101,32,104,97,115,32,115,101,101,32,115,101,101,119]⟩ : ByteArray)).bind fun t129 => (impl_insForms.l1 k1 (y120 ++ y123) t129 (t129.length : Int) 0)) else (none))) = some r:=by first | (rw [hy120];with_reducible exact H) | (have H2_:=(Option.bind_some _ _).symm.trans H;rw [hy120];with_reducible exact H2_) | (have H2_:=(Option.bind_some _ _).symm.trans H;with_reducible exact H2_) | with_reducible exact H | (rw [hy120];exact H) | exact H
      have Ny120:=Aside0.mk hy120
      clear hy120
      obtain ⟨y123,hy123⟩ : ∃ y_ : List (S46),y_ = (([(⟨(⟨#[114,101,97,100]⟩ : ByteArray),0,0⟩ : S46),(⟨(⟨#[112,101,101,107]⟩ : ByteArray),0,0⟩ : S46),(⟨(⟨#[119,114,105,116,101]⟩ : ByteArray),0,0⟩ : S46),(⟨(⟨#[102,114,101,101,122,101]⟩ : ByteArray),0,0⟩ : S46)] : List (S46))):=⟨_,rfl⟩
      replace H : (if y120.length + y123.length < 4398046511104 then ((strings_Fields.f (⟨#[107,101,101,112,32,116,97,107,101,32,104,97,115,32,115,101,101,32,115,101,101,119]⟩ : ByteArray)).bind fun t129 => (impl_insForms.l1 k1 (y120 ++ y123) t129 (t129.length : Int) 0)) else (none)) = some r:=by first | (rw [hy123];with_reducible exact H) | (have H2_:=(Option.bind_some _ _).symm.trans H;rw [hy123];with_reducible exact H2_) | (have H2_:=(Option.bind_some _ _).symm.trans H;with_reducible exact H2_) | with_reducible exact H | (rw [hy123];exact H) | exact H
      have Ny123:=Aside0.mk hy123
      clear hy123
      by_cases c13 : y120.length + y123.length < 4398046511104
      ·rw [if_pos c13] at H
       have LMc13:=Aside0.mk c13
       clear c13
       obtain ⟨y126,hy126⟩ : ∃ y_ : List (S46),y_ = (y120 ++ y123):=⟨_,rfl⟩
       replace H : ((strings_Fields.f (⟨#[107,101,101,112,32,116,97,107,101,32,104,97,115,32,115,101,101,32,115,101,101,119]⟩ : ByteArray)).bind fun t129 => (impl_insForms.l1 k1 y126 t129 (t129.length : Int) 0)) = some r:=by first | (rw [hy126];with_reducible exact H) | (have H2_:=(Option.bind_some _ _).symm.trans H;rw [hy126];with_reducible exact H2_) | (have H2_:=(Option.bind_some _ _).symm.trans H;with_reducible exact H2_) | with_reducible exact H | (rw [hy126];exact H) | exact H
       have Ny126:=Aside0.mk hy126
       clear hy126
       replace H:=Option.bind_eq_some_iff.mp H
       obtain ⟨t129,A140,H⟩:=H
       replace H : (impl_insForms.l1 k1 y126 t129 (t129.length : Int) 0) = some r:=H
       have A14:=Aside0.mk A140
       clear A140
       have H':=Aside0.mk H
       clear H
       go_wp2_with (first | ((with_reducible refine gate_dst (N:=25) rfl ?_);refine Kd.R_lit k46 _ 46 ?hg (N:=25) ?hd (xs:=([(⟨(⟨#[99,111,112,121]⟩ : ByteArray),6,0⟩ : S46),(⟨(⟨#[109,111,118,101]⟩ : ByteArray),6,0⟩ : S46),(⟨(⟨#[112,117,116]⟩ : ByteArray),6,0⟩ : S46),(⟨(⟨#[100,114,111,112]⟩ : ByteArray),0,0⟩ : S46)] : List (S46))) (inner:=[.string (⟨#[99,111,112,121]⟩ : ByteArray),.int .i64 6,.int .i64 0,.string (⟨#[109,111,118,101]⟩ : ByteArray),.int .i64 6,.int .i64 0,.string (⟨#[112,117,116]⟩ : ByteArray),.int .i64 6,.int .i64 0,.string (⟨#[100,114,111,112]⟩ : ByteArray),.int .i64 0,.int .i64 0]) (ok:=fun _ => True) (okp:=fun _ => True) ?hr ?hp (fun _ hk => hk) trivial (Below.refl _ _) (Nat.le_refl _) (by simp) ?_;(case hd => rfl);(case hg => rfl);(case hr => first | (go_simp;done) | (go_simp;rfl));(case hp => exact (Reps.c3 (show Kd.M k46 _ _ _ (⟨(⟨#[99,111,112,121]⟩ : ByteArray),6,0⟩ : S46) [.string (⟨#[99,111,112,121]⟩ : ByteArray),.int .i64 6,.int .i64 0] from (k46_mkM _ _ _ (⟨(⟨#[99,111,112,121]⟩ : ByteArray),6,0⟩ : S46) )) (Reps.c3 (show Kd.M k46 _ _ _ (⟨(⟨#[109,111,118,101]⟩ : ByteArray),6,0⟩ : S46) [.string (⟨#[109,111,118,101]⟩ : ByteArray),.int .i64 6,.int .i64 0] from (k46_mkM _ _ _ (⟨(⟨#[109,111,118,101]⟩ : ByteArray),6,0⟩ : S46) )) (Reps.c3 (show Kd.M k46 _ _ _ (⟨(⟨#[112,117,116]⟩ : ByteArray),6,0⟩ : S46) [.string (⟨#[112,117,116]⟩ : ByteArray),.int .i64 6,.int .i64 0] from (k46_mkM _ _ _ (⟨(⟨#[112,117,116]⟩ : ByteArray),6,0⟩ : S46) )) (Reps.c3 (show Kd.M k46 _ _ _ (⟨(⟨#[100,114,111,112]⟩ : ByteArray),0,0⟩ : S46) [.string (⟨#[100,114,111,112]⟩ : ByteArray),.int .i64 0,.int .i64 0] from (k46_mkM _ _ _ (⟨(⟨#[100,114,111,112]⟩ : ByteArray),0,0⟩ : S46) )) (Reps.none _ _))))));intro v112 w15 ho16 hb hg_ hnew_;clear hg_ hnew_;(first | rw [← Ny111.out] at ho16 | (simp only [Int.reduceToNat] at ho16;rw [← Ny111.out] at ho16));have n0_:=Aside0.mk (Kd.R_elder' (Up.Rup HO_1) (Kd.R_base ho16) hb);have n1_:=Up.RB HO_8 hb;have n2_:=Aside0.mk (Kd.R_lower (Kd.R_new' ho16 (Kd.R_lt (Up.Rup HO_1))) (below_size (Up.Bup HB)));have n3_:=Up.BB HB hb;clear HO_1 HO_8 HB;have HO_1:=n0_;have HO_8:=n1_;have HO113:=n2_;have HB:=n3_;clear n0_ n1_ n2_ n3_ hb ho16;obtain ⟨Ao18,co18,eo18⟩:=Kd.R_slice HO113.out;subst eo18) | ((with_reducible refine gate_builtin (b:=.append) (xs:=#[.tmp 20,.tmp 25]) rfl ?_);at_builtin;refine Kd.R_append_rows k46 (w0:=w) w.heap.size rfl (.tmp 20) (.tmp 25) 49 46 (.agg #[(.string ⟨#[]⟩),(.int .i64 0),(.int .i64 0)]) 32 rfl Tryd.underlying49 info46 rfl (by decide) (by omega) u1 x1_1 y111 _ _ _ (fun k_ => some k_ ≠ (.slice Ao18 y111.length co18 : Value).ownBlock) (fun _ => False) rfl rfl ?aO ?aR (fun _ _ h => h) (fun _ h => h.elim) ?aF ?aB ?aS ?aL ?_;(case aR => repeat (first | exact (Kd.R_reads' HO113.out).2.2 | (with_reducible refine Kd.C_alloc ?_ _) | (with_reducible refine Kd.C_drewN ?_ _) | (with_reducible refine Kd.C_drew ?_)));(case aB => exact (Up.Bup HB));(case aF => exact (fun k_ hk => Kd.fresh' (Kd.R_lt (Up.Rup HO113)) k_ hk));(case aO => exact (Up.Rq (Kd.R_mono HO_1.out (fun _ hk => hk.2))));(case aS => exact (below_size (Up.Bup HB)));(case aL => have:=LMc11.out;omega);intro v115 w17 ho hb hg hat;rw [← Ny114.out] at ho;have n0_:=Aside0.mk (Kd.R_over' (Up.Rup HO_8) (Kd.R_typed (Up.Rup HO_1)) (by decide) hg);have n1_:=Aside0.mk (Kd.R_after (ok:=(fun _ => True)) (Up.Rup HO113) hg hat);have n2_:=Aside0.mk (hb);have n3_:=Aside0.mk (ho);clear HO_8 HO113 HB HO_1;have HO_8:=n0_;have HO113:=n1_;have HB:=n2_;have HO116:=n3_;clear n0_ n1_ n2_ n3_ ho hb hg hat) | ((with_reducible refine gate_dst (N:=33) rfl ?_);refine Kd.R_lit k46 _ 46 ?hg (N:=33) ?hd (xs:=([(⟨(⟨#[112,97,99,107]⟩ : ByteArray),3,0⟩ : S46),(⟨(⟨#[117,110,112,97,99,107]⟩ : ByteArray),3,0⟩ : S46),(⟨(⟨#[108,101,110,100]⟩ : ByteArray),6,0⟩ : S46),(⟨(⟨#[108,101,110,100,119]⟩ : ByteArray),6,0⟩ : S46),(⟨(⟨#[102,105,101,108,100]⟩ : ByteArray),3,3⟩ : S46)] : List (S46))) (inner:=[.string (⟨#[112,97,99,107]⟩ : ByteArray),.int .i64 3,.int .i64 0,.string (⟨#[117,110,112,97,99,107]⟩ : ByteArray),.int .i64 3,.int .i64 0,.string (⟨#[108,101,110,100]⟩ : ByteArray),.int .i64 6,.int .i64 0,.string (⟨#[108,101,110,100,119]⟩ : ByteArray),.int .i64 6,.int .i64 0,.string (⟨#[102,105,101,108,100]⟩ : ByteArray),.int .i64 3,.int .i64 3]) (ok:=fun _ => True) (okp:=fun _ => True) ?hr ?hp (fun _ hk => hk) trivial (Below.refl _ _) (Nat.le_refl _) (by simp) ?_;(case hd => rfl);(case hg => rfl);(case hr => first | (go_simp;done) | (go_simp;rfl));(case hp => exact (Reps.c3 (show Kd.M k46 _ _ _ (⟨(⟨#[112,97,99,107]⟩ : ByteArray),3,0⟩ : S46) [.string (⟨#[112,97,99,107]⟩ : ByteArray),.int .i64 3,.int .i64 0] from (k46_mkM _ _ _ (⟨(⟨#[112,97,99,107]⟩ : ByteArray),3,0⟩ : S46) )) (Reps.c3 (show Kd.M k46 _ _ _ (⟨(⟨#[117,110,112,97,99,107]⟩ : ByteArray),3,0⟩ : S46) [.string (⟨#[117,110,112,97,99,107]⟩ : ByteArray),.int .i64 3,.int .i64 0] from (k46_mkM _ _ _ (⟨(⟨#[117,110,112,97,99,107]⟩ : ByteArray),3,0⟩ : S46) )) (Reps.c3 (show Kd.M k46 _ _ _ (⟨(⟨#[108,101,110,100]⟩ : ByteArray),6,0⟩ : S46) [.string (⟨#[108,101,110,100]⟩ : ByteArray),.int .i64 6,.int .i64 0] from (k46_mkM _ _ _ (⟨(⟨#[108,101,110,100]⟩ : ByteArray),6,0⟩ : S46) )) (Reps.c3 (show Kd.M k46 _ _ _ (⟨(⟨#[108,101,110,100,119]⟩ : ByteArray),6,0⟩ : S46) [.string (⟨#[108,101,110,100,119]⟩ : ByteArray),.int .i64 6,.int .i64 0] from (k46_mkM _ _ _ (⟨(⟨#[108,101,110,100,119]⟩ : ByteArray),6,0⟩ : S46) )) (Reps.c3 (show Kd.M k46 _ _ _ (⟨(⟨#[102,105,101,108,100]⟩ : ByteArray),3,3⟩ : S46) [.string (⟨#[102,105,101,108,100]⟩ : ByteArray),.int .i64 3,.int .i64 3] from (k46_mkM _ _ _ (⟨(⟨#[102,105,101,108,100]⟩ : ByteArray),3,3⟩ : S46) )) (Reps.none _ _)))))));intro v118 w19 ho20 hb hg_ hnew_;clear hg_ hnew_;(first | rw [← Ny117.out] at ho20 | (simp only [Int.reduceToNat] at ho20;rw [← Ny117.out] at ho20));have n0_:=Up.RB HO_8 hb;have n1_:=Aside0.mk (Kd.R_elder' (Up.Rup HO113) (Kd.R_base ho20) hb);have n2_:=Aside0.mk (Kd.R_elder' (Up.Rup HO116) (Kd.R_base ho20) hb);have n3_:=Aside0.mk (Kd.R_lower (Kd.R_new' (Kd.R_new' ho20 (Kd.R_lt (Up.Rup HO113))) (Kd.R_lt (Up.Rup HO116))) (below_size (Up.Bup HB)));have n4_:=Up.BB HB hb;clear HO_8 HO113 HO116 HB;have HO_8:=n0_;have HO113:=n1_;have HO116:=n2_;have HO119:=n3_;have HB:=n4_;clear n0_ n1_ n2_ n3_ n4_ hb ho20;obtain ⟨Ao22,co22,eo22⟩:=Kd.R_slice HO119.out;subst eo22) | ((with_reducible refine gate_builtin (b:=.append) (xs:=#[.tmp 27,.tmp 33]) rfl ?_);at_builtin;refine Kd.R_append_rows k46 (w0:=w) w.heap.size rfl (.tmp 27) (.tmp 33) 49 46 (.agg #[(.string ⟨#[]⟩),(.int .i64 0),(.int .i64 0)]) 32 rfl Tryd.underlying49 info46 rfl (by decide) (by omega) v115 y114 y117 _ _ _ (fun k_ => some k_ ≠ (.slice Ao18 y111.length co18 : Value).ownBlock ∧ some k_ ≠ (.slice Ao22 y117.length co22 : Value).ownBlock) (fun _ => False) rfl rfl ?aO ?aR (fun _ _ h => h) (fun _ h => h.elim) ?aF ?aB ?aS ?aL ?_;(case aR => repeat (first | exact (Kd.R_reads' HO119.out).2.2 | (with_reducible refine Kd.C_alloc ?_ _) | (with_reducible refine Kd.C_drewN ?_ _) | (with_reducible refine Kd.C_drew ?_)));(case aB => exact (Up.Bup HB));(case aF => exact (fun k_ hk => ⟨Kd.fresh' (Kd.R_lt (Up.Rup HO113)) k_ hk,Kd.fresh' (Kd.R_lt (Up.Rup HO119)) k_ hk⟩));(case aO => exact (Up.Rup HO116));(case aS => exact (below_size (Up.Bup HB)));(case aL => have:=LMc12.out;omega);intro v121 w21 ho hb hg hat;rw [← Ny120.out] at ho;have n0_:=Aside0.mk (Kd.R_over' (Up.Rup HO_8) (Kd.R_typed (Up.Rup HO116)) (by decide) hg);have n1_:=Aside0.mk (Kd.R_after (ok:=(fun k_ => some k_ ≠ (.slice Ao22 y117.length co22 : Value).ownBlock)) (Up.Rq (Kd.R_mono HO113.out (fun _ hk => ⟨hk.2,hk.1.2⟩))) hg hat);have n2_:=Aside0.mk (Kd.R_after (ok:=(fun k_ => some k_ ≠ (.slice Ao18 y111.length co18 : Value).ownBlock)) (Up.Rq (Kd.R_mono HO119.out (fun _ hk => ⟨hk.1.2,hk.2⟩))) hg hat);have n3_:=Aside0.mk (hb);have n4_:=Aside0.mk (ho);clear HO_8 HO113 HO119 HB HO116;have HO_8:=n0_;have HO113:=n1_;have HO119:=n2_;have HB:=n3_;have HO122:=n4_;clear n0_ n1_ n2_ n3_ n4_ ho hb hg hat) | ((with_reducible refine gate_dst (N:=40) rfl ?_);refine Kd.R_lit k46 _ 46 ?hg (N:=40) ?hd (xs:=([(⟨(⟨#[114,101,97,100]⟩ : ByteArray),0,0⟩ : S46),(⟨(⟨#[112,101,101,107]⟩ : ByteArray),0,0⟩ : S46),(⟨(⟨#[119,114,105,116,101]⟩ : ByteArray),0,0⟩ : S46),(⟨(⟨#[102,114,101,101,122,101]⟩ : ByteArray),0,0⟩ : S46)] : List (S46))) (inner:=[.string (⟨#[114,101,97,100]⟩ : ByteArray),.int .i64 0,.int .i64 0,.string (⟨#[112,101,101,107]⟩ : ByteArray),.int .i64 0,.int .i64 0,.string (⟨#[119,114,105,116,101]⟩ : ByteArray),.int .i64 0,.int .i64 0,.string (⟨#[102,114,101,101,122,101]⟩ : ByteArray),.int .i64 0,.int .i64 0]) (ok:=fun _ => True) (okp:=fun _ => True) ?hr ?hp (fun _ hk => hk) trivial (Below.refl _ _) (Nat.le_refl _) (by simp) ?_;(case hd => rfl);(case hg => rfl);(case hr => first | (go_simp;done) | (go_simp;rfl));(case hp => exact (Reps.c3 (show Kd.M k46 _ _ _ (⟨(⟨#[114,101,97,100]⟩ : ByteArray),0,0⟩ : S46) [.string (⟨#[114,101,97,100]⟩ : ByteArray),.int .i64 0,.int .i64 0] from (k46_mkM _ _ _ (⟨(⟨#[114,101,97,100]⟩ : ByteArray),0,0⟩ : S46) )) (Reps.c3 (show Kd.M k46 _ _ _ (⟨(⟨#[112,101,101,107]⟩ : ByteArray),0,0⟩ : S46) [.string (⟨#[112,101,101,107]⟩ : ByteArray),.int .i64 0,.int .i64 0] from (k46_mkM _ _ _ (⟨(⟨#[112,101,101,107]⟩ : ByteArray),0,0⟩ : S46) )) (Reps.c3 (show Kd.M k46 _ _ _ (⟨(⟨#[119,114,105,116,101]⟩ : ByteArray),0,0⟩ : S46) [.string (⟨#[119,114,105,116,101]⟩ : ByteArray),.int .i64 0,.int .i64 0] from (k46_mkM _ _ _ (⟨(⟨#[119,114,105,116,101]⟩ : ByteArray),0,0⟩ : S46) )) (Reps.c3 (show Kd.M k46 _ _ _ (⟨(⟨#[102,114,101,101,122,101]⟩ : ByteArray),0,0⟩ : S46) [.string (⟨#[102,114,101,101,122,101]⟩ : ByteArray),.int .i64 0,.int .i64 0] from (k46_mkM _ _ _ (⟨(⟨#[102,114,101,101,122,101]⟩ : ByteArray),0,0⟩ : S46) )) (Reps.none _ _))))));intro v124 w23 ho24 hb hg_ hnew_;clear hg_ hnew_;(first | rw [← Ny123.out] at ho24 | (simp only [Int.reduceToNat] at ho24;rw [← Ny123.out] at ho24));have n0_:=Up.RB HO_8 hb;have n1_:=Aside0.mk (Kd.R_elder' (Up.Rup HO113) (Kd.R_base ho24) hb);have n2_:=Aside0.mk (Kd.R_elder' (Up.Rup HO119) (Kd.R_base ho24) hb);have n3_:=Aside0.mk (Kd.R_elder' (Up.Rup HO122) (Kd.R_base ho24) hb);have n4_:=Aside0.mk (Kd.R_lower (Kd.R_new' (Kd.R_new' (Kd.R_new' ho24 (Kd.R_lt (Up.Rup HO113))) (Kd.R_lt (Up.Rup HO119))) (Kd.R_lt (Up.Rup HO122))) (below_size (Up.Bup HB)));have n5_:=Up.BB HB hb;clear HO_8 HO113 HO119 HO122 HB;have HO_8:=n0_;have HO113:=n1_;have HO119:=n2_;have HO122:=n3_;have HO125:=n4_;have HB:=n5_;clear n0_ n1_ n2_ n3_ n4_ n5_ hb ho24;obtain ⟨Ao26,co26,eo26⟩:=Kd.R_slice HO125.out;subst eo26) | ((with_reducible refine gate_builtin (b:=.append) (xs:=#[.tmp 35,.tmp 40]) rfl ?_);at_builtin;refine Kd.R_append_rows k46 (w0:=w) w.heap.size rfl (.tmp 35) (.tmp 40) 49 46 (.agg #[(.string ⟨#[]⟩),(.int .i64 0),(.int .i64 0)]) 32 rfl Tryd.underlying49 info46 rfl (by decide) (by omega) v121 y120 y123 _ _ _ (fun k_ => some k_ ≠ (.slice Ao18 y111.length co18 : Value).ownBlock ∧ some k_ ≠ (.slice Ao22 y117.length co22 : Value).ownBlock ∧ some k_ ≠ (.slice Ao26 y123.length co26 : Value).ownBlock) (fun _ => False) rfl rfl ?aO ?aR (fun _ _ h => h) (fun _ h => h.elim) ?aF ?aB ?aS ?aL ?_;(case aR => repeat (first | exact (Kd.R_reads' HO125.out).2.2 | (with_reducible refine Kd.C_alloc ?_ _) | (with_reducible refine Kd.C_drewN ?_ _) | (with_reducible refine Kd.C_drew ?_)));(case aB => exact (Up.Bup HB));(case aF => exact (fun k_ hk => ⟨Kd.fresh' (Kd.R_lt (Up.Rup HO113)) k_ hk,Kd.fresh' (Kd.R_lt (Up.Rup HO119)) k_ hk,Kd.fresh' (Kd.R_lt (Up.Rup HO125)) k_ hk⟩));(case aO => exact (Up.Rq (Kd.R_mono HO122.out (fun _ hk => ⟨hk.1.1,⟨hk.1.2,hk.2⟩⟩))));(case aS => exact (below_size (Up.Bup HB)));(case aL => have:=LMc13.out;omega);intro v127 w25 ho hb hg hat;rw [← Ny126.out] at ho;have n0_:=Aside0.mk (Kd.R_over' (Up.Rup HO_8) (Kd.R_typed (Up.Rup HO122)) (by decide) hg);have n1_:=Aside0.mk (Kd.R_after (ok:=(fun k_ => some k_ ≠ (.slice Ao22 y117.length co22 : Value).ownBlock ∧ some k_ ≠ (.slice Ao26 y123.length co26 : Value).ownBlock)) (Up.Rq (Kd.R_mono HO113.out (fun _ hk => ⟨⟨hk.1.1,hk.2⟩,hk.1.2⟩))) hg hat);have n2_:=Aside0.mk (Kd.R_after (ok:=(fun k_ => some k_ ≠ (.slice Ao18 y111.length co18 : Value).ownBlock ∧ some k_ ≠ (.slice Ao26 y123.length co26 : Value).ownBlock)) (Up.Rq (Kd.R_mono HO119.out (fun _ hk => ⟨⟨hk.1.1,hk.2⟩,hk.1.2⟩))) hg hat);have n3_:=Aside0.mk (Kd.R_after (ok:=(fun k_ => some k_ ≠ (.slice Ao18 y111.length co18 : Value).ownBlock ∧ some k_ ≠ (.slice Ao22 y117.length co22 : Value).ownBlock)) (Up.Rq (Kd.R_mono HO125.out (fun _ hk => ⟨⟨hk.1.1.2,hk.1.2⟩,hk.2⟩))) hg hat);have n4_:=Aside0.mk (hb);have n5_:=Aside0.mk (ho);clear HO_8 HO113 HO119 HO125 HB HO122;have HO_8:=n0_;have HO113:=n1_;have HO119:=n2_;have HO125:=n3_;have HB:=n4_;have HO128:=n5_;clear n0_ n1_ n2_ n3_ n4_ n5_ ho hb hg hat) | ((with_reducible refine gate_callee (f:=51) rfl ?_);refine Up.gl (some 42) Tryd.func51 #[.string (⟨#[107,101,101,112,32,116,97,107,101,32,104,97,115,32,115,101,101,32,115,101,101,119]⟩ : ByteArray)] ?_;(with_reducible refine (strings_Fields.calls (hT_:=?tab1) (⟨#[107,101,101,112,32,116,97,107,101,32,104,97,115,32,115,101,101,32,115,101,101,119]⟩ : ByteArray) t129 _ A14.out).mono ?_);(case tab1 => exact hT_.below (Up.Bx HB));rintro e w27 ⟨v130,rfl,ho0,hb⟩;refine ⟨_,rfl,?_⟩;have n0_:=Aside0.mk (Kd.R_elder' (Up.Rup HO_8) (Kd.R_base ho0) hb);have n1_:=Up.RB HO113 hb;have n2_:=Up.RB HO119 hb;have n3_:=Up.RB HO125 hb;have n4_:=Up.RB HO128 hb;have n5_:=Aside0.mk (Kd.R_lower (Kd.R_new' ho0 (Kd.R_lt (Up.Rup HO_8))) (below_size (Up.Bup HB)));have n6_:=Up.BB HB hb;clear HO_8 HO113 HO119 HO125 HO128 HB;have HO_8:=n0_;have HO113:=n1_;have HO119:=n2_;have HO125:=n3_;have HO128:=n4_;have HO131:=n5_;have HB:=n6_;clear n0_ n1_ n2_ n3_ n4_ n5_ n6_;(try clear hb);(try clear hb2);(try clear hk);(try clear hi);(try clear ho0);obtain ⟨Ao28,co28,eo28⟩:=Kd.R_slice HO131.out;subst eo28))
       go_loopg [1,44] k1 (fun kq v1 v44 w' => ∃ (x1_2 : List (S46)) (x44_2 : Int),v44 = .int .i64 x44_2 ∧ Aside0 (impl_insForms.l1 kq x1_2 t129 (t129.length : Int) x44_2 = some r) ∧ Aside0 (kq ≤ k1) ∧ Aside0 (Kd.R k46 46 w' w.heap.size (fun _ => True) v1 x1_2) ∧ Aside0 (Kd.R Kd.string 9 w' w.heap.size (fun _ => True) (.slice Ao28 t129.length co28) t129) ∧ Aside0 (Below w.heap.size w w'))
       case atStart => exact ⟨(y126),(0),(by first | rfl | (simp;done) | (simp [*];done)),H',⟨Nat.le_refl _⟩,⟨by (with_reducible repeat (first | apply Kd.R_alloc | apply Kd.R_drewN | apply Kd.R_drew));exact Kd.R_mono HO128.out (fun _ hk => trivial)⟩,⟨by (with_reducible repeat (first | apply Kd.R_alloc | apply Kd.R_drewN | apply Kd.R_drew));exact Kd.R_mono HO131.out (fun _ hk => trivial)⟩,⟨Up.Bup HB⟩⟩
       case round =>
        clear H'
        try clear c1
        try clear p1
        try clear q1
        try clear hx1
        try clear p2
        try clear c3
        try clear c5
        try clear c6
        try clear c6b0
        try clear p6
        try clear c7
        try clear c7b0
        try clear c8
        try clear c8b0
        try clear c9
        try clear p10
        try clear q10
        try clear hx10
        try clear c11
        try clear c12
        try clear c13
        try clear hx107_0
        try clear p107
        try clear p2
        try clear q107
        obtain ⟨x1_2,x44_2,rfl,HA,HK2,HO_1,HO_42,HB⟩:=hrel
        cases gk with
        | zero => exact absurd HA.out (by simp [impl_insForms.l1])
        | succ k2 =>
         have H:=HA.out
         clear HA
         simp only [impl_insForms.l1] at H
         by_cases c29 : x44_2 < (t129.length : Int)
         ·rw [if_pos c29] at H
          have c29b0 : decide (x44_2 < (t129.length : Int)) = true:=decide_eq_true c29
          clear c29
          by_cases c30 : 0 ≤ x44_2
          ·rw [if_pos c30] at H
           have c30b0 : decide (0 ≤ x44_2) = true:=decide_eq_true c30
           clear c30
           by_cases c31 : x44_2 < (t129.length : Int)
           ·rw [if_pos c31] at H
            have c31b0 : decide (x44_2 < (t129.length : Int)) = true:=decide_eq_true c31
            clear c31
            by_cases c32 : x1_2.length < 4398046511104
            ·rw [if_pos c32] at H
             have LMc32:=Aside0.mk c32
             clear c32
             obtain ⟨y133,hy133⟩ : ∃ y_ : List (S46),y_ = (x1_2 ++ [(⟨rdOf ByteArray.empty t129 x44_2,3,0⟩ : S46)]):=⟨_,rfl⟩
             replace H : (impl_insForms.l1 k2 y133 t129 (t129.length : Int) (wrap64 (x44_2 + 1))) = some r:=by first | (rw [hy133];with_reducible exact H) | (have H2_:=(Option.bind_some _ _).symm.trans H;rw [hy133];with_reducible exact H2_) | (have H2_:=(Option.bind_some _ _).symm.trans H;with_reducible exact H2_) | with_reducible exact H | (rw [hy133];exact H) | exact H
             have Ny133:=Aside0.mk hy133
             clear hy133
             have H':=Aside0.mk H
             clear H
             have p132 : 0 ≤ (x44_2 : Int):=Up.od
             have q132 : x44_2 < (t129.length : Int):=Up.od
             obtain ⟨ad132,e132,hx132_0⟩:=Kd.at_string (Kd.R_reads' HO_42.out).2.2 x44_2 p132 q132
             cases e132
             replace p132:=eq_true p132
             replace q132:=eq_true q132
             go_wp2_with (first | ((with_reducible refine gate_builtin (b:=.append) (xs:=#[.tmp 48,.tmp 51]) rfl ?_);at_builtin;refine Kd.R_append k46 (w0:=w) w.heap.size rfl (.tmp 48) (.tmp 51) 49 46 (.agg #[(.string ⟨#[]⟩),(.int .i64 0),(.int .i64 0)]) 32 rfl Tryd.underlying49 info46 rfl (by decide) (by omega) u1 x1_2 (⟨rdOf ByteArray.empty t129 x44_2,3,0⟩ : S46) [.string (rdOf ByteArray.empty t129 x44_2),.int .i64 3,.int .i64 0] (fun _ => True) (fun _ => False) rfl rfl ?aP (fun _ hk => hk.elim) ?aF ?aO ?aB ?aS ?aL ?_;(case aP => exact k46_mkM _ _ _ (⟨rdOf ByteArray.empty t129 x44_2,3,0⟩ : S46));(case aB => exact (Up.Bup HB));(case aF => exact (fun _ _ => trivial));(case aO => exact (Up.Rup HO_1));(case aS => exact (below_size (Up.Bup HB)));(case aL => have:=LMc32.out;omega);intro v134 w33 ho hb hg hat;rw [← Ny133.out] at ho;have n0_:=Aside0.mk (Kd.R_over' (Up.Rup HO_42) (Kd.R_typed (Up.Rup HO_1)) (by decide) hg);have n1_:=Aside0.mk (hb);have n2_:=Aside0.mk (ho);clear HO_42 HB HO_1;have HO_42:=n0_;have HB:=n1_;have HO135:=n2_;clear n0_ n1_ n2_ ho hb hg hat))
             go_roundg k2
             case measure => have:=HK1.out;have:=HK2.out;omega
             case rel => exact ⟨(y133),(wrap64 (x44_2 + 1)),(by first | rfl | (simp;done) | (simp [*];done)),H',⟨by have:=HK1.out;have:=HK2.out;omega⟩,⟨Up.Rup HO135⟩,⟨Up.Rup HO_42⟩,⟨Up.Bup HB⟩⟩
            ·rw [if_neg c32] at H
             exact absurd H (by simp)
           ·rw [if_neg c31] at H
            exact absurd H (by simp)
          ·rw [if_neg c30] at H
           exact absurd H (by simp)
         ·rw [if_neg c29] at H
          have c29b0 : decide (x44_2 < (t129.length : Int)) = false:=decide_eq_false c29
          clear c29
          obtain ⟨y136,hy136⟩ : ∃ y_ : List (S46),y_ = (([(⟨(⟨#[106,117,109,112]⟩ : ByteArray),40,0⟩ : S46),(⟨(⟨#[122,101,114,111]⟩ : ByteArray),40,0⟩ : S46),(⟨(⟨#[99,97,108,108]⟩ : ByteArray),3,4⟩ : S46),(⟨(⟨#[114,101,116]⟩ : ByteArray),0,0⟩ : S46),(⟨(⟨#[102,97,105,108]⟩ : ByteArray),0,0⟩ : S46)] : List (S46))):=⟨_,rfl⟩
          replace H : (if x1_2.length + y136.length < 4398046511104 then (some (x1_2 ++ y136)) else (none)) = some r:=by first | (rw [hy136];with_reducible exact H) | (have H2_:=(Option.bind_some _ _).symm.trans H;rw [hy136];with_reducible exact H2_) | (have H2_:=(Option.bind_some _ _).symm.trans H;with_reducible exact H2_) | with_reducible exact H | (rw [hy136];exact H) | exact H
          have Ny136:=Aside0.mk hy136
          clear hy136
          by_cases c34 : x1_2.length + y136.length < 4398046511104
          ·rw [if_pos c34] at H
           have LMc34:=Aside0.mk c34
           clear c34
           obtain ⟨y139,hy139⟩ : ∃ y_ : List (S46),y_ = (x1_2 ++ y136):=⟨_,rfl⟩
           replace H : (some y139) = some r:=by first | (rw [hy139];with_reducible exact H) | (have H2_:=(Option.bind_some _ _).symm.trans H;rw [hy139];with_reducible exact H2_) | (have H2_:=(Option.bind_some _ _).symm.trans H;with_reducible exact H2_) | with_reducible exact H | (rw [hy139];exact H) | exact H
           have Ny139:=Aside0.mk hy139
           clear hy139
           obtain rfl:=Option.some.inj H
           go_wp2_with (first | ((with_reducible refine gate_dst (N:=60) rfl ?_);refine Kd.R_lit k46 _ 46 ?hg (N:=60) ?hd (xs:=([(⟨(⟨#[106,117,109,112]⟩ : ByteArray),40,0⟩ : S46),(⟨(⟨#[122,101,114,111]⟩ : ByteArray),40,0⟩ : S46),(⟨(⟨#[99,97,108,108]⟩ : ByteArray),3,4⟩ : S46),(⟨(⟨#[114,101,116]⟩ : ByteArray),0,0⟩ : S46),(⟨(⟨#[102,97,105,108]⟩ : ByteArray),0,0⟩ : S46)] : List (S46))) (inner:=[.string (⟨#[106,117,109,112]⟩ : ByteArray),.int .i64 40,.int .i64 0,.string (⟨#[122,101,114,111]⟩ : ByteArray),.int .i64 40,.int .i64 0,.string (⟨#[99,97,108,108]⟩ : ByteArray),.int .i64 3,.int .i64 4,.string (⟨#[114,101,116]⟩ : ByteArray),.int .i64 0,.int .i64 0,.string (⟨#[102,97,105,108]⟩ : ByteArray),.int .i64 0,.int .i64 0]) (ok:=fun _ => True) (okp:=fun _ => True) ?hr ?hp (fun _ hk => hk) trivial (Below.refl _ _) (Nat.le_refl _) (by simp) ?_;(case hd => rfl);(case hg => rfl);(case hr => first | (go_simp;done) | (go_simp;rfl));(case hp => exact (Reps.c3 (show Kd.M k46 _ _ _ (⟨(⟨#[106,117,109,112]⟩ : ByteArray),40,0⟩ : S46) [.string (⟨#[106,117,109,112]⟩ : ByteArray),.int .i64 40,.int .i64 0] from (k46_mkM _ _ _ (⟨(⟨#[106,117,109,112]⟩ : ByteArray),40,0⟩ : S46) )) (Reps.c3 (show Kd.M k46 _ _ _ (⟨(⟨#[122,101,114,111]⟩ : ByteArray),40,0⟩ : S46) [.string (⟨#[122,101,114,111]⟩ : ByteArray),.int .i64 40,.int .i64 0] from (k46_mkM _ _ _ (⟨(⟨#[122,101,114,111]⟩ : ByteArray),40,0⟩ : S46) )) (Reps.c3 (show Kd.M k46 _ _ _ (⟨(⟨#[99,97,108,108]⟩ : ByteArray),3,4⟩ : S46) [.string (⟨#[99,97,108,108]⟩ : ByteArray),.int .i64 3,.int .i64 4] from (k46_mkM _ _ _ (⟨(⟨#[99,97,108,108]⟩ : ByteArray),3,4⟩ : S46) )) (Reps.c3 (show Kd.M k46 _ _ _ (⟨(⟨#[114,101,116]⟩ : ByteArray),0,0⟩ : S46) [.string (⟨#[114,101,116]⟩ : ByteArray),.int .i64 0,.int .i64 0] from (k46_mkM _ _ _ (⟨(⟨#[114,101,116]⟩ : ByteArray),0,0⟩ : S46) )) (Reps.c3 (show Kd.M k46 _ _ _ (⟨(⟨#[102,97,105,108]⟩ : ByteArray),0,0⟩ : S46) [.string (⟨#[102,97,105,108]⟩ : ByteArray),.int .i64 0,.int .i64 0] from (k46_mkM _ _ _ (⟨(⟨#[102,97,105,108]⟩ : ByteArray),0,0⟩ : S46) )) (Reps.none _ _)))))));intro v137 w35 ho36 hb hg_ hnew_;clear hg_ hnew_;(first | rw [← Ny136.out] at ho36 | (simp only [Int.reduceToNat] at ho36;rw [← Ny136.out] at ho36));have n0_:=Aside0.mk (Kd.R_elder' (Up.Rup HO_1) (Kd.R_base ho36) hb);have n1_:=Up.RB HO_42 hb;have n2_:=Aside0.mk (Kd.R_lower (Kd.R_new' ho36 (Kd.R_lt (Up.Rup HO_1))) (below_size (Up.Bup HB)));have n3_:=Up.BB HB hb;clear HO_1 HO_42 HB;have HO_1:=n0_;have HO_42:=n1_;have HO138:=n2_;have HB:=n3_;clear n0_ n1_ n2_ n3_ hb ho36;obtain ⟨Ao38,co38,eo38⟩:=Kd.R_slice HO138.out;subst eo38) | ((with_reducible refine gate_builtin (b:=.append) (xs:=#[.tmp 54,.tmp 60]) rfl ?_);at_builtin;refine Kd.R_append_rows k46 (w0:=w) w.heap.size rfl (.tmp 54) (.tmp 60) 49 46 (.agg #[(.string ⟨#[]⟩),(.int .i64 0),(.int .i64 0)]) 32 rfl Tryd.underlying49 info46 rfl (by decide) (by omega) u1 x1_2 y136 _ _ _ (fun k_ => some k_ ≠ (.slice Ao38 y136.length co38 : Value).ownBlock) (fun _ => False) rfl rfl ?aO ?aR (fun _ _ h => h) (fun _ h => h.elim) ?aF ?aB ?aS ?aL ?_;(case aR => repeat (first | exact (Kd.R_reads' HO138.out).2.2 | (with_reducible refine Kd.C_alloc ?_ _) | (with_reducible refine Kd.C_drewN ?_ _) | (with_reducible refine Kd.C_drew ?_)));(case aB => exact (Up.Bup HB));(case aF => exact (fun k_ hk => Kd.fresh' (Kd.R_lt (Up.Rup HO138)) k_ hk));(case aO => exact (Up.Rq (Kd.R_mono HO_1.out (fun _ hk => hk.2))));(case aS => exact (below_size (Up.Bup HB)));(case aL => have:=LMc34.out;omega);intro v140 w37 ho hb hg hat;rw [← Ny139.out] at ho;have n0_:=Aside0.mk (Kd.R_over' (Up.Rup HO_42) (Kd.R_typed (Up.Rup HO_1)) (by decide) hg);have n1_:=Aside0.mk (Kd.R_after (ok:=(fun _ => True)) (Up.Rup HO138) hg hat);have n2_:=Aside0.mk (hb);have n3_:=Aside0.mk (ho);clear HO_42 HO138 HB HO_1;have HO_42:=n0_;have HO138:=n1_;have HB:=n2_;have HO141:=n3_;clear n0_ n1_ n2_ n3_ ho hb hg hat))
           go_ret
           exact ⟨_,by first | rfl | (simp [errW_none,errW_some] <;> rfl) | (simp [*,errW_none,errW_some] <;> rfl),by (with_reducible repeat (first | apply Kd.R_alloc | apply Kd.R_drewN | apply Kd.R_drew));exact Kd.R_mono HO141.out (fun _ hk => trivial),Up.Bup HB⟩
          ·rw [if_neg c34] at H
           exact absurd H (by simp)
      ·rw [if_neg c13] at H
       exact absurd H (by simp)
     ·rw [if_neg c12] at H
      exact absurd H (by simp)
    ·rw [if_neg c11] at H
     exact absurd H (by simp)

/-! ### slices_Clip_string_string: function 35 -/
def slices_Clip_string_string.f (l0 : List ByteArray) : Option (List ByteArray) := some l0
set_option maxHeartbeats 8000000 in
set_option maxRecDepth 100000 in
theorem slices_Clip_string_string.calls (P0_ : Nat → Prop) (A0 : Option Addr) (c0 : Nat) (l0 : List ByteArray) (r : List ByteArray) (w : World) (hs0 : Kd.V Kd.string 9 w w.heap.size (fun k_ => P0_ k_) (.slice A0 l0.length c0) l0) (h : slices_Clip_string_string.f l0 = some r) :
    Calls Tryd.prog 35 #[.slice A0 l0.length c0] w fun e w' => ∃ v1_ : Value, e = .returned v1_ ∧ Kd.V Kd.string 9 w' w.heap.size (fun k_ => (P0_ k_ ∨ w.heap.size ≤ k_)) v1_ r ∧ Below w.heap.size w w' := by
  obtain rfl := Option.some.inj h
  obtain ⟨_, hc, hf⟩ := Kd.V_at hs0
  have HF := Aside0.mk hf
  clear hs0 h hf
  obtain ⟨i0, hi0, _, hsz, _⟩ := info_parts info9
  have hcut : ∀ W : World, (Instr.slice 30 (.slice A0 l0.length c0) none (some (.int .i64 (l0.length : Int))) (some (.int .i64 (l0.length : Int)))).run Tryd.prog W = .ok (.slice A0 l0.length l0.length) W := by
    intro W
    have ht := Tryd.underlying30
    have hel : Tryd.prog.elem 30 = 9 := by simp [Program.elem, ht]
    have hu : Tryd.prog.underlying 30 = some (.slice (Tryd.prog.elem 30)) := by rw [hel]; exact ht
    have ha : (A0.map fun x => x.add 0) = A0 := by cases A0 <;> simp [Addr.add]
    rw [run_slice_hm W 30 A0 l0.length c0 hu .i64 .i64 l0.length l0.length (by omega) (by omega) (by omega), hel]
    simp [sizeOf, typeInfo, hi0, sliced, Result.andThen, ha]
  clear hc
  go_enter Tryd.func35, Tryd.ntmps35
  go_wp2
  go_ret
  exact ⟨_, rfl, ⟨A0, l0.length, rfl, Nat.le_refl _, Kd.F_mono (by (with_reducible repeat (first | apply Kd.F_alloc | apply Kd.F_drewN | apply Kd.F_drew)); exact HF.out) (fun k_ hk => .inl hk)⟩, by repeat (first | (with_reducible first | exact Below.refl _ _ | apply below_alloc | apply pw_below_drewN | apply below_drew1) | exact Below.refl _ _)⟩
def cutV : Value → Nat → Value
 | .slice A n _,c => .slice A n c
 | v,_ => v
@[go_sem] theorem cutV_slice (A : Option Addr) (n c d : Nat) : cutV (.slice A n c) d = .slice A n d:=rfl
set_option maxHeartbeats 8000000 in
set_option maxRecDepth 100000 in
theorem slices_Clip_string_string.raw (A0 : Option Addr) (c0 : Nat) (l0 : List ByteArray) (w : World) (hc : l0.length ≤ c0) :
  Calls Tryd.prog 35 #[.slice A0 l0.length c0] w fun e w' => e = .returned (.slice A0 l0.length l0.length) ∧ Below w.heap.size w w':=by
  obtain ⟨i0, hi0, _, hsz, _⟩ := info_parts info9
  have hcut : ∀ W : World, (Instr.slice 30 (.slice A0 l0.length c0) none (some (.int .i64 (l0.length : Int))) (some (.int .i64 (l0.length : Int)))).run Tryd.prog W = .ok (.slice A0 l0.length l0.length) W := by
    intro W
    have ht := Tryd.underlying30
    have hel : Tryd.prog.elem 30 = 9 := by simp [Program.elem, ht]
    have hu : Tryd.prog.underlying 30 = some (.slice (Tryd.prog.elem 30)) := by rw [hel]; exact ht
    have ha : (A0.map fun x => x.add 0) = A0 := by cases A0 <;> simp [Addr.add]
    rw [run_slice_hm W 30 A0 l0.length c0 hu .i64 .i64 l0.length l0.length (by omega) (by omega) (by omega), hel]
    simp [sizeOf, typeInfo, hi0, sliced, Result.andThen, ha]
  clear hc
  go_enter Tryd.func35,Tryd.ntmps35
  go_wp2
  go_ret
  exact ⟨rfl,by repeat (first | (with_reducible first | exact Below.refl _ _ | apply below_alloc | apply pw_below_drewN | apply below_drew1) | exact Below.refl _ _)⟩

/-! ### impl_InsWords: function 15 -/
def impl_InsWords.l0 : Nat → List ByteArray → List (S46) → Int → Int → Option (List ByteArray)
 | 0,_,_,_,_ => none
 | k + 1,x1,x5,x6,x7 => if x7 < x6 then (if 0 ≤ x7 then (if x7 < (x5.length : Int) then (if x1.length < 8796093022208 then (impl_InsWords.l0 k (x1 ++ [(rd_T46 x5 x7).f0]) x5 x6 (wrap64 (x7 + 1))) else (none)) else (none)) else (none)) else ((slices_Clip_string_string.f x1).bind fun t153 => (some t153))
def impl_InsWords.f (k : Nat)  : Option (List ByteArray):=(impl_insForms.f k).bind fun t145 => (impl_InsWords.l0 k (([] : List ByteArray)) t145 (t145.length : Int) 0)
theorem impl_InsWords.mono_l : ∀ k,(∀ y0 y1 y2 y3,LeO (impl_InsWords.l0 k y0 y1 y2 y3) (impl_InsWords.l0 (k + 1) y0 y1 y2 y3))
 | 0 => fun _ _ _ _ r h => by simp [impl_InsWords.l0] at h
 | k + 1 => by
  have ih0:=impl_InsWords.mono_l k
  ·intro y0 y1 y2 y3
   unfold impl_InsWords.l0
   repeat' first
   | (with_reducible exact ih0 _ _ _ _)
   | (with_reducible exact impl_insForms.mono _)
   | (with_reducible exact LeO.refl _)
   | (with_reducible exact LeO.none _)
   | (with_reducible refine LeO.ite ?_ ?_)
   | (with_reducible refine LeO.bind ?_ (fun _ => ?_))
   | exact ih0 _ _ _ _
   | exact impl_insForms.mono _
   | exact LeO.none _
   | refine LeO.ite ?_ ?_
   | refine LeO.bind ?_ (fun _ => ?_)
theorem impl_InsWords.mono : ∀ k,LeO (impl_InsWords.f k ) (impl_InsWords.f (k + 1) ):=by
 intro  k
 have ih0:=impl_InsWords.mono_l k
 unfold impl_InsWords.f
 repeat' first
   | (with_reducible exact ih0 _ _ _ _)
   | (with_reducible exact impl_insForms.mono _)
   | (with_reducible exact LeO.refl _)
   | (with_reducible exact LeO.none _)
   | (with_reducible refine LeO.ite ?_ ?_)
   | (with_reducible refine LeO.bind ?_ (fun _ => ?_))
   | exact ih0 _ _ _ _
   | exact impl_insForms.mono _
   | exact LeO.none _
   | refine LeO.ite ?_ ?_
   | refine LeO.bind ?_ (fun _ => ?_)
set_option maxHeartbeats 8000000 in
set_option maxRecDepth 100000 in
theorem impl_InsWords.calls (k : Nat)  (r : List ByteArray) (w : World) (hT_ : Tab w) (h : impl_InsWords.f k  = some r) :
  Calls Tryd.prog 15 #[] w fun e w' => ∃ (v0_ : Value) (c0_ : Nat),e = .returned (cutV v0_ c0_) ∧ (∀ A_ n_ d_,v0_ = .slice A_ n_ d_ → n_ ≤ c0_) ∧ Kd.R Kd.string 9 w' w.heap.size (fun _ => True) v0_ r ∧ Below w.heap.size w w':=by
 have hu46:=Tryd.underlying46
 have HB:=Aside0.mk (Below.refl w.heap.size w)
 have H : ((impl_insForms.f k).bind fun t145 => (impl_InsWords.l0 k (([] : List ByteArray)) t145 (t145.length : Int) 0)) = some r:=h
 clear h
 obtain ⟨y142,hy142⟩ : ∃ y_ : List ByteArray,y_ = (([] : List ByteArray)):=⟨_,rfl⟩
 replace H : ((impl_insForms.f k).bind fun t145 => (impl_InsWords.l0 k y142 t145 (t145.length : Int) 0)) = some r:=by first | (rw [hy142];with_reducible exact H) | (have H2_:=(Option.bind_some _ _).symm.trans H;rw [hy142];with_reducible exact H2_) | (have H2_:=(Option.bind_some _ _).symm.trans H;with_reducible exact H2_) | with_reducible exact H | (rw [hy142];exact H) | exact H
 have Ny142:=Aside0.mk hy142
 clear hy142
 replace H:=Option.bind_eq_some_iff.mp H
 obtain ⟨t145,A10,H⟩:=H
 replace H : (impl_InsWords.l0 k y142 t145 (t145.length : Int) 0) = some r:=H
 have A1:=Aside0.mk A10
 clear A10
 have H':=Aside0.mk H
 clear H
 go_enter Tryd.func15,Tryd.ntmps15
 go_wp2_with (first | ((with_reducible refine gate_dst (N:=4) rfl ?_);refine Kd.R_lit Kd.string _ 9 ?hg (N:=4) ?hd (xs:=([] : List ByteArray)) (inner:=[]) (ok:=fun _ => True) (okp:=fun _ => True) ?hr ?hp (fun _ hk => hk) trivial (Below.refl _ _) (Nat.le_refl _) (by simp) ?_;(case hd => rfl);(case hg => rfl);(case hr => first | (go_simp;done) | (go_simp;rfl));(case hp => exact (Reps.none _ _));intro v143 w2 ho3 hb hg_ hnew_;clear hg_ hnew_;(first | rw [← Ny142.out] at ho3 | (simp only [Int.reduceToNat] at ho3;rw [← Ny142.out] at ho3));have n0_:=Aside0.mk (Kd.R_lower (Kd.R_newM (M:=fun k_ => (w.heap.size ≤ k_)) ho3 (below_size (Up.Bup HB)) (fun k_ h_ => h_)) (below_size (Up.Bup HB)));have n1_:=Up.BB HB hb;clear HB;have HO144:=n0_;have HB:=n1_;clear n0_ n1_ hb ho3) | ((with_reducible refine gate_callee (f:=34) rfl ?_);refine Up.gl (some 5) Tryd.func34 #[] ?_;(with_reducible refine (impl_insForms.calls (hT_:=?tab1) k  t145 _ A1.out).mono ?_);(case tab1 => exact hT_.below (Up.Bx HB));rintro e w4 ⟨v146,rfl,ho0,hb⟩;refine ⟨_,rfl,?_⟩;have n0_:=Up.RB HO144 hb;have n1_:=Aside0.mk (Kd.R_lower (Kd.R_newM (M:=fun k_ => (w.heap.size ≤ k_)) ho0 (below_size (Up.Bup HB)) (fun k_ h_ => h_)) (below_size (Up.Bup HB)));have n2_:=Up.BB HB hb;clear HO144 HB;have HO144:=n0_;have HO147:=n1_;have HB:=n2_;clear n0_ n1_ n2_;(try clear hb);(try clear hb2);(try clear hk);(try clear hi);(try clear ho0);obtain ⟨Ao5,co5,eo5⟩:=Kd.R_slice HO147.out;subst eo5))
 go_loopg [1,7] k (fun kq v1 v7 w' => ∃ (x1_1 : List ByteArray) (x7_1 : Int),v7 = .int .i64 x7_1 ∧ Aside0 (impl_InsWords.l0 kq x1_1 t145 (t145.length : Int) x7_1 = some r) ∧ Aside0 (kq ≤ k) ∧ Aside0 (Kd.R Kd.string 9 w' w.heap.size (fun k_ => (w.heap.size ≤ k_)) v1 x1_1) ∧ Aside0 (Kd.R k46 46 w' w.heap.size (fun k_ => (w.heap.size ≤ k_)) (.slice Ao5 t145.length co5) t145) ∧ Aside0 (Below w.heap.size w w'))
 case atStart => exact ⟨(y142),(0),(by first | rfl | (simp;done) | (simp [*];done)),H',⟨Nat.le_refl _⟩,⟨by (with_reducible repeat (first | apply Kd.R_alloc | apply Kd.R_drewN | apply Kd.R_drew));exact Kd.R_mono HO144.out (fun _ hk => hk.1)⟩,⟨by (with_reducible repeat (first | apply Kd.R_alloc | apply Kd.R_drewN | apply Kd.R_drew));exact Kd.R_mono HO147.out (fun _ hk => hk.1)⟩,⟨Up.Bup HB⟩⟩
 case round =>
  clear H'
  try clear c1
  try clear p2
  try clear c3
  obtain ⟨x1_1,x7_1,rfl,HA,HK1,HO_1,HO_5,HB⟩:=hrel
  cases gk with
  | zero => exact absurd HA.out (by simp [impl_InsWords.l0])
  | succ k1 =>
   have H:=HA.out
   clear HA
   simp only [impl_InsWords.l0] at H
   by_cases c6 : x7_1 < (t145.length : Int)
   ·rw [if_pos c6] at H
    have c6b0 : decide (x7_1 < (t145.length : Int)) = true:=decide_eq_true c6
    clear c6
    by_cases c7 : 0 ≤ x7_1
    ·rw [if_pos c7] at H
     have c7b0 : decide (0 ≤ x7_1) = true:=decide_eq_true c7
     clear c7
     by_cases c8 : x7_1 < (t145.length : Int)
     ·rw [if_pos c8] at H
      have c8b0 : decide (x7_1 < (t145.length : Int)) = true:=decide_eq_true c8
      clear c8
      by_cases c9 : x1_1.length < 8796093022208
      ·rw [if_pos c9] at H
       have LMc9:=Aside0.mk c9
       clear c9
       obtain ⟨y150,hy150⟩ : ∃ y_ : List ByteArray,y_ = (x1_1 ++ [(rd_T46 t145 x7_1).f0]):=⟨_,rfl⟩
       replace H : (impl_InsWords.l0 k1 y150 t145 (t145.length : Int) (wrap64 (x7_1 + 1))) = some r:=by first | (rw [hy150];with_reducible exact H) | (have H2_:=(Option.bind_some _ _).symm.trans H;rw [hy150];with_reducible exact H2_) | (have H2_:=(Option.bind_some _ _).symm.trans H;with_reducible exact H2_) | with_reducible exact H | (rw [hy150];exact H) | exact H
       have Ny150:=Aside0.mk hy150
       clear hy150
       have H':=Aside0.mk H
       clear H
       have p148 : 0 ≤ (x7_1 : Int):=Up.od
       have q148 : x7_1 < (t145.length : Int):=Up.od
       obtain ⟨ad148,e148,hx148_0,hx148_1,hx148_2⟩:=at_T46 (Kd.R_reads' HO_5.out).2.2 x7_1 p148 q148
       cases e148
       replace p148:=eq_true p148
       replace q148:=eq_true q148
       go_wp2_with (first | ((with_reducible refine gate_dst (N:=3) rfl ?_);refine Up.bx 3 46 #[.string (⟨#[]⟩ : ByteArray),.int .i64 0,.int .i64 0] ?_;intro gb149 hg w10 hbox hb;have n0_:=Up.RB HO_1 hb;have n1_:=Aside0.mk (Kd.R_below (Kd.R_elderB (Up.Rup HO_5) gb149 (Nat.le_of_eq hg.symm)) hb);have n2_:=Up.BB HB hb;have n3_:=Aside0.mk (hbox);have n4_:=Up.gw hg HB;have n5_:=Up.gw hg HB;clear HO_1 HO_5 HB;have HO_1:=n0_;have HO_5:=n1_;have HB:=n2_;have BK149:=n3_;have GW149:=n4_;have GE149:=n5_;clear n0_ n1_ n2_ n3_ n4_ n5_ hb hbox hg;have hcz11_0:=Up.c0 BK149;have hcz11_1:=Up.c1 BK149;have hcz11_2:=Up.c2 BK149;have hfz11_0:=blk_frozen BK149.out 0;have hfz11_1:=blk_frozen BK149.out 1;have hfz11_2:=blk_frozen BK149.out 2) | ((with_reducible refine gate_builtin (b:=.append) (xs:=#[.tmp 11,.tmp 14]) rfl ?_);at_builtin;refine Kd.R_append Kd.string (w0:=w) w.heap.size rfl (.tmp 11) (.tmp 14) 30 9 (.string ⟨#[]⟩) 16 rfl Tryd.underlying30 info9 rfl (by decide) (by omega) u1 x1_1 ((rd_T46 t145 x7_1).f0) [.string ((rd_T46 t145 x7_1).f0)] (fun k_ => (w.heap.size ≤ k_)) (fun _ => False) rfl (by first | (go_simp;done) | (go_simp;rfl)) ?aP (fun _ hk => hk.elim) ?aF ?aO ?aB ?aS ?aL ?_;(case aP => exact rfl);(case aB => exact (Up.Bx HB));(case aF => exact (fun k_ hk => (Nat.le_trans (below_size (Up.Bx HB)) hk)));(case aO => exact (Up.Rq (Kd.R_mono (Kd.R_far (p:=⟨gb149,2,none⟩) (Kd.R_far (p:=⟨gb149,1,none⟩) (Kd.R_far (p:=⟨gb149,0,none⟩) (Kd.R_types HO_1.out BK149.out (by decide)) (fun _ hk => hk.2) (.string ((rd_T46 t145 x7_1).f0))) (fun _ hk => hk.2) (.int .i64 ((rd_T46 t145 x7_1).f1))) (fun _ hk => hk.2) (.int .i64 ((rd_T46 t145 x7_1).f2))) (fun _ hk => hk.1))));(case aS => exact (below_size (Up.Bx HB)));(case aL => have:=LMc9.out;omega);intro v151 w12 ho hb hg hat;rw [← Ny150.out] at ho;have n0_:=Aside0.mk (Kd.R_over' (by (with_reducible repeat (first | apply Kd.R_alloc | apply Kd.R_drewN | apply Kd.R_drew));exact (Kd.R_mono (Kd.R_far (p:=⟨gb149,2,none⟩) (Kd.R_far (p:=⟨gb149,1,none⟩) (Kd.R_far (p:=⟨gb149,0,none⟩) (Kd.R_mono HO_5.out (fun k_ hk => (⟨hk,hk.2⟩ : _ ∧ k_ ≠ gb149))) (fun _ hk => hk.2) (.string ((rd_T46 t145 x7_1).f0))) (fun _ hk => hk.2) (.int .i64 ((rd_T46 t145 x7_1).f1))) (fun _ hk => hk.2) (.int .i64 ((rd_T46 t145 x7_1).f2))) (fun _ h_ => h_.1))) (Kd.R_typed (by (with_reducible repeat (first | apply Kd.R_alloc | apply Kd.R_drewN | apply Kd.R_drew));exact (Kd.R_mono (Kd.R_far (p:=⟨gb149,2,none⟩) (Kd.R_far (p:=⟨gb149,1,none⟩) (Kd.R_far (p:=⟨gb149,0,none⟩) (Kd.R_types HO_1.out BK149.out (by decide)) (fun _ hk => hk.2) (.string ((rd_T46 t145 x7_1).f0))) (fun _ hk => hk.2) (.int .i64 ((rd_T46 t145 x7_1).f1))) (fun _ hk => hk.2) (.int .i64 ((rd_T46 t145 x7_1).f2))) (fun _ h_ => h_.1)))) (by decide) hg);have n1_:=Aside0.mk (blk_grown (g:=gb149) (o:=.cells #[.string ((rd_T46 t145 x7_1).f0),.int .i64 ((rd_T46 t145 x7_1).f1),.int .i64 ((rd_T46 t145 x7_1).f2)] 46 (0,0)) (Up.Kx BK149) hg (Kd.R_ne HO_1.out BK149.out (by decide)));have n2_:=Aside0.mk (hb);have n3_:=Aside0.mk (ho);clear HO_5 BK149 HB HO_1;have HO_5:=n0_;have BK149:=n1_;have HB:=n2_;have HO152:=n3_;clear n0_ n1_ n2_ n3_ ho hb hg hat))
       go_roundg k1
       case measure => have:=HK1.out;omega
       case rel => exact ⟨(y150),(wrap64 (x7_1 + 1)),(by first | rfl | (simp;done) | (simp [*];done)),H',⟨by have:=HK1.out;omega⟩,⟨Up.Rup HO152⟩,⟨by (with_reducible repeat (first | apply Kd.R_alloc | apply Kd.R_drewN | apply Kd.R_drew));exact Kd.R_mono HO_5.out (fun _ hk => hk.1)⟩,⟨Up.Bx HB⟩⟩
      ·rw [if_neg c9] at H
       exact absurd H (by simp)
     ·rw [if_neg c8] at H
      exact absurd H (by simp)
    ·rw [if_neg c7] at H
     exact absurd H (by simp)
   ·rw [if_neg c6] at H
    have c6b0 : decide (x7_1 < (t145.length : Int)) = false:=decide_eq_false c6
    clear c6
    replace H:=Option.bind_eq_some_iff.mp H
    obtain ⟨t153,A130,H⟩:=H
    obtain rfl:=Option.some.inj H
    obtain rfl:=Option.some.inj A130
    clear H A130
    obtain ⟨Ao14,co14,eo14⟩:=Kd.R_slice HO_1.out
    subst eo14
    have HL_:=Aside0.mk (Kd.R_reads' HO_1.out).2.1
    go_wp2_with (first | ((with_reducible refine gate_callee (f:=35) rfl ?_);refine Up.gl (some 18) Tryd.func35 #[.slice Ao14 x1_1.length co14] ?_;(with_reducible refine (slices_Clip_string_string.raw Ao14 co14 x1_1 _ HL_.out).mono ?_);rintro e w15 ⟨rfl,hb⟩;refine ⟨_,rfl,?_⟩;have n0_:=Up.RB HO_1 hb;have n1_:=Up.BB HB hb;clear HO_1 HB;have HO_1:=n0_;have HB:=n1_;clear n0_ n1_;(try clear hb)))
    go_ret
    exact ⟨.slice Ao14 x1_1.length co14,x1_1.length,rfl,(fun _ _ _ e_ => by injection e_ with _ e2_ _;omega),by (with_reducible repeat (first | apply Kd.R_alloc | apply Kd.R_drewN | apply Kd.R_drew));exact Kd.R_mono HO_1.out (fun _ _ => trivial),Up.Bup HB⟩

/-! ### spec_l3Table: function 36 -/
def spec_l3Table.f  : Option ((List (S26))):=some (([(⟨(⟨#[110,117,109]⟩ : ByteArray),1000001,0⟩ : S26),(⟨(⟨#[116,114,117,101]⟩ : ByteArray),0,0⟩ : S26),(⟨(⟨#[102,97,108,115,101]⟩ : ByteArray),0,0⟩ : S26),(⟨(⟨#[109,101]⟩ : ByteArray),0,0⟩ : S26),(⟨(⟨#[97,100,100]⟩ : ByteArray),0,0⟩ : S26),(⟨(⟨#[115,117,98]⟩ : ByteArray),0,0⟩ : S26),(⟨(⟨#[109,117,108]⟩ : ByteArray),0,0⟩ : S26),(⟨(⟨#[100,105,118]⟩ : ByteArray),0,0⟩ : S26),(⟨(⟨#[109,111,100]⟩ : ByteArray),0,0⟩ : S26),(⟨(⟨#[108,101,115,115]⟩ : ByteArray),0,0⟩ : S26),(⟨(⟨#[115,97,109,101]⟩ : ByteArray),0,0⟩ : S26),(⟨(⟨#[97,110,100]⟩ : ByteArray),0,0⟩ : S26),(⟨(⟨#[111,114]⟩ : ByteArray),0,0⟩ : S26),(⟨(⟨#[110,111,116]⟩ : ByteArray),0,0⟩ : S26),(⟨(⟨#[99,111,112,121]⟩ : ByteArray),6,0⟩ : S26),(⟨(⟨#[109,111,118,101]⟩ : ByteArray),6,0⟩ : S26),(⟨(⟨#[112,117,116]⟩ : ByteArray),6,0⟩ : S26),(⟨(⟨#[100,114,111,112]⟩ : ByteArray),0,0⟩ : S26),(⟨(⟨#[112,97,99,107]⟩ : ByteArray),3,0⟩ : S26),(⟨(⟨#[117,110,112,97,99,107]⟩ : ByteArray),3,0⟩ : S26),(⟨(⟨#[108,101,110,100]⟩ : ByteArray),6,0⟩ : S26),(⟨(⟨#[108,101,110,100,119]⟩ : ByteArray),6,0⟩ : S26),(⟨(⟨#[102,105,101,108,100]⟩ : ByteArray),3,3⟩ : S26),(⟨(⟨#[114,101,97,100]⟩ : ByteArray),0,0⟩ : S26),(⟨(⟨#[112,101,101,107]⟩ : ByteArray),0,0⟩ : S26),(⟨(⟨#[119,114,105,116,101]⟩ : ByteArray),0,0⟩ : S26),(⟨(⟨#[102,114,101,101,122,101]⟩ : ByteArray),0,0⟩ : S26),(⟨(⟨#[107,101,101,112]⟩ : ByteArray),3,0⟩ : S26),(⟨(⟨#[116,97,107,101]⟩ : ByteArray),3,0⟩ : S26),(⟨(⟨#[104,97,115]⟩ : ByteArray),3,0⟩ : S26),(⟨(⟨#[115,101,101]⟩ : ByteArray),3,0⟩ : S26),(⟨(⟨#[115,101,101,119]⟩ : ByteArray),3,0⟩ : S26),(⟨(⟨#[106,117,109,112]⟩ : ByteArray),40,0⟩ : S26),(⟨(⟨#[122,101,114,111]⟩ : ByteArray),40,0⟩ : S26),(⟨(⟨#[99,97,108,108]⟩ : ByteArray),3,4⟩ : S26),(⟨(⟨#[114,101,116]⟩ : ByteArray),0,0⟩ : S26),(⟨(⟨#[102,97,105,108]⟩ : ByteArray),0,0⟩ : S26)] : List (S26)))
set_option maxHeartbeats 8000000 in
set_option maxRecDepth 100000 in
theorem spec_l3Table.calls  (r : List (S26)) (w : World) (h : spec_l3Table.f  = some r) :
  Calls Tryd.prog 36 #[] w fun e w' => ∃ v0_ : Value,e = .returned (v0_) ∧ Kd.R k26 26 w' w.heap.size (fun _ => True) v0_ r ∧ Below w.heap.size w w':=by
 have hu26:=Tryd.underlying26
 have HB:=Aside0.mk (Below.refl w.heap.size w)
 have H : (some (([(⟨(⟨#[110,117,109]⟩ : ByteArray),1000001,0⟩ : S26),(⟨(⟨#[116,114,117,101]⟩ : ByteArray),0,0⟩ : S26),(⟨(⟨#[102,97,108,115,101]⟩ : ByteArray),0,0⟩ : S26),(⟨(⟨#[109,101]⟩ : ByteArray),0,0⟩ : S26),(⟨(⟨#[97,100,100]⟩ : ByteArray),0,0⟩ : S26),(⟨(⟨#[115,117,98]⟩ : ByteArray),0,0⟩ : S26),(⟨(⟨#[109,117,108]⟩ : ByteArray),0,0⟩ : S26),(⟨(⟨#[100,105,118]⟩ : ByteArray),0,0⟩ : S26),(⟨(⟨#[109,111,100]⟩ : ByteArray),0,0⟩ : S26),(⟨(⟨#[108,101,115,115]⟩ : ByteArray),0,0⟩ : S26),(⟨(⟨#[115,97,109,101]⟩ : ByteArray),0,0⟩ : S26),(⟨(⟨#[97,110,100]⟩ : ByteArray),0,0⟩ : S26),(⟨(⟨#[111,114]⟩ : ByteArray),0,0⟩ : S26),(⟨(⟨#[110,111,116]⟩ : ByteArray),0,0⟩ : S26),(⟨(⟨#[99,111,112,121]⟩ : ByteArray),6,0⟩ : S26),(⟨(⟨#[109,111,118,101]⟩ : ByteArray),6,0⟩ : S26),(⟨(⟨#[112,117,116]⟩ : ByteArray),6,0⟩ : S26),(⟨(⟨#[100,114,111,112]⟩ : ByteArray),0,0⟩ : S26),(⟨(⟨#[112,97,99,107]⟩ : ByteArray),3,0⟩ : S26),(⟨(⟨#[117,110,112,97,99,107]⟩ : ByteArray),3,0⟩ : S26),(⟨(⟨#[108,101,110,100]⟩ : ByteArray),6,0⟩ : S26),(⟨(⟨#[108,101,110,100,119]⟩ : ByteArray),6,0⟩ : S26),(⟨(⟨#[102,105,101,108,100]⟩ : ByteArray),3,3⟩ : S26),(⟨(⟨#[114,101,97,100]⟩ : ByteArray),0,0⟩ : S26),(⟨(⟨#[112,101,101,107]⟩ : ByteArray),0,0⟩ : S26),(⟨(⟨#[119,114,105,116,101]⟩ : ByteArray),0,0⟩ : S26),(⟨(⟨#[102,114,101,101,122,101]⟩ : ByteArray),0,0⟩ : S26),(⟨(⟨#[107,101,101,112]⟩ : ByteArray),3,0⟩ : S26),(⟨(⟨#[116,97,107,101]⟩ : ByteArray),3,0⟩ : S26),(⟨(⟨#[104,97,115]⟩ : ByteArray),3,0⟩ : S26),(⟨(⟨#[115,101,101]⟩ : ByteArray),3,0⟩ : S26),(⟨(⟨#[115,101,101,119]⟩ : ByteArray),3,0⟩ : S26),(⟨(⟨#[106,117,109,112]⟩ : ByteArray),40,0⟩ : S26),(⟨(⟨#[122,101,114,111]⟩ : ByteArray),40,0⟩ : S26),(⟨(⟨#[99,97,108,108]⟩ : ByteArray),3,4⟩ : S26),(⟨(⟨#[114,101,116]⟩ : ByteArray),0,0⟩ : S26),(⟨(⟨#[102,97,105,108]⟩ : ByteArray),0,0⟩ : S26)] : List (S26)))) = some r:=h
 clear h
 obtain ⟨y156,hy156⟩ : ∃ y_ : List (S26),y_ = (([(⟨(⟨#[110,117,109]⟩ : ByteArray),1000001,0⟩ : S26),(⟨(⟨#[116,114,117,101]⟩ : ByteArray),0,0⟩ : S26),(⟨(⟨#[102,97,108,115,101]⟩ : ByteArray),0,0⟩ : S26),(⟨(⟨#[109,101]⟩ : ByteArray),0,0⟩ : S26),(⟨(⟨#[97,100,100]⟩ : ByteArray),0,0⟩ : S26),(⟨(⟨#[115,117,98]⟩ : ByteArray),0,0⟩ : S26),(⟨(⟨#[109,117,108]⟩ : ByteArray),0,0⟩ : S26),(⟨(⟨#[100,105,118]⟩ : ByteArray),0,0⟩ : S26),(⟨(⟨#[109,111,100]⟩ : ByteArray),0,0⟩ : S26),(⟨(⟨#[108,101,115,115]⟩ : ByteArray),0,0⟩ : S26),(⟨(⟨#[115,97,109,101]⟩ : ByteArray),0,0⟩ : S26),(⟨(⟨#[97,110,100]⟩ : ByteArray),0,0⟩ : S26),(⟨(⟨#[111,114]⟩ : ByteArray),0,0⟩ : S26),(⟨(⟨#[110,111,116]⟩ : ByteArray),0,0⟩ : S26),(⟨(⟨#[99,111,112,121]⟩ : ByteArray),6,0⟩ : S26),(⟨(⟨#[109,111,118,101]⟩ : ByteArray),6,0⟩ : S26),(⟨(⟨#[112,117,116]⟩ : ByteArray),6,0⟩ : S26),(⟨(⟨#[100,114,111,112]⟩ : ByteArray),0,0⟩ : S26),(⟨(⟨#[112,97,99,107]⟩ : ByteArray),3,0⟩ : S26),(⟨(⟨#[117,110,112,97,99,107]⟩ : ByteArray),3,0⟩ : S26),(⟨(⟨#[108,101,110,100]⟩ : ByteArray),6,0⟩ : S26),(⟨(⟨#[108,101,110,100,119]⟩ : ByteArray),6,0⟩ : S26),(⟨(⟨#[102,105,101,108,100]⟩ : ByteArray),3,3⟩ : S26),(⟨(⟨#[114,101,97,100]⟩ : ByteArray),0,0⟩ : S26),(⟨(⟨#[112,101,101,107]⟩ : ByteArray),0,0⟩ : S26),(⟨(⟨#[119,114,105,116,101]⟩ : ByteArray),0,0⟩ : S26),(⟨(⟨#[102,114,101,101,122,101]⟩ : ByteArray),0,0⟩ : S26),(⟨(⟨#[107,101,101,112]⟩ : ByteArray),3,0⟩ : S26),(⟨(⟨#[116,97,107,101]⟩ : ByteArray),3,0⟩ : S26),(⟨(⟨#[104,97,115]⟩ : ByteArray),3,0⟩ : S26),(⟨(⟨#[115,101,101]⟩ : ByteArray),3,0⟩ : S26),(⟨(⟨#[115,101,101,119]⟩ : ByteArray),3,0⟩ : S26),(⟨(⟨#[106,117,109,112]⟩ : ByteArray),40,0⟩ : S26),(⟨(⟨#[122,101,114,111]⟩ : ByteArray),40,0⟩ : S26),(⟨(⟨#[99,97,108,108]⟩ : ByteArray),3,4⟩ : S26),(⟨(⟨#[114,101,116]⟩ : ByteArray),0,0⟩ : S26),(⟨(⟨#[102,97,105,108]⟩ : ByteArray),0,0⟩ : S26)] : List (S26))):=⟨_,rfl⟩
 replace H : (some y156) = some r:=by first | (rw [hy156];with_reducible exact H) | (have H2_:=(Option.bind_some _ _).symm.trans H;rw [hy156];with_reducible exact H2_) | (have H2_:=(Option.bind_some _ _).symm.trans H;with_reducible exact H2_) | with_reducible exact H | (rw [hy156];exact H) | exact H
 have Ny156:=Aside0.mk hy156
 clear hy156
 obtain rfl:=Option.some.inj H
 go_enter Tryd.func36,Tryd.ntmps36
 go_wp2_with (first | ((with_reducible refine gate_dst (N:=38) rfl ?_);refine Kd.R_lit k26 _ 26 ?hg (N:=38) ?hd (xs:=([(⟨(⟨#[110,117,109]⟩ : ByteArray),1000001,0⟩ : S26),(⟨(⟨#[116,114,117,101]⟩ : ByteArray),0,0⟩ : S26),(⟨(⟨#[102,97,108,115,101]⟩ : ByteArray),0,0⟩ : S26),(⟨(⟨#[109,101]⟩ : ByteArray),0,0⟩ : S26),(⟨(⟨#[97,100,100]⟩ : ByteArray),0,0⟩ : S26),(⟨(⟨#[115,117,98]⟩ : ByteArray),0,0⟩ : S26),(⟨(⟨#[109,117,108]⟩ : ByteArray),0,0⟩ : S26),(⟨(⟨#[100,105,118]⟩ : ByteArray),0,0⟩ : S26),(⟨(⟨#[109,111,100]⟩ : ByteArray),0,0⟩ : S26),(⟨(⟨#[108,101,115,115]⟩ : ByteArray),0,0⟩ : S26),(⟨(⟨#[115,97,109,101]⟩ : ByteArray),0,0⟩ : S26),(⟨(⟨#[97,110,100]⟩ : ByteArray),0,0⟩ : S26),(⟨(⟨#[111,114]⟩ : ByteArray),0,0⟩ : S26),(⟨(⟨#[110,111,116]⟩ : ByteArray),0,0⟩ : S26),(⟨(⟨#[99,111,112,121]⟩ : ByteArray),6,0⟩ : S26),(⟨(⟨#[109,111,118,101]⟩ : ByteArray),6,0⟩ : S26),(⟨(⟨#[112,117,116]⟩ : ByteArray),6,0⟩ : S26),(⟨(⟨#[100,114,111,112]⟩ : ByteArray),0,0⟩ : S26),(⟨(⟨#[112,97,99,107]⟩ : ByteArray),3,0⟩ : S26),(⟨(⟨#[117,110,112,97,99,107]⟩ : ByteArray),3,0⟩ : S26),(⟨(⟨#[108,101,110,100]⟩ : ByteArray),6,0⟩ : S26),(⟨(⟨#[108,101,110,100,119]⟩ : ByteArray),6,0⟩ : S26),(⟨(⟨#[102,105,101,108,100]⟩ : ByteArray),3,3⟩ : S26),(⟨(⟨#[114,101,97,100]⟩ : ByteArray),0,0⟩ : S26),(⟨(⟨#[112,101,101,107]⟩ : ByteArray),0,0⟩ : S26),(⟨(⟨#[119,114,105,116,101]⟩ : ByteArray),0,0⟩ : S26),(⟨(⟨#[102,114,101,101,122,101]⟩ : ByteArray),0,0⟩ : S26),(⟨(⟨#[107,101,101,112]⟩ : ByteArray),3,0⟩ : S26),(⟨(⟨#[116,97,107,101]⟩ : ByteArray),3,0⟩ : S26),(⟨(⟨#[104,97,115]⟩ : ByteArray),3,0⟩ : S26),(⟨(⟨#[115,101,101]⟩ : ByteArray),3,0⟩ : S26),(⟨(⟨#[115,101,101,119]⟩ : ByteArray),3,0⟩ : S26),(⟨(⟨#[106,117,109,112]⟩ : ByteArray),40,0⟩ : S26),(⟨(⟨#[122,101,114,111]⟩ : ByteArray),40,0⟩ : S26),(⟨(⟨#[99,97,108,108]⟩ : ByteArray),3,4⟩ : S26),(⟨(⟨#[114,101,116]⟩ : ByteArray),0,0⟩ : S26),(⟨(⟨#[102,97,105,108]⟩ : ByteArray),0,0⟩ : S26)] : List (S26))) (inner:=[.string (⟨#[110,117,109]⟩ : ByteArray),.int .i64 1000001,.int .i64 0,.string (⟨#[116,114,117,101]⟩ : ByteArray),.int .i64 0,.int .i64 0,.string (⟨#[102,97,108,115,101]⟩ : ByteArray),.int .i64 0,.int .i64 0,.string (⟨#[109,101]⟩ : ByteArray),.int .i64 0,.int .i64 0,.string (⟨#[97,100,100]⟩ : ByteArray),.int .i64 0,.int .i64 0,.string (⟨#[115,117,98]⟩ : ByteArray),.int .i64 0,.int .i64 0,.string (⟨#[109,117,108]⟩ : ByteArray),.int .i64 0,.int .i64 0,.string (⟨#[100,105,118]⟩ : ByteArray),.int .i64 0,.int .i64 0,.string (⟨#[109,111,100]⟩ : ByteArray),.int .i64 0,.int .i64 0,.string (⟨#[108,101,115,115]⟩ : ByteArray),.int .i64 0,.int .i64 0,.string (⟨#[115,97,109,101]⟩ : ByteArray),.int .i64 0,.int .i64 0,.string (⟨#[97,110,100]⟩ : ByteArray),.int .i64 0,.int .i64 0,.string (⟨#[111,114]⟩ : ByteArray),.int .i64 0,.int .i64 0,.string (⟨#[110,111,116]⟩ : ByteArray),.int .i64 0,.int .i64 0,.string (⟨#[99,111,112,121]⟩ : ByteArray),.int .i64 6,.int .i64 0,.string (⟨#[109,111,118,101]⟩ : ByteArray),.int .i64 6,.int .i64 0,.string (⟨#[112,117,116]⟩ : ByteArray),.int .i64 6,.int .i64 0,.string (⟨#[100,114,111,112]⟩ : ByteArray),.int .i64 0,.int .i64 0,.string (⟨#[112,97,99,107]⟩ : ByteArray),.int .i64 3,.int .i64 0,.string (⟨#[117,110,112,97,99,107]⟩ : ByteArray),.int .i64 3,.int .i64 0,.string (⟨#[108,101,110,100]⟩ : ByteArray),.int .i64 6,.int .i64 0,.string (⟨#[108,101,110,100,119]⟩ : ByteArray),.int .i64 6,.int .i64 0,.string (⟨#[102,105,101,108,100]⟩ : ByteArray),.int .i64 3,.int .i64 3,.string (⟨#[114,101,97,100]⟩ : ByteArray),.int .i64 0,.int .i64 0,.string (⟨#[112,101,101,107]⟩ : ByteArray),.int .i64 0,.int .i64 0,.string (⟨#[119,114,105,116,101]⟩ : ByteArray),.int .i64 0,.int .i64 0,.string (⟨#[102,114,101,101,122,101]⟩ : ByteArray),.int .i64 0,.int .i64 0,.string (⟨#[107,101,101,112]⟩ : ByteArray),.int .i64 3,.int .i64 0,.string (⟨#[116,97,107,101]⟩ : ByteArray),.int .i64 3,.int .i64 0,.string (⟨#[104,97,115]⟩ : ByteArray),.int .i64 3,.int .i64 0,.string (⟨#[115,101,101]⟩ : ByteArray),.int .i64 3,.int .i64 0,.string (⟨#[115,101,101,119]⟩ : ByteArray),.int .i64 3,.int .i64 0,.string (⟨#[106,117,109,112]⟩ : ByteArray),.int .i64 40,.int .i64 0,.string (⟨#[122,101,114,111]⟩ : ByteArray),.int .i64 40,.int .i64 0,.string (⟨#[99,97,108,108]⟩ : ByteArray),.int .i64 3,.int .i64 4,.string (⟨#[114,101,116]⟩ : ByteArray),.int .i64 0,.int .i64 0,.string (⟨#[102,97,105,108]⟩ : ByteArray),.int .i64 0,.int .i64 0]) (ok:=fun _ => True) (okp:=fun _ => True) ?hr ?hp (fun _ hk => hk) trivial (Below.refl _ _) (Nat.le_refl _) (by simp) ?_;(case hd => rfl);(case hg => rfl);(case hr => first | (go_simp;done) | (go_simp;rfl));(case hp => exact (Reps.c3 (show Kd.M k26 _ _ _ (⟨(⟨#[110,117,109]⟩ : ByteArray),1000001,0⟩ : S26) [.string (⟨#[110,117,109]⟩ : ByteArray),.int .i64 1000001,.int .i64 0] from (k26_mkM _ _ _ (⟨(⟨#[110,117,109]⟩ : ByteArray),1000001,0⟩ : S26) )) (Reps.c3 (show Kd.M k26 _ _ _ (⟨(⟨#[116,114,117,101]⟩ : ByteArray),0,0⟩ : S26) [.string (⟨#[116,114,117,101]⟩ : ByteArray),.int .i64 0,.int .i64 0] from (k26_mkM _ _ _ (⟨(⟨#[116,114,117,101]⟩ : ByteArray),0,0⟩ : S26) )) (Reps.c3 (show Kd.M k26 _ _ _ (⟨(⟨#[102,97,108,115,101]⟩ : ByteArray),0,0⟩ : S26) [.string (⟨#[102,97,108,115,101]⟩ : ByteArray),.int .i64 0,.int .i64 0] from (k26_mkM _ _ _ (⟨(⟨#[102,97,108,115,101]⟩ : ByteArray),0,0⟩ : S26) )) (Reps.c3 (show Kd.M k26 _ _ _ (⟨(⟨#[109,101]⟩ : ByteArray),0,0⟩ : S26) [.string (⟨#[109,101]⟩ : ByteArray),.int .i64 0,.int .i64 0] from (k26_mkM _ _ _ (⟨(⟨#[109,101]⟩ : ByteArray),0,0⟩ : S26) )) (Reps.c3 (show Kd.M k26 _ _ _ (⟨(⟨#[97,100,100]⟩ : ByteArray),0,0⟩ : S26) [.string (⟨#[97,100,100]⟩ : ByteArray),.int .i64 0,.int .i64 0] from (k26_mkM _ _ _ (⟨(⟨#[97,100,100]⟩ : ByteArray),0,0⟩ : S26) )) (Reps.c3 (show Kd.M k26 _ _ _ (⟨(⟨#[115,117,98]⟩ : ByteArray),0,0⟩ : S26) [.string (⟨#[115,117,98]⟩ : ByteArray),.int .i64 0,.int .i64 0] from (k26_mkM _ _ _ (⟨(⟨#[115,117,98]⟩ : ByteArray),0,0⟩ : S26) )) (Reps.c3 (show Kd.M k26 _ _ _ (⟨(⟨#[109,117,108]⟩ : ByteArray),0,0⟩ : S26) [.string (⟨#[109,117,108]⟩ : ByteArray),.int .i64 0,.int .i64 0] from (k26_mkM _ _ _ (⟨(⟨#[109,117,108]⟩ : ByteArray),0,0⟩ : S26) )) (Reps.c3 (show Kd.M k26 _ _ _ (⟨(⟨#[100,105,118]⟩ : ByteArray),0,0⟩ : S26) [.string (⟨#[100,105,118]⟩ : ByteArray),.int .i64 0,.int .i64 0] from (k26_mkM _ _ _ (⟨(⟨#[100,105,118]⟩ : ByteArray),0,0⟩ : S26) )) (Reps.c3 (show Kd.M k26 _ _ _ (⟨(⟨#[109,111,100]⟩ : ByteArray),0,0⟩ : S26) [.string (⟨#[109,111,100]⟩ : ByteArray),.int .i64 0,.int .i64 0] from (k26_mkM _ _ _ (⟨(⟨#[109,111,100]⟩ : ByteArray),0,0⟩ : S26) )) (Reps.c3 (show Kd.M k26 _ _ _ (⟨(⟨#[108,101,115,115]⟩ : ByteArray),0,0⟩ : S26) [.string (⟨#[108,101,115,115]⟩ : ByteArray),.int .i64 0,.int .i64 0] from (k26_mkM _ _ _ (⟨(⟨#[108,101,115,115]⟩ : ByteArray),0,0⟩ : S26) )) (Reps.c3 (show Kd.M k26 _ _ _ (⟨(⟨#[115,97,109,101]⟩ : ByteArray),0,0⟩ : S26) [.string (⟨#[115,97,109,101]⟩ : ByteArray),.int .i64 0,.int .i64 0] from (k26_mkM _ _ _ (⟨(⟨#[115,97,109,101]⟩ : ByteArray),0,0⟩ : S26) )) (Reps.c3 (show Kd.M k26 _ _ _ (⟨(⟨#[97,110,100]⟩ : ByteArray),0,0⟩ : S26) [.string (⟨#[97,110,100]⟩ : ByteArray),.int .i64 0,.int .i64 0] from (k26_mkM _ _ _ (⟨(⟨#[97,110,100]⟩ : ByteArray),0,0⟩ : S26) )) (Reps.c3 (show Kd.M k26 _ _ _ (⟨(⟨#[111,114]⟩ : ByteArray),0,0⟩ : S26) [.string (⟨#[111,114]⟩ : ByteArray),.int .i64 0,.int .i64 0] from (k26_mkM _ _ _ (⟨(⟨#[111,114]⟩ : ByteArray),0,0⟩ : S26) )) (Reps.c3 (show Kd.M k26 _ _ _ (⟨(⟨#[110,111,116]⟩ : ByteArray),0,0⟩ : S26) [.string (⟨#[110,111,116]⟩ : ByteArray),.int .i64 0,.int .i64 0] from (k26_mkM _ _ _ (⟨(⟨#[110,111,116]⟩ : ByteArray),0,0⟩ : S26) )) (Reps.c3 (show Kd.M k26 _ _ _ (⟨(⟨#[99,111,112,121]⟩ : ByteArray),6,0⟩ : S26) [.string (⟨#[99,111,112,121]⟩ : ByteArray),.int .i64 6,.int .i64 0] from (k26_mkM _ _ _ (⟨(⟨#[99,111,112,121]⟩ : ByteArray),6,0⟩ : S26) )) (Reps.c3 (show Kd.M k26 _ _ _ (⟨(⟨#[109,111,118,101]⟩ : ByteArray),6,0⟩ : S26) [.string (⟨#[109,111,118,101]⟩ : ByteArray),.int .i64 6,.int .i64 0] from (k26_mkM _ _ _ (⟨(⟨#[109,111,118,101]⟩ : ByteArray),6,0⟩ : S26) )) (Reps.c3 (show Kd.M k26 _ _ _ (⟨(⟨#[112,117,116]⟩ : ByteArray),6,0⟩ : S26) [.string (⟨#[112,117,116]⟩ : ByteArray),.int .i64 6,.int .i64 0] from (k26_mkM _ _ _ (⟨(⟨#[112,117,116]⟩ : ByteArray),6,0⟩ : S26) )) (Reps.c3 (show Kd.M k26 _ _ _ (⟨(⟨#[100,114,111,112]⟩ : ByteArray),0,0⟩ : S26) [.string (⟨#[100,114,111,112]⟩ : ByteArray),.int .i64 0,.int .i64 0] from (k26_mkM _ _ _ (⟨(⟨#[100,114,111,112]⟩ : ByteArray),0,0⟩ : S26) )) (Reps.c3 (show Kd.M k26 _ _ _ (⟨(⟨#[112,97,99,107]⟩ : ByteArray),3,0⟩ : S26) [.string (⟨#[112,97,99,107]⟩ : ByteArray),.int .i64 3,.int .i64 0] from (k26_mkM _ _ _ (⟨(⟨#[112,97,99,107]⟩ : ByteArray),3,0⟩ : S26) )) (Reps.c3 (show Kd.M k26 _ _ _ (⟨(⟨#[117,110,112,97,99,107]⟩ : ByteArray),3,0⟩ : S26) [.string (⟨#[117,110,112,97,99,107]⟩ : ByteArray),.int .i64 3,.int .i64 0] from (k26_mkM _ _ _ (⟨(⟨#[117,110,112,97,99,107]⟩ : ByteArray),3,0⟩ : S26) )) (Reps.c3 (show Kd.M k26 _ _ _ (⟨(⟨#[108,101,110,100]⟩ : ByteArray),6,0⟩ : S26) [.string (⟨#[108,101,110,100]⟩ : ByteArray),.int .i64 6,.int .i64 0] from (k26_mkM _ _ _ (⟨(⟨#[108,101,110,100]⟩ : ByteArray),6,0⟩ : S26) )) (Reps.c3 (show Kd.M k26 _ _ _ (⟨(⟨#[108,101,110,100,119]⟩ : ByteArray),6,0⟩ : S26) [.string (⟨#[108,101,110,100,119]⟩ : ByteArray),.int .i64 6,.int .i64 0] from (k26_mkM _ _ _ (⟨(⟨#[108,101,110,100,119]⟩ : ByteArray),6,0⟩ : S26) )) (Reps.c3 (show Kd.M k26 _ _ _ (⟨(⟨#[102,105,101,108,100]⟩ : ByteArray),3,3⟩ : S26) [.string (⟨#[102,105,101,108,100]⟩ : ByteArray),.int .i64 3,.int .i64 3] from (k26_mkM _ _ _ (⟨(⟨#[102,105,101,108,100]⟩ : ByteArray),3,3⟩ : S26) )) (Reps.c3 (show Kd.M k26 _ _ _ (⟨(⟨#[114,101,97,100]⟩ : ByteArray),0,0⟩ : S26) [.string (⟨#[114,101,97,100]⟩ : ByteArray),.int .i64 0,.int .i64 0] from (k26_mkM _ _ _ (⟨(⟨#[114,101,97,100]⟩ : ByteArray),0,0⟩ : S26) )) (Reps.c3 (show Kd.M k26 _ _ _ (⟨(⟨#[112,101,101,107]⟩ : ByteArray),0,0⟩ : S26) [.string (⟨#[112,101,101,107]⟩ : ByteArray),.int .i64 0,.int .i64 0] from (k26_mkM _ _ _ (⟨(⟨#[112,101,101,107]⟩ : ByteArray),0,0⟩ : S26) )) (Reps.c3 (show Kd.M k26 _ _ _ (⟨(⟨#[119,114,105,116,101]⟩ : ByteArray),0,0⟩ : S26) [.string (⟨#[119,114,105,116,101]⟩ : ByteArray),.int .i64 0,.int .i64 0] from (k26_mkM _ _ _ (⟨(⟨#[119,114,105,116,101]⟩ : ByteArray),0,0⟩ : S26) )) (Reps.c3 (show Kd.M k26 _ _ _ (⟨(⟨#[102,114,101,101,122,101]⟩ : ByteArray),0,0⟩ : S26) [.string (⟨#[102,114,101,101,122,101]⟩ : ByteArray),.int .i64 0,.int .i64 0] from (k26_mkM _ _ _ (⟨(⟨#[102,114,101,101,122,101]⟩ : ByteArray),0,0⟩ : S26) )) (Reps.c3 (show Kd.M k26 _ _ _ (⟨(⟨#[107,101,101,112]⟩ : ByteArray),3,0⟩ : S26) [.string (⟨#[107,101,101,112]⟩ : ByteArray),.int .i64 3,.int .i64 0] from (k26_mkM _ _ _ (⟨(⟨#[107,101,101,112]⟩ : ByteArray),3,0⟩ : S26) )) (Reps.c3 (show Kd.M k26 _ _ _ (⟨(⟨#[116,97,107,101]⟩ : ByteArray),3,0⟩ : S26) [.string (⟨#[116,97,107,101]⟩ : ByteArray),.int .i64 3,.int .i64 0] from (k26_mkM _ _ _ (⟨(⟨#[116,97,107,101]⟩ : ByteArray),3,0⟩ : S26) )) (Reps.c3 (show Kd.M k26 _ _ _ (⟨(⟨#[104,97,115]⟩ : ByteArray),3,0⟩ : S26) [.string (⟨#[104,97,115]⟩ : ByteArray),.int .i64 3,.int .i64 0] from (k26_mkM _ _ _ (⟨(⟨#[104,97,115]⟩ : ByteArray),3,0⟩ : S26) )) (Reps.c3 (show Kd.M k26 _ _ _ (⟨(⟨#[115,101,101]⟩ : ByteArray),3,0⟩ : S26) [.string (⟨#[115,101,101]⟩ : ByteArray),.int .i64 3,.int .i64 0] from (k26_mkM _ _ _ (⟨(⟨#[115,101,101]⟩ : ByteArray),3,0⟩ : S26) )) (Reps.c3 (show Kd.M k26 _ _ _ (⟨(⟨#[115,101,101,119]⟩ : ByteArray),3,0⟩ : S26) [.string (⟨#[115,101,101,119]⟩ : ByteArray),.int .i64 3,.int .i64 0] from (k26_mkM _ _ _ (⟨(⟨#[115,101,101,119]⟩ : ByteArray),3,0⟩ : S26) )) (Reps.c3 (show Kd.M k26 _ _ _ (⟨(⟨#[106,117,109,112]⟩ : ByteArray),40,0⟩ : S26) [.string (⟨#[106,117,109,112]⟩ : ByteArray),.int .i64 40,.int .i64 0] from (k26_mkM _ _ _ (⟨(⟨#[106,117,109,112]⟩ : ByteArray),40,0⟩ : S26) )) (Reps.c3 (show Kd.M k26 _ _ _ (⟨(⟨#[122,101,114,111]⟩ : ByteArray),40,0⟩ : S26) [.string (⟨#[122,101,114,111]⟩ : ByteArray),.int .i64 40,.int .i64 0] from (k26_mkM _ _ _ (⟨(⟨#[122,101,114,111]⟩ : ByteArray),40,0⟩ : S26) )) (Reps.c3 (show Kd.M k26 _ _ _ (⟨(⟨#[99,97,108,108]⟩ : ByteArray),3,4⟩ : S26) [.string (⟨#[99,97,108,108]⟩ : ByteArray),.int .i64 3,.int .i64 4] from (k26_mkM _ _ _ (⟨(⟨#[99,97,108,108]⟩ : ByteArray),3,4⟩ : S26) )) (Reps.c3 (show Kd.M k26 _ _ _ (⟨(⟨#[114,101,116]⟩ : ByteArray),0,0⟩ : S26) [.string (⟨#[114,101,116]⟩ : ByteArray),.int .i64 0,.int .i64 0] from (k26_mkM _ _ _ (⟨(⟨#[114,101,116]⟩ : ByteArray),0,0⟩ : S26) )) (Reps.c3 (show Kd.M k26 _ _ _ (⟨(⟨#[102,97,105,108]⟩ : ByteArray),0,0⟩ : S26) [.string (⟨#[102,97,105,108]⟩ : ByteArray),.int .i64 0,.int .i64 0] from (k26_mkM _ _ _ (⟨(⟨#[102,97,105,108]⟩ : ByteArray),0,0⟩ : S26) )) (Reps.none _ _)))))))))))))))))))))))))))))))))))))));intro v157 w1 ho2 hb hg_ hnew_;clear hg_ hnew_;(first | rw [← Ny156.out] at ho2 | (simp only [Int.reduceToNat] at ho2;rw [← Ny156.out] at ho2));have n0_:=Aside0.mk (Kd.R_lower ho2 (below_size (Up.Bup HB)));have n1_:=Up.BB HB hb;clear HB;have HO158:=n0_;have HB:=n1_;clear n0_ n1_ hb ho2))
 go_ret
 exact ⟨_,by first | rfl | (simp [errW_none,errW_some] <;> rfl) | (simp [*,errW_none,errW_some] <;> rfl),Up.Rup HO158,Up.Bup HB⟩

/-! ### spec_InsWords: function 16 -/
def spec_InsWords.l0 : Nat → List ByteArray → List (S26) → Int → Option (List ByteArray)
 | 0,_,_,_ => none
 | k + 1,x1,x2,x3 => if x3 < (x2.length : Int) then (if 0 ≤ x3 then (if x1.length < 8796093022208 then (spec_InsWords.l0 k (x1 ++ [(rd_T26 x2 x3).f0]) x2 (wrap64 (x3 + 1))) else (none)) else (none)) else (some x1)
def spec_InsWords.f (k : Nat)  : Option (List ByteArray):=(spec_l3Table.f).bind fun t162 => (spec_InsWords.l0 k (([] : List ByteArray)) t162 0)
theorem spec_InsWords.mono_l : ∀ k,(∀ y0 y1 y2,LeO (spec_InsWords.l0 k y0 y1 y2) (spec_InsWords.l0 (k + 1) y0 y1 y2))
 | 0 => fun _ _ _ r h => by simp [spec_InsWords.l0] at h
 | k + 1 => by
  have ih0:=spec_InsWords.mono_l k
  ·intro y0 y1 y2
   unfold spec_InsWords.l0
   repeat' first
   | (with_reducible exact ih0 _ _ _)
   | (with_reducible exact LeO.refl _)
   | (with_reducible exact LeO.none _)
   | (with_reducible refine LeO.ite ?_ ?_)
   | (with_reducible refine LeO.bind ?_ (fun _ => ?_))
   | exact ih0 _ _ _
   | exact LeO.none _
   | refine LeO.ite ?_ ?_
   | refine LeO.bind ?_ (fun _ => ?_)
theorem spec_InsWords.mono : ∀ k,LeO (spec_InsWords.f k ) (spec_InsWords.f (k + 1) ):=by
 intro  k
 have ih0:=spec_InsWords.mono_l k
 unfold spec_InsWords.f
 repeat' first
   | (with_reducible exact ih0 _ _ _)
   | (with_reducible exact LeO.refl _)
   | (with_reducible exact LeO.none _)
   | (with_reducible refine LeO.ite ?_ ?_)
   | (with_reducible refine LeO.bind ?_ (fun _ => ?_))
   | exact ih0 _ _ _
   | exact LeO.none _
   | refine LeO.ite ?_ ?_
   | refine LeO.bind ?_ (fun _ => ?_)
set_option maxHeartbeats 8000000 in
set_option maxRecDepth 100000 in
theorem spec_InsWords.calls (k : Nat)  (r : List ByteArray) (w : World) (h : spec_InsWords.f k  = some r) :
  Calls Tryd.prog 16 #[] w fun e w' => ∃ v0_ : Value,e = .returned (v0_) ∧ Kd.R Kd.string 9 w' w.heap.size (fun _ => True) v0_ r ∧ Below w.heap.size w w':=by
 have HB:=Aside0.mk (Below.refl w.heap.size w)
 have H : ((spec_l3Table.f).bind fun t162 => (spec_InsWords.l0 k (([] : List ByteArray)) t162 0)) = some r:=h
 clear h
 obtain ⟨y159,hy159⟩ : ∃ y_ : List ByteArray,y_ = (([] : List ByteArray)):=⟨_,rfl⟩
 replace H : ((spec_l3Table.f).bind fun t162 => (spec_InsWords.l0 k y159 t162 0)) = some r:=by first | (rw [hy159];with_reducible exact H) | (have H2_:=(Option.bind_some _ _).symm.trans H;rw [hy159];with_reducible exact H2_) | (have H2_:=(Option.bind_some _ _).symm.trans H;with_reducible exact H2_) | with_reducible exact H | (rw [hy159];exact H) | exact H
 have Ny159:=Aside0.mk hy159
 clear hy159
 replace H:=Option.bind_eq_some_iff.mp H
 obtain ⟨t162,A10,H⟩:=H
 replace H : (spec_InsWords.l0 k y159 t162 0) = some r:=H
 have A1:=Aside0.mk A10
 clear A10
 have H':=Aside0.mk H
 clear H
 go_enter Tryd.func16,Tryd.ntmps16
 go_wp2_with (first | ((with_reducible refine gate_dst (N:=4) rfl ?_);refine Kd.R_lit Kd.string _ 9 ?hg (N:=4) ?hd (xs:=([] : List ByteArray)) (inner:=[]) (ok:=fun _ => True) (okp:=fun _ => True) ?hr ?hp (fun _ hk => hk) trivial (Below.refl _ _) (Nat.le_refl _) (by simp) ?_;(case hd => rfl);(case hg => rfl);(case hr => first | (go_simp;done) | (go_simp;rfl));(case hp => exact (Reps.none _ _));intro v160 w2 ho3 hb hg_ hnew_;clear hg_ hnew_;(first | rw [← Ny159.out] at ho3 | (simp only [Int.reduceToNat] at ho3;rw [← Ny159.out] at ho3));have n0_:=Aside0.mk (Kd.R_lower ho3 (below_size (Up.Bup HB)));have n1_:=Up.BB HB hb;clear HB;have HO161:=n0_;have HB:=n1_;clear n0_ n1_ hb ho3) | ((with_reducible refine gate_callee (f:=36) rfl ?_);refine Up.gl (some 5) Tryd.func36 #[] ?_;(with_reducible refine (spec_l3Table.calls  t162 _ A1.out).mono ?_);rintro e w4 ⟨v163,rfl,ho0,hb⟩;refine ⟨_,rfl,?_⟩;have n0_:=Up.RB HO161 hb;have n1_:=Aside0.mk (Kd.R_lower ho0 (below_size (Up.Bup HB)));have n2_:=Up.BB HB hb;clear HO161 HB;have HO161:=n0_;have HO164:=n1_;have HB:=n2_;clear n0_ n1_ n2_;(try clear hb);(try clear hb2);(try clear hk);(try clear hi);(try clear ho0)))
 go_loopg [1,3] k (fun kq v1 v3 w' => ∃ (x1_1 : List ByteArray) (x3_1 : Int),v3 = .int .i64 x3_1 ∧ Aside0 (spec_InsWords.l0 kq x1_1 t162 x3_1 = some r) ∧ Aside0 (kq ≤ k) ∧ Aside0 (Kd.R Kd.string 9 w' w.heap.size (fun _ => True) v1 x1_1) ∧ Aside0 (Kd.R k26 26 w' w.heap.size (fun _ => True) v163 t162) ∧ Aside0 (Below w.heap.size w w'))
 case atStart => exact ⟨(y159),(0),(by first | rfl | (simp;done) | (simp [*];done)),H',⟨Nat.le_refl _⟩,⟨Up.Rup HO161⟩,⟨Up.Rup HO164⟩,⟨Up.Bup HB⟩⟩
 case round =>
  clear H'
  try clear c1
  try clear p2
  try clear c3
  obtain ⟨x1_1,x3_1,rfl,HA,HK1,HO_1,HO_2,HB⟩:=hrel
  cases gk with
  | zero => exact absurd HA.out (by simp [spec_InsWords.l0])
  | succ k1 =>
   have H:=HA.out
   clear HA
   simp only [spec_InsWords.l0] at H
   by_cases c5 : x3_1 < (t162.length : Int)
   ·rw [if_pos c5] at H
    have c5b0 : decide (x3_1 < (t162.length : Int)) = true:=decide_eq_true c5
    clear c5
    by_cases c6 : 0 ≤ x3_1
    ·rw [if_pos c6] at H
     have c6b0 : decide (0 ≤ x3_1) = true:=decide_eq_true c6
     clear c6
     by_cases c7 : x1_1.length < 8796093022208
     ·rw [if_pos c7] at H
      have LMc7:=Aside0.mk c7
      clear c7
      obtain ⟨y166,hy166⟩ : ∃ y_ : List ByteArray,y_ = (x1_1 ++ [(rd_T26 t162 x3_1).f0]):=⟨_,rfl⟩
      replace H : (spec_InsWords.l0 k1 y166 t162 (wrap64 (x3_1 + 1))) = some r:=by first | (rw [hy166];with_reducible exact H) | (have H2_:=(Option.bind_some _ _).symm.trans H;rw [hy166];with_reducible exact H2_) | (have H2_:=(Option.bind_some _ _).symm.trans H;with_reducible exact H2_) | with_reducible exact H | (rw [hy166];exact H) | exact H
      have Ny166:=Aside0.mk hy166
      clear hy166
      have H':=Aside0.mk H
      clear H
      obtain ⟨Ao8,co8,eo8⟩:=Kd.R_slice HO_2.out
      subst eo8
      have p165 : 0 ≤ (x3_1 : Int):=Up.od
      have q165 : x3_1 < (t162.length : Int):=Up.od
      obtain ⟨ad165,e165,hx165_0,hx165_1,hx165_2⟩:=at_T26 (Kd.R_reads' HO_2.out).2.2 x3_1 p165 q165
      cases e165
      replace p165:=eq_true p165
      replace q165:=eq_true q165
      go_wp2_with (first | ((with_reducible refine gate_builtin (b:=.append) (xs:=#[.tmp 12,.tmp 18]) rfl ?_);at_builtin;refine Kd.R_append Kd.string (w0:=w) w.heap.size rfl (.tmp 12) (.tmp 18) 30 9 (.string ⟨#[]⟩) 16 rfl Tryd.underlying30 info9 rfl (by decide) (by omega) u1 x1_1 ((rd_T26 t162 x3_1).f0) [.string ((rd_T26 t162 x3_1).f0)] (fun _ => True) (fun _ => False) rfl rfl ?aP (fun _ hk => hk.elim) ?aF ?aO ?aB ?aS ?aL ?_;(case aP => exact rfl);(case aB => exact (Up.Bup HB));(case aF => exact (fun _ _ => trivial));(case aO => exact (Up.Rup HO_1));(case aS => exact (below_size (Up.Bup HB)));(case aL => have:=LMc7.out;omega);intro v167 w9 ho hb hg hat;rw [← Ny166.out] at ho;have n0_:=Aside0.mk (Kd.R_over' (Up.Rup HO_2) (Kd.R_typed (Up.Rup HO_1)) (by decide) hg);have n1_:=Aside0.mk (hb);have n2_:=Aside0.mk (ho);clear HO_2 HB HO_1;have HO_2:=n0_;have HB:=n1_;have HO168:=n2_;clear n0_ n1_ n2_ ho hb hg hat))
      go_roundg k1
      case measure => have:=HK1.out;omega
      case rel => exact ⟨(y166),(wrap64 (x3_1 + 1)),(by first | rfl | (simp;done) | (simp [*];done)),H',⟨by have:=HK1.out;omega⟩,⟨Up.Rup HO168⟩,⟨Up.Rup HO_2⟩,⟨Up.Bup HB⟩⟩
     ·rw [if_neg c7] at H
      exact absurd H (by simp)
    ·rw [if_neg c6] at H
     exact absurd H (by simp)
   ·rw [if_neg c5] at H
    have c5b0 : decide (x3_1 < (t162.length : Int)) = false:=decide_eq_false c5
    clear c5
    obtain rfl:=Option.some.inj H
    obtain ⟨Ao10,co10,eo10⟩:=Kd.R_slice HO_2.out
    subst eo10
    go_wp2
    go_ret
    exact ⟨_,by first | rfl | (simp [errW_none,errW_some] <;> rfl) | (simp [*,errW_none,errW_some] <;> rfl),Up.Rup HO_1,Up.Bup HB⟩

/-! ### laws_eqStringS: function 19 -/
def laws_eqStringS.l0 : Nat → List ByteArray → List ByteArray → Int → Option (Bool)
 | 0,_,_,_ => none
 | k + 1,x0,x1,x5 => if x5 < (x0.length : Int) then (if 0 ≤ x5 then (if x5 < (x1.length : Int) then (if (rdOf ByteArray.empty x0 x5).toList = (rdOf ByteArray.empty x1 x5).toList then (laws_eqStringS.l0 k x0 x1 (wrap64 (x5 + 1))) else (some false)) else (none)) else (none)) else (some true)
def laws_eqStringS.f (k : Nat) (l0 : List ByteArray) (l1 : List ByteArray) : Option (Bool):=if (l0.length : Int) = (l1.length : Int) then (laws_eqStringS.l0 k l0 l1 0) else (some false)
theorem laws_eqStringS.mono_l : ∀ k,(∀ y0 y1 y2,LeO (laws_eqStringS.l0 k y0 y1 y2) (laws_eqStringS.l0 (k + 1) y0 y1 y2))
 | 0 => fun _ _ _ r h => by simp [laws_eqStringS.l0] at h
 | k + 1 => by
  have ih0:=laws_eqStringS.mono_l k
  ·intro y0 y1 y2
   unfold laws_eqStringS.l0
   repeat' first
   | (with_reducible exact ih0 _ _ _)
   | (with_reducible exact LeO.refl _)
   | (with_reducible exact LeO.none _)
   | (with_reducible refine LeO.ite ?_ ?_)
   | (with_reducible refine LeO.bind ?_ (fun _ => ?_))
   | exact ih0 _ _ _
   | exact LeO.none _
   | refine LeO.ite ?_ ?_
   | refine LeO.bind ?_ (fun _ => ?_)
theorem laws_eqStringS.mono : ∀ a0 a1 k,LeO (laws_eqStringS.f k a0 a1) (laws_eqStringS.f (k + 1) a0 a1):=by
 intro a0 a1 k
 have ih0:=laws_eqStringS.mono_l k
 unfold laws_eqStringS.f
 repeat' first
   | (with_reducible exact ih0 _ _ _)
   | (with_reducible exact LeO.refl _)
   | (with_reducible exact LeO.none _)
   | (with_reducible refine LeO.ite ?_ ?_)
   | (with_reducible refine LeO.bind ?_ (fun _ => ?_))
   | exact ih0 _ _ _
   | exact LeO.none _
   | refine LeO.ite ?_ ?_
   | refine LeO.bind ?_ (fun _ => ?_)
set_option maxHeartbeats 8000000 in
set_option maxRecDepth 100000 in
theorem laws_eqStringS.calls (k : Nat) (A0 : Option Addr) (c0 : Nat) (l0 : List ByteArray) (A1 : Option Addr) (c1 : Nat) (l1 : List ByteArray) (r : Bool) (w : World) (hr0 : Kd.C Kd.string w A0 l0.length l0) (hc0 : l0.length ≤ c0) (hr1 : Kd.C Kd.string w A1 l1.length l1) (hc1 : l1.length ≤ c1) (h : laws_eqStringS.f k l0 l1 = some r) :
  Calls Tryd.prog 19 #[.slice A0 l0.length c0,.slice A1 l1.length c1] w fun e w' => e = .returned (.bool r) ∧ Drawn0 w w':=by
 have HR0:=Aside0.mk hr0
 have HC0:=Aside0.mk hc0
 clear hr0 hc0
 have HR1:=Aside0.mk hr1
 have HC1:=Aside0.mk hc1
 clear hr1 hc1
 have H : (if (l0.length : Int) = (l1.length : Int) then (laws_eqStringS.l0 k l0 l1 0) else (some false)) = some r:=h
 clear h
 by_cases c3 : (l0.length : Int) = (l1.length : Int)
 ·rw [if_pos c3] at H
  have c3b0 : ((l0.length : Int) == (l1.length : Int)) = true:=beq_iff_eq.mpr c3
  have c3b1 : ((l0.length : Int) != (l1.length : Int)) = false:=bne_eq_false_iff_eq.mpr c3
  have c3b2 : (l0.length == l1.length) = true:=by first | simpa using c3 | (simp at c3 ⊢;omega)
  clear c3
  have H':=Aside0.mk H
  clear H
  go_enter Tryd.func19,Tryd.ntmps19
  go_wp2
  repeat (go_quiet (fail);try go_wp2)
  go_loopg [5] k (fun kq v5 w' => ∃ (x5_1 : Int),v5 = .int .i64 x5_1 ∧ Aside0 (laws_eqStringS.l0 kq l0 l1 x5_1 = some r) ∧ Aside0 (kq ≤ k) ∧ Drawn0 w w')
  case atStart => exact ⟨(0),(by first | rfl | (simp;done) | (simp [*];done)),H',⟨Nat.le_refl _⟩,by repeat (first | exact Drawn0.refl _ | apply Drawn0.step)⟩
  case round =>
   clear H'
   try clear c1
   try clear p2
   try clear c3
   try clear c3b0
   try clear c3b1
   try clear c3b2
   obtain ⟨x5_1,rfl,HA,HK1,⟨m1,rfl⟩⟩:=hrel
   cases gk with
   | zero => exact absurd HA.out (by simp [laws_eqStringS.l0])
   | succ k1 =>
    have H:=HA.out
    clear HA
    simp only [laws_eqStringS.l0] at H
    by_cases c4 : x5_1 < (l0.length : Int)
    ·rw [if_pos c4] at H
     have c4b0 : decide (x5_1 < (l0.length : Int)) = true:=decide_eq_true c4
     clear c4
     by_cases c5 : 0 ≤ x5_1
     ·rw [if_pos c5] at H
      have c5b0 : decide (0 ≤ x5_1) = true:=decide_eq_true c5
      clear c5
      by_cases c6 : x5_1 < (l1.length : Int)
      ·rw [if_pos c6] at H
       have c6b0 : decide (x5_1 < (l1.length : Int)) = true:=decide_eq_true c6
       clear c6
       by_cases c7 : (rdOf ByteArray.empty l0 x5_1).toList = (rdOf ByteArray.empty l1 x5_1).toList
       ·rw [if_pos c7] at H
        have c7b0 : ((rdOf ByteArray.empty l0 x5_1).toList == (rdOf ByteArray.empty l1 x5_1).toList) = true:=beq_iff_eq.mpr c7
        have c7b1 : ((rdOf ByteArray.empty l0 x5_1).toList != (rdOf ByteArray.empty l1 x5_1).toList) = false:=bne_eq_false_iff_eq.mpr c7
        clear c7
        have H':=Aside0.mk H
        clear H
        have p169 : 0 ≤ (x5_1 : Int):=Up.od
        have q169 : x5_1 < (l0.length : Int):=Up.od
        obtain ⟨ad169,e169,hx169_0⟩:=Kd.at_string HR0.out x5_1 p169 q169
        cases e169
        replace p169:=eq_true p169
        replace q169:=eq_true q169
        have p170 : 0 ≤ (x5_1 : Int):=Up.od
        have q170 : x5_1 < (l1.length : Int):=Up.od
        obtain ⟨ad170,e170,hx170_0⟩:=Kd.at_string HR1.out x5_1 p170 q170
        cases e170
        replace p170:=eq_true p170
        replace q170:=eq_true q170
        go_wp2
        repeat (go_quiet (fail);try go_wp2)
        go_roundg k1
        case measure => have:=HK1.out;omega
        case rel => exact ⟨(wrap64 (x5_1 + 1)),(by first | rfl | (simp;done) | (simp [*];done)),H',⟨by have:=HK1.out;omega⟩,by repeat (first | exact Drawn0.refl _ | apply Drawn0.step)⟩
       ·rw [if_neg c7] at H
        have c7b0 : ((rdOf ByteArray.empty l0 x5_1).toList == (rdOf ByteArray.empty l1 x5_1).toList) = false:=beq_eq_false_iff_ne.mpr c7
        have c7b1 : ((rdOf ByteArray.empty l0 x5_1).toList != (rdOf ByteArray.empty l1 x5_1).toList) = true:=bne_iff_ne.mpr c7
        obtain rfl:=Option.some.inj H
        have p169 : 0 ≤ (x5_1 : Int):=Up.od
        have q169 : x5_1 < (l0.length : Int):=Up.od
        obtain ⟨ad169,e169,hx169_0⟩:=Kd.at_string HR0.out x5_1 p169 q169
        cases e169
        replace p169:=eq_true p169
        replace q169:=eq_true q169
        have p170 : 0 ≤ (x5_1 : Int):=Up.od
        have q170 : x5_1 < (l1.length : Int):=Up.od
        obtain ⟨ad170,e170,hx170_0⟩:=Kd.at_string HR1.out x5_1 p170 q170
        cases e170
        replace p170:=eq_true p170
        replace q170:=eq_true q170
        go_wp2
        repeat (go_quiet (fail);try go_wp2)
        go_ret
        exact Up.e2
      ·rw [if_neg c6] at H
       exact absurd H (by simp)
     ·rw [if_neg c5] at H
      exact absurd H (by simp)
    ·rw [if_neg c4] at H
     have c4b0 : decide (x5_1 < (l0.length : Int)) = false:=decide_eq_false c4
     clear c4
     obtain rfl:=Option.some.inj H
     go_wp2
     repeat (go_quiet (fail);try go_wp2)
     go_ret
     exact Up.e2
 ·rw [if_neg c3] at H
  have c3b0 : ((l0.length : Int) == (l1.length : Int)) = false:=beq_eq_false_iff_ne.mpr c3
  have c3b1 : ((l0.length : Int) != (l1.length : Int)) = true:=bne_iff_ne.mpr c3
  have c3b2 : (l0.length == l1.length) = false:=by first | simpa using c3 | (simp at c3 ⊢;omega)
  obtain rfl:=Option.some.inj H
  go_enter Tryd.func19,Tryd.ntmps19
  go_wp2
  repeat (go_quiet (fail);try go_wp2)
  go_ret
  exact Up.e2

/-! ### laws_markText: function 37 -/
def laws_markText.l0 : Nat → Int → ByteArray → Option (ByteArray)
 | 0,_,_ => none
 | k + 1,x0,x3 => if x0 > 0 then ((some (([(wrap64 (48 + (Int.tmod x0 10))) % 256] : List Int) : List Int)).bind fun y171 => (if (strOfNums y171).size + x3.size ≤ 9223372036854775807 then (laws_markText.l0 k (wrap64 (Int.tdiv x0 10)) ((strOfNums y171) ++ x3)) else (none))) else (if 1 + x3.size ≤ 9223372036854775807 then (some ((⟨#[109]⟩ : ByteArray) ++ x3)) else (none))
def laws_markText.f (k : Nat) (a0 : Int) : Option (ByteArray):=if a0 ≤ 0 then (some (⟨#[109,48]⟩ : ByteArray)) else (laws_markText.l0 k a0 (⟨#[]⟩ : ByteArray))
theorem laws_markText.mono_l : ∀ k,(∀ y0 y1,LeO (laws_markText.l0 k y0 y1) (laws_markText.l0 (k + 1) y0 y1))
 | 0 => fun _ _ r h => by simp [laws_markText.l0] at h
 | k + 1 => by
  have ih0:=laws_markText.mono_l k
  ·intro y0 y1
   unfold laws_markText.l0
   repeat' first
   | (with_reducible exact ih0 _ _)
   | (with_reducible exact LeO.refl _)
   | (with_reducible exact LeO.none _)
   | (with_reducible refine LeO.ite ?_ ?_)
   | (with_reducible refine LeO.bind ?_ (fun _ => ?_))
   | exact ih0 _ _
   | exact LeO.none _
   | refine LeO.ite ?_ ?_
   | refine LeO.bind ?_ (fun _ => ?_)
theorem laws_markText.mono : ∀ a0 k,LeO (laws_markText.f k a0) (laws_markText.f (k + 1) a0):=by
 intro a0 k
 have ih0:=laws_markText.mono_l k
 unfold laws_markText.f
 repeat' first
   | (with_reducible exact ih0 _ _)
   | (with_reducible exact LeO.refl _)
   | (with_reducible exact LeO.none _)
   | (with_reducible refine LeO.ite ?_ ?_)
   | (with_reducible refine LeO.bind ?_ (fun _ => ?_))
   | exact ih0 _ _
   | exact LeO.none _
   | refine LeO.ite ?_ ?_
   | refine LeO.bind ?_ (fun _ => ?_)
set_option maxHeartbeats 8000000 in
set_option maxRecDepth 100000 in
theorem laws_markText.calls (k : Nat) (a0 : Int) (r : ByteArray) (w : World) (h : laws_markText.f k a0 = some r) :
  Calls Tryd.prog 37 #[.int .i64 a0] w fun e w' => e = .returned (.string r) ∧ Below w.heap.size w w':=by
 have HB:=Aside0.mk (Below.refl w.heap.size w)
 have H : (if a0 ≤ 0 then (some (⟨#[109,48]⟩ : ByteArray)) else (laws_markText.l0 k a0 (⟨#[]⟩ : ByteArray))) = some r:=h
 clear h
 by_cases c2 : a0 ≤ 0
 ·rw [if_pos c2] at H
  have c2b0 : decide (a0 ≤ 0) = true:=decide_eq_true c2
  clear c2
  obtain rfl:=Option.some.inj H
  go_enter Tryd.func37,Tryd.ntmps37
  go_wp2
  go_ret
  exact Up.e1 (Up.Bup HB)
 ·rw [if_neg c2] at H
  have c2b0 : decide (a0 ≤ 0) = false:=decide_eq_false c2
  clear c2
  have H':=Aside0.mk H
  clear H
  go_enter Tryd.func37,Tryd.ntmps37
  go_wp2
  go_loopg [0,3] k (fun kq v0 v3 w' => ∃ (x0_1 : Int) (x3_1 : ByteArray),v0 = .int .i64 x0_1 ∧ v3 = .string x3_1 ∧ Aside0 (laws_markText.l0 kq x0_1 x3_1 = some r) ∧ Aside0 (kq ≤ k) ∧ Aside0 (Below w.heap.size w w'))
  case atStart => exact ⟨(a0),((⟨#[]⟩ : ByteArray)),(by first | rfl | (simp;done) | (simp [*];done)),(by first | rfl | (simp;done) | (simp [*];done)),H',⟨Nat.le_refl _⟩,⟨Up.Bup HB⟩⟩
  case round =>
   clear H'
   try clear c2
   try clear c2b0
   try clear p2
   obtain ⟨x0_1,x3_1,rfl,rfl,HA,HK1,HB⟩:=hrel
   cases gk with
   | zero => exact absurd HA.out (by simp [laws_markText.l0])
   | succ k1 =>
    have H:=HA.out
    clear HA
    simp only [laws_markText.l0] at H
    by_cases c3 : x0_1 > 0
    ·rw [if_pos c3] at H
     have c3b0 : decide (0 < x0_1) = true:=decide_eq_true c3
     clear c3
     obtain ⟨y171,hy171⟩ : ∃ y_ : List Int,y_ = (([(wrap64 (48 + (Int.tmod x0_1 10))) % 256] : List Int)):=⟨_,rfl⟩
     replace H : (if (strOfNums y171).size + x3_1.size ≤ 9223372036854775807 then (laws_markText.l0 k1 (wrap64 (Int.tdiv x0_1 10)) ((strOfNums y171) ++ x3_1)) else (none)) = some r:=by first | (rw [hy171];with_reducible exact H) | (have H2_:=(Option.bind_some _ _).symm.trans H;rw [hy171];with_reducible exact H2_) | (have H2_:=(Option.bind_some _ _).symm.trans H;with_reducible exact H2_) | with_reducible exact H | (rw [hy171];exact H) | exact H
     have Ny171:=Aside0.mk hy171
     clear hy171
     by_cases c4 : (strOfNums y171).size + x3_1.size ≤ 9223372036854775807
     ·rw [if_pos c4] at H
      have c4b0:=eq_true c4
      have c4b1 : decide ((strOfNums y171).size + x3_1.size ≤ 9223372036854775807) = true:=decide_eq_true c4
      try have c4b2 : (9223372036854775807 < (strOfNums y171).size + x3_1.size) = False:=eq_false (Nat.not_lt.2 c4)
      have H':=Aside0.mk H
      clear H
      go_wp2_with (first | ((with_reducible refine gate_dst (N:=12) rfl ?_);refine Kd.R_lit (Kd.int .u8) _ 5 ?hg (N:=12) ?hd (xs:=([(wrap64 (48 + (Int.tmod x0_1 10))) % 256] : List Int)) (inner:=[.int .u8 ((wrap64 (48 + (Int.tmod x0_1 10))) % 256)]) (ok:=fun _ => True) (okp:=fun _ => True) ?hr ?hp (fun _ hk => hk) trivial (Below.refl _ _) (Nat.le_refl _) (by simp) ?_;(case hd => rfl);(case hg => rfl);(case hr => first | (go_simp;done) | (go_simp;rfl));(case hp => exact (Reps.one (show Kd.M (Kd.int .u8) _ _ _ ((wrap64 (48 + (Int.tmod x0_1 10))) % 256) [.int .u8 ((wrap64 (48 + (Int.tmod x0_1 10))) % 256)] from rfl) (Reps.none _ _)));intro v172 w5 ho6 hb hg_ hnew_;clear hg_ hnew_;(first | rw [← Ny171.out] at ho6 | (simp only [Int.reduceToNat] at ho6;rw [← Ny171.out] at ho6));have n0_:=Aside0.mk (Kd.R_lower ho6 (below_size (Up.Bup HB)));have n1_:=Up.BB HB hb;clear HB;have HO173:=n0_;have HB:=n1_;clear n0_ n1_ hb ho6;have hcv7:=own_string (P:=Tryd.prog) Tryd.underlying29 Tryd.underlying5 Tryd.underlying9 (Kd.own_of_R HO173.out)))
      go_roundg k1
      case measure => have:=HK1.out;omega
      case rel => exact ⟨(wrap64 (Int.tdiv x0_1 10)),((strOfNums y171) ++ x3_1),(by first | rfl | (simp;done) | (simp [*];done)),(by first | rfl | (simp;done) | (simp [*];done)),H',⟨by have:=HK1.out;omega⟩,⟨Up.Bup HB⟩⟩
     ·rw [if_neg c4] at H
      exact absurd H (by simp)
    ·rw [if_neg c3] at H
     have c3b0 : decide (0 < x0_1) = false:=decide_eq_false c3
     clear c3
     by_cases c8 : 1 + x3_1.size ≤ 9223372036854775807
     ·rw [if_pos c8] at H
      have c8b0:=eq_true c8
      have c8b1 : decide (1 + x3_1.size ≤ 9223372036854775807) = true:=decide_eq_true c8
      try have c8b2 : (9223372036854775807 < 1 + x3_1.size) = False:=eq_false (Nat.not_lt.2 c8)
      obtain rfl:=Option.some.inj H
      go_wp2
      go_ret
      exact Up.e1 (Up.Bup HB)
     ·rw [if_neg c8] at H
      exact absurd H (by simp)

end Go.Proofs.YtfkhjnmgaadomaaDoor.OFnExactInsWords
