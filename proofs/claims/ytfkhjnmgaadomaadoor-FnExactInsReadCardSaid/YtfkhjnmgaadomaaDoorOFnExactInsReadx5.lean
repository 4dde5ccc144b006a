-- Laid by a program of this session (wip/myprint.py): the kit's print of the functions, contracts of our own among them.
import Derived.Test.YtfkhjnmgaadomaaDoorOFnExactInsReadx0
import Derived.Test.YtfkhjnmgaadomaaDoorOFnExactInsReadx3
import Derived.Test.YtfkhjnmgaadomaaDoorOFnExactInsReadx4
namespace Go.Proofs.YtfkhjnmgaadomaaDoor.OFnExactInsRead
open Go.RowKit Go.Proofs.YtfkhjnmgaadomaaDoorW.PrintWords Go.Proofs.YtfkhjnmgaadomaaDoorW.PrintLast Go.Proofs.YtfkhjnmgaadomaaDoorW.PrintMore
attribute [local go_sem] max2_int min2_int max_two min_two max_three min_three max_four min_four   -- for this text's walks alone
set_option linter.unusedVariables false
set_option linter.unusedSimpArgs false

/-! ### impl_InsRead: function 26 -/
mutual
def impl_InsRead.j0 : Nat → List ByteArray → Bool → Option (ByteArray × Int × Int × Bool)
 | 0,_,_ => none
 | k + 1,x4,x30 => if x30 = true then (some ((⟨#[]⟩ : ByteArray),0,0,false)) else (if 0 < (x4.length : Int) then (if 1 ≤ (x4.length : Int) then ((some (x4.drop 1 : List ByteArray)).bind fun y226 => (impl_InsRead.l0 k y226 (y226.length : Int) 0 (rdOf ByteArray.empty x4 0) 0 0)) else (none)) else (none))
def impl_InsRead.l0 : Nat → List ByteArray → Int → Int → ByteArray → Int → Int → Option (ByteArray × Int × Int × Bool)
 | 0,_,_,_,_,_,_ => none
 | k + 1,x37,x38,x39,x226000,x226001,x226002 => if x39 < x38 then (if 0 ≤ x39 then (if x39 < (x37.length : Int) then ((impl_decimal.f k (rdOf ByteArray.empty x37 x39)).bind fun bt233 => (if bt233.2 = true then (if x39 = 0 then (impl_InsRead.l0 k x37 x38 (wrap64 (x39 + 1)) x226000 bt233.1 x226002) else (impl_InsRead.l0 k x37 x38 (wrap64 (x39 + 1)) x226000 x226001 bt233.1)) else (some ((⟨#[]⟩ : ByteArray),0,0,false)))) else (none)) else (none)) else ((impl_InsOk.f k x226000 x226001 x226002).bind fun t231 => (if t231 = true then (some (x226000,x226001,x226002,true)) else (some ((⟨#[]⟩ : ByteArray),0,0,false))))
end
def impl_InsRead.f (k : Nat) (a0 : ByteArray) : Option (ByteArray × Int × Int × Bool):=(strings_Split.f a0 (⟨#[32]⟩ : ByteArray)).bind fun t214 => (if 0 < (t214.length : Int) then ((impl_formOf.f k (rdOf ByteArray.empty t214 0)).bind fun bt218 => (if bt218.2.2.2 = true then ((impl_insForm_many.f bt218.1 bt218.2.1 bt218.2.2.1).bind fun t223 => (impl_InsRead.j0 k t214 ((t214.length : Int) != (wrap64 (1 + t223))))) else (impl_InsRead.j0 k t214 true))) else (none))
theorem impl_InsRead.mono_l : ∀ k,(∀ y0 y1,LeO (impl_InsRead.j0 k y0 y1) (impl_InsRead.j0 (k + 1) y0 y1)) ∧ (∀ y0 y1 y2 y3 y4 y5,LeO (impl_InsRead.l0 k y0 y1 y2 y3 y4 y5) (impl_InsRead.l0 (k + 1) y0 y1 y2 y3 y4 y5))
 | 0 => ⟨fun _ _ r h => by simp [impl_InsRead.j0] at h,fun _ _ _ _ _ _ r h => by simp [impl_InsRead.l0] at h⟩
 | k + 1 => by
  obtain ⟨ih0,ih1⟩:=impl_InsRead.mono_l k
  refine ⟨?_,?_⟩
  ·intro y0 y1
   unfold impl_InsRead.j0
   repeat' first
   | (with_reducible exact ih0 _ _)
   | (with_reducible exact ih1 _ _ _ _ _ _)
   | (with_reducible exact impl_InsOk.mono _ _ _ _)
   | (with_reducible exact impl_decimal.mono _ _)
   | (with_reducible exact impl_formOf.mono _ _)
   | (with_reducible exact LeO.refl _)
   | (with_reducible exact LeO.none _)
   | (with_reducible refine LeO.ite ?_ ?_)
   | (with_reducible refine LeO.bind ?_ (fun _ => ?_))
   | exact ih0 _ _
   | exact ih1 _ _ _ _ _ _
   | exact impl_InsOk.mono _ _ _ _
   | exact impl_decimal.mono _ _
   | exact impl_formOf.mono _ _
   | exact LeO.none _
   | refine LeO.ite ?_ ?_
   | refine LeO.bind ?_ (fun _ => ?_)
  ·intro y0 y1 y2 y3 y4 y5
   unfold impl_InsRead.l0
   repeat' first
   | (with_reducible exact ih0 _ _)
   | (with_reducible exact ih1 _ _ _ _ _ _)
   | (with_reducible exact impl_InsOk.mono _ _ _ _)
   | (with_reducible exact impl_decimal.mono _ _)
   | (with_reducible exact impl_formOf.mono _ _)
   | (with_reducible exact LeO.refl _)
   | (with_reducible exact LeO.none _)
   | (with_reducible refine LeO.ite ?_ ?_)
   | (with_reducible refine LeO.bind ?_ (fun _ => ?_))
   | exact ih0 _ _
   | exact ih1 _ _ _ _ _ _
   | exact impl_InsOk.mono _ _ _ _
   | exact impl_decimal.mono _ _
   | exact impl_formOf.mono _ _
   | exact LeO.none _
   | refine LeO.ite ?_ ?_
   | refine LeO.bind ?_ (fun _ => ?_)
theorem impl_InsRead.mono : ∀ a0 k,LeO (impl_InsRead.f k a0) (impl_InsRead.f (k + 1) a0):=by
 intro a0 k
 obtain ⟨ih0,ih1⟩:=impl_InsRead.mono_l k
 unfold impl_InsRead.f
 repeat' first
   | (with_reducible exact ih0 _ _)
   | (with_reducible exact ih1 _ _ _ _ _ _)
   | (with_reducible exact impl_InsOk.mono _ _ _ _)
   | (with_reducible exact impl_decimal.mono _ _)
   | (with_reducible exact impl_formOf.mono _ _)
   | (with_reducible exact LeO.refl _)
   | (with_reducible exact LeO.none _)
   | (with_reducible refine LeO.ite ?_ ?_)
   | (with_reducible refine LeO.bind ?_ (fun _ => ?_))
   | exact ih0 _ _
   | exact ih1 _ _ _ _ _ _
   | exact impl_InsOk.mono _ _ _ _
   | exact impl_decimal.mono _ _
   | exact impl_formOf.mono _ _
   | exact LeO.none _
   | refine LeO.ite ?_ ?_
   | refine LeO.bind ?_ (fun _ => ?_)
set_option maxHeartbeats 8000000 in
set_option maxRecDepth 100000 in
theorem impl_InsRead.calls (k : Nat) (a0 : ByteArray) (r1 : ByteArray) (r2 : Int) (r3 : Int) (r4 : Bool) (w : World) (hT_ : Tab w) (h : impl_InsRead.f k a0 = some (r1,r2,r3,r4)) :
  Calls Tryd.prog 26 #[.string a0] w fun e w' => e = .returned (.tuple #[.agg #[.string r1,.int .i64 r2,.int .i64 r3],.bool r4]) ∧ Below w.heap.size w w':=by
 have hu26:=Tryd.underlying26
 have hu46:=Tryd.underlying46
 have HB:=Aside0.mk (Below.refl w.heap.size w)
 have H : ((strings_Split.f a0 (⟨#[32]⟩ : ByteArray)).bind fun t214 => (if 0 < (t214.length : Int) then ((impl_formOf.f k (rdOf ByteArray.empty t214 0)).bind fun bt218 => (if bt218.2.2.2 = true then ((impl_insForm_many.f bt218.1 bt218.2.1 bt218.2.2.1).bind fun t223 => (impl_InsRead.j0 k t214 ((t214.length : Int) != (wrap64 (1 + t223))))) else (impl_InsRead.j0 k t214 true))) else (none))) = some (r1,r2,r3,r4):=h
 clear h
 replace H:=Option.bind_eq_some_iff.mp H
 obtain ⟨t214,A20,H⟩:=H
 replace H : (if 0 < (t214.length : Int) then ((impl_formOf.f k (rdOf ByteArray.empty t214 0)).bind fun bt218 => (if bt218.2.2.2 = true then ((impl_insForm_many.f bt218.1 bt218.2.1 bt218.2.2.1).bind fun t223 => (impl_InsRead.j0 k t214 ((t214.length : Int) != (wrap64 (1 + t223))))) else (impl_InsRead.j0 k t214 true))) else (none)) = some (r1,r2,r3,r4):=H
 have A2:=Aside0.mk A20
 clear A20
 by_cases c3 : 0 < (t214.length : Int)
 ·rw [if_pos c3] at H
  have c3b0 : decide (0 < (t214.length : Int)) = true:=decide_eq_true c3
  have c3b1 : decide (0 < t214.length) = true:=decide_eq_true (by omega)
  clear c3
  replace H:=Option.bind_eq_some_iff.mp H
  obtain ⟨⟨t218,t219,t220,t221⟩,A40,H⟩:=H
  replace H : (if t221 = true then ((impl_insForm_many.f t218 t219 t220).bind fun t223 => (impl_InsRead.j0 k t214 ((t214.length : Int) != (wrap64 (1 + t223))))) else (impl_InsRead.j0 k t214 true)) = some (r1,r2,r3,r4):=H
  have A4:=Aside0.mk A40
  clear A40
  have HC5:=Aside0.mk H
  clear H
  go_enter Tryd.func26,Tryd.ntmps26
  go_upto_region 3 with (first | ((with_reducible refine gate_dst (N:=2) rfl ?_);(try (refine gate_guard (by rfl) ?_;dsimp only));refine Up.bx 2 26 #[.string (⟨#[]⟩ : ByteArray),.int .i64 0,.int .i64 0] ?_;intro gb213 hg w6 hbox hb;have n0_:=Up.BB HB hb;have n1_:=Aside0.mk (hbox);have n2_:=Up.gw hg HB;have n3_:=Up.gw hg HB;clear HB;have HB:=n0_;have BK213:=n1_;have GW213:=n2_;have GE213:=n3_;clear n0_ n1_ n2_ n3_ hb hbox hg) | ((with_reducible refine gate_callee (f:=47) rfl ?_);refine Up.gl (some 13) Tryd.func47 #[.string a0,.string (⟨#[32]⟩ : ByteArray)] ?_;(with_reducible refine (strings_Split.calls (hT_:=?tab1) a0 (⟨#[32]⟩ : ByteArray) t214 _ A2.out).mono ?_);(case tab1 => exact hT_.below (Up.Bx HB));rintro e w7 ⟨v215,rfl,ho0,hb⟩;refine ⟨_,rfl,?_⟩;have n0_:=Aside0.mk (Kd.V_lower (Kd.V_mono (ok':=fun k_ => k_ ≠ gb213) ho0 (fun k_ hk_ => (Kd.freshB (g:=gb213) (o:=.cells #[.string (⟨#[]⟩ : ByteArray),.int .i64 0,.int .i64 0] 26 (0,0)) (Up.Kup BK213) k_ hk_))) (below_size (Up.Bx HB)));have n1_:=Up.KB BK213 hb;have n2_:=Aside0.mk (below_step (Up.Bx HB) hb);clear BK213 HB;have HO216:=n0_;have BK213:=n1_;have HB:=n2_;clear n0_ n1_ n2_;(try clear hb);(try clear hb2);(try clear hk);(try clear hi);(try clear ho0);obtain ⟨Ao8,co8,eo8⟩:=Kd.V_slice HO216.out;subst eo8;have p217 : 0 ≤ (0 : Int):=(by omega);have q217 : 0 < (t214.length : Int):=Up.od;obtain ⟨ad217,e217,hx217_0⟩:=Kd.at_string (Kd.V_reads' HO216.out).2.2 0 p217 q217;cases e217;have qi217 : (0 < t214.length) = True:=eq_true (by omega);(try rw [show ((0 : Int)).toNat = 0 from rfl] at hx217_0);(try rw [Addr.add_zero'] at hx217_0);replace p217:=eq_true p217;replace q217:=eq_true q217) | ((with_reducible refine gate_callee (f:=32) rfl ?_);refine Up.gl (some 18) Tryd.func32 #[.string (rdOf ByteArray.empty t214 0)] ?_;(with_reducible refine (impl_formOf.calls (hT_:=?tab1) k (rdOf ByteArray.empty t214 0) t218 t219 t220 t221 _ A4.out).mono ?_);(case tab1 => exact hT_.below (Up.Bx HB));rintro e w9 ⟨rfl,hb⟩;refine ⟨_,rfl,?_⟩;have n0_:=Up.VB HO216 hb;have n1_:=Up.KB BK213 hb;have n2_:=Aside0.mk (below_step (Up.Bx HB) hb);clear HO216 BK213 HB;have HO216:=n0_;have BK213:=n1_;have HB:=n2_;clear n0_ n1_ n2_;(try clear hb);(try clear hb2);(try clear hk);(try clear hi)) | ((with_reducible refine gate_dst (N:=5) rfl ?_);(try (refine gate_guard (by rfl) ?_;dsimp only));refine Up.bx 5 46 #[.string (⟨#[]⟩ : ByteArray),.int .i64 0,.int .i64 0] ?_;intro gb222 hg w10 hbox hb;have n0_:=Aside0.mk (Kd.V_below (Kd.V_elderB (Up.Vup HO216) gb222 (Nat.le_of_eq hg.symm)) hb);have n1_:=Up.KB BK213 hb;have n2_:=Aside0.mk (below_step (Up.Bx HB) hb);have n3_:=Aside0.mk (hbox);have n4_:=Up.gw hg HB;have n5_:=Up.gw hg HB;have n6_:=Up.nl hg BK213;have n7_:=Up.ng hg BK213;clear HO216 BK213 HB;have HO216:=n0_;have BK213:=n1_;have HB:=n2_;have BK222:=n3_;have GW222:=n4_;have GE222:=n5_;have NB213_222:=n6_;have NB222_213:=n7_;clear n0_ n1_ n2_ n3_ n4_ n5_ n6_ n7_ hb hbox hg;have hnb11:=NB222_213.out;have hnc11:=NB213_222.out;have hcz12_0:=Up.c0 BK222;have hcz12_1:=Up.c1 BK222;have hcz12_2:=Up.c2 BK222;have hfz12_0:=blk_frozen BK222.out 0;have hfz12_1:=blk_frozen BK222.out 1;have hfz12_2:=blk_frozen BK222.out 2))
  (try simp only [Act.put,List.setIfInBounds_toArray,List.set_cons_zero,List.set_cons_succ])
  go_cut [30] (fun v30 wc => ∃ (kq : Nat) (x30_4 : Bool),v30 = .bool x30_4 ∧ Aside0 (impl_InsRead.j0 kq t214 x30_4 = some (r1,r2,r3,r4)) ∧ Aside0 (kq ≤ k) ∧ Aside0 (Kd.V Kd.string 9 wc w.heap.size (fun k_ => k_ ≠ gb213 ∧ k_ ≠ gb222) (.slice (some ad217) t214.length co8) t214) ∧ Aside0 (wc.heap[gb213]? = some (.cells #[.string (⟨#[]⟩ : ByteArray),.int .i64 0,.int .i64 0] 26 (0,0))) ∧ Aside0 (wc.heap[gb222]? = some (.cells #[.string t218,.int .i64 t219,.int .i64 t220] 46 (0,0))) ∧ Aside0 (Below w.heap.size w wc))
  case first =>
   have H:=HC5.out
   clear HC5
   by_cases c13 : t221 = true
   ·subst c13
    have H1 : ((impl_insForm_many.f t218 t219 t220).bind fun t223 => (impl_InsRead.j0 k t214 ((t214.length : Int) != (wrap64 (1 + t223))))) = some (r1,r2,r3,r4):=by rw [if_pos rfl] at H;exact H
    clear H
    have H:=H1
    clear H1
    replace H:=Option.bind_eq_some_iff.mp H
    obtain ⟨t223,A140,H⟩:=H
    replace H : (impl_InsRead.j0 k t214 ((t214.length : Int) != (wrap64 (1 + t223)))) = some (r1,r2,r3,r4):=H
    have A14:=Aside0.mk A140
    clear A140
    have H':=Aside0.mk H
    clear H
    have hnb15:=NB222_213.out
    have hnc15:=NB213_222.out
    have hcz16_0:=Up.c0 BK222
    have hcz16_1:=Up.c1 BK222
    have hcz16_2:=Up.c2 BK222
    have hfz16_0:=blk_frozen BK222.out 0
    have hfz16_1:=blk_frozen BK222.out 1
    have hfz16_2:=blk_frozen BK222.out 2
    go_wp2_with (first | (go_at_call 48;(with_reducible refine (impl_insForm_many.calls t218 t219 t220 t223 _ A14.out).mono ?_);rintro e w17 ⟨rfl,hb⟩;have n0_:=Aside0.mk (Kd.V_below (by (with_reducible repeat (first | apply Kd.V_alloc | apply Kd.V_drewN | apply Kd.V_drew));exact (Kd.V_mono (Kd.V_far (p:=⟨gb222,2,none⟩) (Kd.V_far (p:=⟨gb222,1,none⟩) (Kd.V_far (p:=⟨gb222,0,none⟩) (Kd.V_mono HO216.out (fun k_ hk => (⟨hk,hk.2⟩ : _ ∧ k_ ≠ gb222))) (fun _ hk => hk.2) (.string t218)) (fun _ hk => hk.2) (.int .i64 t219)) (fun _ hk => hk.2) (.int .i64 t220)) (fun _ h_ => h_.1))) hb);have n1_:=Aside0.mk (blk_below (g:=gb213) (o:=.cells #[.string (⟨#[]⟩ : ByteArray),.int .i64 0,.int .i64 0] 26 (0,0)) (Up.Kx BK213) hb);have n2_:=Aside0.mk (blk_below (g:=gb222) (o:=.cells #[.string t218,.int .i64 t219,.int .i64 t220] 46 (0,0)) (Up.Kx BK222) hb);have n3_:=Aside0.mk (below_step (Up.Bx HB) hb);clear HO216 BK213 BK222 HB;have HO216:=n0_;have BK213:=n1_;have BK222:=n2_;have HB:=n3_;clear n0_ n1_ n2_ n3_;(try clear hb);(try clear hb2);(try clear hk);(try clear hi)))
    go_meet
    case rel => exact ⟨_,(((t214.length : Int) != (wrap64 (1 + t223)))),(by first | rfl | (simp;done) | (simp [*];done)),H',⟨by first | omega | exact Nat.le_refl _⟩,⟨Up.Vup HO216⟩,⟨by (with_reducible repeat (first | refine blk_drewN ?_ _ | refine blk_drew ?_ | refine blk_alloc ?_ _));exact BK213.out⟩,⟨by (with_reducible repeat (first | refine blk_drewN ?_ _ | refine blk_drew ?_ | refine blk_alloc ?_ _));exact BK222.out⟩,⟨Up.Bx HB⟩⟩
   ·replace c13:=Bool.eq_false_iff.mpr c13
    subst c13
    have H1 : (impl_InsRead.j0 k t214 true) = some (r1,r2,r3,r4):=by rw [if_neg (show ¬ (false = true) by decide)] at H;exact H
    clear H
    have H:=H1
    clear H1
    have H':=Aside0.mk H
    clear H
    go_wp2
    go_meet
    case rel => exact ⟨_,(true),(by first | rfl | (simp;done) | (simp [*];done)),H',⟨by first | omega | exact Nat.le_refl _⟩,⟨by (with_reducible repeat (first | apply Kd.V_alloc | apply Kd.V_drewN | apply Kd.V_drew));exact Kd.V_mono (Kd.V_far (p:=⟨gb222,2,none⟩) (Kd.V_far (p:=⟨gb222,1,none⟩) (Kd.V_far (p:=⟨gb222,0,none⟩) (Kd.V_mono HO216.out (fun k_ hk => (⟨hk,hk.2⟩ : _ ∧ k_ ≠ gb222))) (fun _ hk => hk.2) (.string t218)) (fun _ hk => hk.2) (.int .i64 t219)) (fun _ hk => hk.2) (.int .i64 t220)) (fun _ hk => ⟨hk.1.1,hk.1.2⟩)⟩,⟨by (with_reducible repeat (first | refine blk_drewN ?_ _ | refine blk_drew ?_ | refine blk_alloc ?_ _));refine blk_far ?_ NB213_222.out _;(with_reducible repeat (first | refine blk_drewN ?_ _ | refine blk_drew ?_ | refine blk_alloc ?_ _));refine blk_far ?_ NB213_222.out _;(with_reducible repeat (first | refine blk_drewN ?_ _ | refine blk_drew ?_ | refine blk_alloc ?_ _));refine blk_far ?_ NB213_222.out _;(with_reducible repeat (first | refine blk_drewN ?_ _ | refine blk_drew ?_ | refine blk_alloc ?_ _));exact BK213.out⟩,⟨by (with_reducible repeat (first | refine blk_drewN ?_ _ | refine blk_drew ?_ | refine blk_alloc ?_ _));refine blk_put (cs:=#[.string t218,.int .i64 t219,.int .i64 0]) ?_ 2 _ rfl;(with_reducible repeat (first | refine blk_drewN ?_ _ | refine blk_drew ?_ | refine blk_alloc ?_ _));refine blk_put (cs:=#[.string t218,.int .i64 0,.int .i64 0]) ?_ 1 _ rfl;(with_reducible repeat (first | refine blk_drewN ?_ _ | refine blk_drew ?_ | refine blk_alloc ?_ _));refine blk_put (cs:=#[.string (⟨#[]⟩ : ByteArray),.int .i64 0,.int .i64 0]) ?_ 0 _ rfl;(with_reducible repeat (first | refine blk_drewN ?_ _ | refine blk_drew ?_ | refine blk_alloc ?_ _));exact BK222.out⟩,⟨Up.Bx HB⟩⟩
  case rest =>
   clear HC5
   try clear c1
   try clear c2
   try clear p2
   try clear q2
   try clear hx2
   try clear qi2
   try clear c3
   try clear c3b0
   try clear c3b1
   try clear c4
   try clear p6
   try clear c11
   try clear c13
   try clear c15
   try clear hcz12_0
   try clear hcz12_1
   try clear hcz12_2
   try clear hcz16_0
   try clear hcz16_1
   try clear hcz16_2
   try clear hfz12_0
   try clear hfz12_1
   try clear hfz12_2
   try clear hfz16_0
   try clear hfz16_1
   try clear hfz16_2
   try clear hx217_0
   try clear p217
   try clear q217
   obtain ⟨kq,x30_4,rfl,HA,HJ4,HO_4,BK213,BK222,HB⟩:=hcut
   cases kq with
   | zero => exact absurd HA.out (by simp [impl_InsRead.j0])
   | succ kj4 =>
    have H:=HA.out
    clear HA
    simp only [impl_InsRead.j0] at H
    by_cases c18 : x30_4 = true
    ·subst c18
     have H1 : (some ((⟨#[]⟩ : ByteArray),0,0,false)) = some (r1,r2,r3,r4):=by rw [if_pos rfl] at H;exact H
     clear H
     have H:=H1
     clear H1
     simp only [Option.some.injEq,Prod.mk.injEq] at H
     obtain ⟨rfl,rfl,rfl,rfl⟩:=H
     have hnb19:=NB213_222.out
     have hnc19:=NB222_213.out
     have hcz20_0:=Up.c0 BK213
     have hcz20_1:=Up.c1 BK213
     have hcz20_2:=Up.c2 BK213
     have hfz20_0:=blk_frozen BK213.out 0
     have hfz20_1:=blk_frozen BK213.out 1
     have hfz20_2:=blk_frozen BK213.out 2
     go_wp2
     refine bodyPost_ret (results_ct rfl _ _ gb213 26 #[.string (⟨#[]⟩ : ByteArray),.int .i64 0,.int .i64 0] (0,0) _ rfl (Up.Kx BK213) Tryd.underlying26 rfl (by kernel_rfl)) rfl ?_
     exact Up.e1 (Up.Bx HB)
    ·replace c18:=Bool.eq_false_iff.mpr c18
     subst c18
     have H1 : (if 0 < (t214.length : Int) then (if 1 ≤ (t214.length : Int) then ((some (t214.drop 1 : List ByteArray)).bind fun y226 => (impl_InsRead.l0 kj4 y226 (y226.length : Int) 0 (rdOf ByteArray.empty t214 0) 0 0)) else (none)) else (none)) = some (r1,r2,r3,r4):=by rw [if_neg (show ¬ (false = true) by decide)] at H;exact H
     clear H
     have H:=H1
     clear H1
     by_cases c21 : 0 < (t214.length : Int)
     ·rw [if_pos c21] at H
      have c21b0 : decide (0 < (t214.length : Int)) = true:=decide_eq_true c21
      have c21b1 : decide (0 < t214.length) = true:=decide_eq_true (by omega)
      clear c21
      by_cases c22 : 1 ≤ (t214.length : Int)
      ·rw [if_pos c22] at H
       have c22b0:=eq_true c22
       have c22b1 : decide (1 ≤ (t214.length : Int)) = true:=decide_eq_true c22
       clear c22
       obtain ⟨y226,hy226⟩ : ∃ y_ : List ByteArray,y_ = (t214.drop 1):=⟨_,rfl⟩
       replace H : (impl_InsRead.l0 kj4 y226 (y226.length : Int) 0 (rdOf ByteArray.empty t214 0) 0 0) = some (r1,r2,r3,r4):=by first | (rw [hy226];with_reducible exact H) | (have H2_:=(Option.bind_some _ _).symm.trans H;rw [hy226];with_reducible exact H2_) | (have H2_:=(Option.bind_some _ _).symm.trans H;with_reducible exact H2_) | with_reducible exact H | (rw [hy226];exact H) | exact H
       have Ny226:=Aside0.mk hy226
       clear hy226
       have H':=Aside0.mk H
       clear H
       have p224 : 0 ≤ (0 : Int):=(by omega)
       have q224 : 0 < (t214.length : Int):=Up.od
       obtain ⟨ad224,e224,hx224_0⟩:=Kd.at_string (Kd.V_reads' HO_4.out).2.2 0 p224 q224
       obtain rfl : ad217 = ad224:=(by injection e224)
       have qi224 : (0 < t214.length) = True:=eq_true (by omega)
       (try rw [show ((0 : Int)).toNat = 0 from rfl] at hx224_0)
       (try rw [Addr.add_zero'] at hx224_0)
       replace p224:=eq_true p224
       replace q224:=eq_true q224
       go_wp2_with (first | ((with_reducible refine gate_dst (N:=7) rfl ?_);(try (refine gate_guard (by rfl) ?_;dsimp only));refine Up.bx 7 26 #[.string (⟨#[]⟩ : ByteArray),.int .i64 0,.int .i64 0] ?_;intro gb225 hg w23 hbox hb;have n0_:=Aside0.mk (Kd.V_below (Kd.V_elderB (Up.Vup HO_4) gb225 (Nat.le_of_eq hg.symm)) hb);have n1_:=Up.KB BK213 hb;have n2_:=Up.KB BK222 hb;have n3_:=Aside0.mk (below_step (Up.Bx HB) hb);have n4_:=Aside0.mk (hbox);have n5_:=Up.gw hg HB;have n6_:=Up.gw hg HB;have n7_:=Up.nl hg BK213;have n8_:=Up.ng hg BK213;have n9_:=Up.nl hg BK222;have n10_:=Up.ng hg BK222;clear HO_4 BK213 BK222 HB;have HO_4:=n0_;have BK213:=n1_;have BK222:=n2_;have HB:=n3_;have BK225:=n4_;have GW225:=n5_;have GE225:=n6_;have NB213_225:=n7_;have NB225_213:=n8_;have NB222_225:=n9_;have NB225_222:=n10_;clear n0_ n1_ n2_ n3_ n4_ n5_ n6_ n7_ n8_ n9_ n10_ hb hbox hg;have hnb24:=NB225_213.out;have hnc24:=NB213_225.out;have hnb25:=NB225_222.out;have hnc25:=NB222_225.out;have hcz26_0:=Up.c0 BK225;have hcz26_1:=Up.c1 BK225;have hcz26_2:=Up.c2 BK225;have hfz26_0:=blk_frozen BK225.out 0;have hfz26_1:=blk_frozen BK225.out 1;have hfz26_2:=blk_frozen BK225.out 2) | ((with_reducible refine gate_store (t:=26) (p:=7) rfl ?_);refine store_event (t:=26) (p:=7) (v:=?vo_w27) (w1:=(((w23.setCell ⟨gb225,0,none⟩ (.string (rdOf ByteArray.empty t214 0))).setCell ⟨gb225,1,none⟩ (.int .i64 0)).setCell ⟨gb225,2,none⟩ (.int .i64 0))) ?hg ?ho ?hn ?hr ?_;(case ho => rfl);(case hg => rfl);(case hn => rfl);(case hr => first | (go_simp;done) | (go_simp;rfl));intro w27 hw;have n0_ : Aside0 (Kd.V Kd.string 9 w27 w.heap.size (fun k_ => k_ ≠ gb213 ∧ k_ ≠ gb222 ∧ k_ ≠ gb225) (.slice (some ad217) t214.length co8) t214):=⟨(by rw [hw];exact (Up.Vq (Kd.V_mono (Kd.V_far (p:=⟨gb225,2,none⟩) (Kd.V_far (p:=⟨gb225,1,none⟩) (Kd.V_far (p:=⟨gb225,0,none⟩) (Kd.V_mono HO_4.out (fun k_ hk => (⟨hk,hk.2⟩ : _ ∧ k_ ≠ gb225))) (fun _ hk => hk.2) (.string (rdOf ByteArray.empty t214 0))) (fun _ hk => hk.2) (.int .i64 0)) (fun _ hk => hk.2) (.int .i64 0)) (fun _ hk => ⟨hk.1.1.1,⟨hk.1.1.2,hk.1.2⟩⟩))))⟩;have n1_ : Aside0 (w27.heap[gb213]? = some (.cells #[.string (⟨#[]⟩ : ByteArray),.int .i64 0,.int .i64 0] 26 (0,0))):=⟨(by rw [hw];exact (Up.Kx BK213))⟩;have n2_ : Aside0 (w27.heap[gb222]? = some (.cells #[.string t218,.int .i64 t219,.int .i64 t220] 46 (0,0))):=⟨(by rw [hw];exact (Up.Kx BK222))⟩;have n3_ : Aside0 (w27.heap[gb225]? = some (.cells #[.string (rdOf ByteArray.empty t214 0),.int .i64 0,.int .i64 0] 26 (0,0))):=⟨(by rw [hw];exact (Up.Kx BK225))⟩;have n4_ : Aside0 (Below w.heap.size w w27):=⟨(by rw [hw];exact (Up.Bx HB))⟩;clear hw HO_4 BK213 BK222 BK225 HB;have HO_4:=n0_;have BK213:=n1_;have BK222:=n2_;have BK225:=n3_;have HB:=n4_;clear n0_ n1_ n2_ n3_ n4_;have q28 : (1 : Int) ≤ ((t214.length : Int) : Int):=Up.od;obtain ⟨i028,hi028,_,hsz28,_⟩:=info_parts info9;have hroom28 : t214.length ≤ co8:=(Kd.V_reads' HO_4.out).2.1;have hC28 : Kd.F Kd.string _ _ (some ad217) t214.length t214:=(Kd.V_at (base:=w.heap.size) HO_4.out).2.2;have hcut28:=cut_from (P:=Tryd.prog) 30 9 .i64 Tryd.underlying30 hi028 1 hsz28 (some ad217) t214.length co8 1 (by omega) q28;have hr28:=Kd.F_cut (m:=(1 : Int).toNat) (c:=co8) hC28 (by omega) hroom28;obtain ⟨A28,hA28⟩ : ∃ A1,A1 = (if co8 = (1 : Int).toNat then (some ad217) else ((some ad217) : Option Addr).map (·.add ((1 : Int).toNat * 1))):=⟨_,rfl⟩;obtain ⟨c28,hc28⟩ : ∃ c1,c1 = co8 - (1 : Int).toNat:=⟨_,rfl⟩;have hy28 : y226.length = t214.length - (1 : Int).toNat:=(by rw [Ny226.out,List.length_drop] <;> omega);rw [show (t214).drop (1 : Int).toNat = y226 from Ny226.out.symm] at hr28;replace hr28 : Kd.F Kd.string _ _ A28 y226.length y226:=(by rw [hA28];exact hr28);rw [← hy28,← hA28,← hc28] at hcut28;have HO230:=Aside0.mk (show Kd.V Kd.string 9 _ w.heap.size _ (.slice A28 y226.length c28) y226 from Kd.V_mk (by rw [hy28,hc28];exact Nat.sub_le_sub_right hroom28 _) hr28);have HC230:=Aside0.mk (show y226.length ≤ c28 from by rw [hy28,hc28];exact Nat.sub_le_sub_right hroom28 _);clear hr28 hC28 hroom28 hi028 hsz28 hc28;have KY28:=Aside0.mk hy28;have KA28:=Aside0.mk hA28;clear hy28 hA28;replace q28:=eq_true q28))
       go_loopg [39] kj4 (fun kq v39 w' => ∃ (x39_2 : Int) (x214000_2 : ByteArray) (x214001_2 : Int) (x214002_2 : Int) (x226001_2 : Int) (x226002_2 : Int),v39 = .int .i64 x39_2 ∧ Aside0 (impl_InsRead.l0 kq y226 (y226.length : Int) x39_2 (rdOf ByteArray.empty t214 0) x226001_2 x226002_2 = some (r1,r2,r3,r4)) ∧ Aside0 (kq ≤ kj4) ∧ Aside0 (Kd.V Kd.string 9 w' w.heap.size (fun k_ => k_ ≠ gb213 ∧ k_ ≠ gb222 ∧ k_ ≠ gb225) (.slice A28 y226.length c28) y226) ∧ Aside0 (w'.heap[gb213]? = some (.cells #[.string x214000_2,.int .i64 x214001_2,.int .i64 x214002_2] 26 (0,0))) ∧ Aside0 (w'.heap[gb222]? = some (.cells #[.string t218,.int .i64 t219,.int .i64 t220] 46 (0,0))) ∧ Aside0 (w'.heap[gb225]? = some (.cells #[.string (rdOf ByteArray.empty t214 0),.int .i64 x226001_2,.int .i64 x226002_2] 26 (0,0))) ∧ Aside0 (Below w.heap.size w w'))
       case atStart => exact ⟨(0),((⟨#[]⟩ : ByteArray)),(0),(0),(0),(0),(by first | rfl | (simp;done) | (simp [*];done)),H',⟨Nat.le_refl _⟩,⟨Up.Vup HO230⟩,⟨by (with_reducible repeat (first | refine blk_drewN ?_ _ | refine blk_drew ?_ | refine blk_alloc ?_ _));exact BK213.out⟩,⟨by (with_reducible repeat (first | refine blk_drewN ?_ _ | refine blk_drew ?_ | refine blk_alloc ?_ _));exact BK222.out⟩,⟨by (with_reducible repeat (first | refine blk_drewN ?_ _ | refine blk_drew ?_ | refine blk_alloc ?_ _));exact BK225.out⟩,⟨Up.Bx HB⟩⟩
       case round =>
        clear H'
        try clear c1
        try clear c2
        try clear p2
        try clear q2
        try clear hx2
        try clear qi2
        try clear c3
        try clear c3b0
        try clear c3b1
        try clear c4
        try clear p6
        try clear c11
        try clear c13
        try clear c15
        try clear c18
        try clear c19
        try clear c21
        try clear c21b0
        try clear c21b1
        try clear p21
        try clear q21
        try clear hx21
        try clear qi21
        try clear c22
        try clear c22b0
        try clear c22b1
        try clear p22
        try clear q22
        try clear hx22
        try clear qi22
        try clear c24
        try clear c25
        try clear c26
        try clear c28
        try clear q28
        try clear hcz12_0
        try clear hcz12_1
        try clear hcz12_2
        try clear hcz16_0
        try clear hcz16_1
        try clear hcz16_2
        try clear hcz20_0
        try clear hcz20_1
        try clear hcz20_2
        try clear hcz26_0
        try clear hcz26_1
        try clear hcz26_2
        try clear hfz12_0
        try clear hfz12_1
        try clear hfz12_2
        try clear hfz16_0
        try clear hfz16_1
        try clear hfz16_2
        try clear hfz20_0
        try clear hfz20_1
        try clear hfz20_2
        try clear hfz26_0
        try clear hfz26_1
        try clear hfz26_2
        try clear hx217_0
        try clear hx224_0
        try clear p2
        try clear p217
        try clear p224
        try clear p6
        try clear q2
        try clear q217
        try clear q224
        try clear q28
        obtain ⟨x39_2,x214000_2,x214001_2,x214002_2,x226001_2,x226002_2,rfl,HA,HK2,HO_37,BK213,BK222,BK225,HB⟩:=hrel
        cases gk with
        | zero => exact absurd HA.out (by simp [impl_InsRead.l0])
        | succ k2 =>
         have H:=HA.out
         clear HA
         simp only [impl_InsRead.l0] at H
         by_cases c29 : x39_2 < (y226.length : Int)
         ·rw [if_pos c29] at H
          have c29b0 : decide (x39_2 < (y226.length : Int)) = true:=decide_eq_true c29
          clear c29
          by_cases c30 : 0 ≤ x39_2
          ·rw [if_pos c30] at H
           have c30b0 : decide (0 ≤ x39_2) = true:=decide_eq_true c30
           clear c30
           by_cases c31 : x39_2 < (y226.length : Int)
           ·rw [if_pos c31] at H
            have c31b0 : decide (x39_2 < (y226.length : Int)) = true:=decide_eq_true c31
            clear c31
            replace H:=Option.bind_eq_some_iff.mp H
            obtain ⟨⟨t233,t234⟩,A320,H⟩:=H
            replace H : (if t234 = true then (if x39_2 = 0 then (impl_InsRead.l0 k2 y226 (y226.length : Int) (wrap64 (x39_2 + 1)) (rdOf ByteArray.empty t214 0) t233 x226002_2) else (impl_InsRead.l0 k2 y226 (y226.length : Int) (wrap64 (x39_2 + 1)) (rdOf ByteArray.empty t214 0) x226001_2 t233)) else (some ((⟨#[]⟩ : ByteArray),0,0,false))) = some (r1,r2,r3,r4):=H
            have A32:=Aside0.mk A320
            clear A320
            by_cases c33 : t234 = true
            ·subst c33
             have H1 : (if x39_2 = 0 then (impl_InsRead.l0 k2 y226 (y226.length : Int) (wrap64 (x39_2 + 1)) (rdOf ByteArray.empty t214 0) t233 x226002_2) else (impl_InsRead.l0 k2 y226 (y226.length : Int) (wrap64 (x39_2 + 1)) (rdOf ByteArray.empty t214 0) x226001_2 t233)) = some (r1,r2,r3,r4):=by rw [if_pos rfl] at H;exact H
             clear H
             have H:=H1
             clear H1
             by_cases c34 : x39_2 = 0
             ·rw [if_pos c34] at H
              have c34b0 : (x39_2 == 0) = true:=beq_iff_eq.mpr c34
              have c34b1 : (x39_2 != 0) = false:=bne_eq_false_iff_eq.mpr c34
              clear c34
              have H':=Aside0.mk H
              clear H
              have p232 : 0 ≤ (x39_2 : Int):=Up.od
              have q232 : x39_2 < (y226.length : Int):=Up.od
              obtain ⟨ad232,e232,hx232_0⟩:=Kd.at_string (Kd.V_reads' HO_37.out).2.2 x39_2 p232 q232
              cases e232
              replace p232:=eq_true p232
              replace q232:=eq_true q232
              go_wp2_with (first | ((with_reducible refine gate_callee (f:=49) rfl ?_);refine Up.gl (some 46) Tryd.func49 #[.string (rdOf ByteArray.empty y226 x39_2)] ?_;(with_reducible refine (impl_decimal.calls k2 (rdOf ByteArray.empty y226 x39_2) t233 true _ A32.out).mono ?_);rintro e w' ⟨rfl,⟨nd,rfl⟩⟩;refine ⟨_,rfl,?_⟩;(try (rw [drewN_self wr];generalize hq_ : World.drewN wr _ = wr;have n0_ : Aside0 (Kd.V Kd.string 9 wr w.heap.size (fun k_ => k_ ≠ gb213 ∧ k_ ≠ gb222 ∧ k_ ≠ gb225) (.slice (some ad232) y226.length c28) y226):=⟨by rw [← hq_];exact (Up.Vup HO_37)⟩;have n1_ : Aside0 (wr.heap[gb213]? = some (.cells #[.string x214000_2,.int .i64 x214001_2,.int .i64 x214002_2] 26 (0,0))):=⟨by rw [← hq_];exact (Up.Kup BK213)⟩;have n2_ : Aside0 (wr.heap[gb222]? = some (.cells #[.string t218,.int .i64 t219,.int .i64 t220] 46 (0,0))):=⟨by rw [← hq_];exact (Up.Kup BK222)⟩;have n3_ : Aside0 (wr.heap[gb225]? = some (.cells #[.string (rdOf ByteArray.empty t214 0),.int .i64 x226001_2,.int .i64 x226002_2] 26 (0,0))):=⟨by rw [← hq_];exact (Up.Kup BK225)⟩;have n4_ : Aside0 (Below w.heap.size w wr):=⟨by rw [← hq_];exact (Up.Bx HB)⟩;clear HO_37 BK213 BK222 BK225 HB hq_;have HO_37:=n0_;have BK213:=n1_;have BK222:=n2_;have BK225:=n3_;have HB:=n4_;clear n0_ n1_ n2_ n3_ n4_));have hnb35:=NB225_213.out;have hnc35:=NB213_225.out;have hnb36:=NB225_222.out;have hnc36:=NB222_225.out;have hcz37_0:=Up.c0 BK225;have hcz37_1:=Up.c1 BK225;have hcz37_2:=Up.c2 BK225;have hfz37_0:=blk_frozen BK225.out 0;have hfz37_1:=blk_frozen BK225.out 1;have hfz37_2:=blk_frozen BK225.out 2))
              go_roundg k2
              case measure => have:=HJ4.out;have:=HK2.out;omega
              case rel => exact ⟨(wrap64 (x39_2 + 1)),(x214000_2),(x214001_2),(x214002_2),(t233),(x226002_2),(by first | rfl | (simp;done) | (simp [*];done)),H',⟨by have:=HJ4.out;have:=HK2.out;omega⟩,⟨by (with_reducible repeat (first | apply Kd.V_alloc | apply Kd.V_drewN | apply Kd.V_drew));exact Kd.V_mono (Kd.V_far (p:=⟨gb225,1,none⟩) (Kd.V_mono HO_37.out (fun k_ hk => (⟨hk,hk.2.2⟩ : _ ∧ k_ ≠ gb225))) (fun _ hk => hk.2) (.int .i64 t233)) (fun _ hk => ⟨hk.1.1,⟨hk.1.2.1,hk.1.2.2⟩⟩)⟩,⟨by (with_reducible repeat (first | refine blk_drewN ?_ _ | refine blk_drew ?_ | refine blk_alloc ?_ _));refine blk_far ?_ NB213_225.out _;(with_reducible repeat (first | refine blk_drewN ?_ _ | refine blk_drew ?_ | refine blk_alloc ?_ _));exact BK213.out⟩,⟨by (with_reducible repeat (first | refine blk_drewN ?_ _ | refine blk_drew ?_ | refine blk_alloc ?_ _));refine blk_far ?_ NB222_225.out _;(with_reducible repeat (first | refine blk_drewN ?_ _ | refine blk_drew ?_ | refine blk_alloc ?_ _));exact BK222.out⟩,⟨by (with_reducible repeat (first | refine blk_drewN ?_ _ | refine blk_drew ?_ | refine blk_alloc ?_ _));refine blk_put (cs:=#[.string (rdOf ByteArray.empty t214 0),.int .i64 x226001_2,.int .i64 x226002_2]) ?_ 1 _ rfl;(with_reducible repeat (first | refine blk_drewN ?_ _ | refine blk_drew ?_ | refine blk_alloc ?_ _));exact BK225.out⟩,⟨Up.Bx HB⟩⟩
             ·rw [if_neg c34] at H
              have c34b0 : (x39_2 == 0) = false:=beq_eq_false_iff_ne.mpr c34
              have c34b1 : (x39_2 != 0) = true:=bne_iff_ne.mpr c34
              have H':=Aside0.mk H
              clear H
              have p232 : 0 ≤ (x39_2 : Int):=Up.od
              have q232 : x39_2 < (y226.length : Int):=Up.od
              obtain ⟨ad232,e232,hx232_0⟩:=Kd.at_string (Kd.V_reads' HO_37.out).2.2 x39_2 p232 q232
              cases e232
              replace p232:=eq_true p232
              replace q232:=eq_true q232
              go_wp2_with (first | ((with_reducible refine gate_callee (f:=49) rfl ?_);refine Up.gl (some 46) Tryd.func49 #[.string (rdOf ByteArray.empty y226 x39_2)] ?_;(with_reducible refine (impl_decimal.calls k2 (rdOf ByteArray.empty y226 x39_2) t233 true _ A32.out).mono ?_);rintro e w' ⟨rfl,⟨nd,rfl⟩⟩;refine ⟨_,rfl,?_⟩;(try (rw [drewN_self wr];generalize hq_ : World.drewN wr _ = wr;have n0_ : Aside0 (Kd.V Kd.string 9 wr w.heap.size (fun k_ => k_ ≠ gb213 ∧ k_ ≠ gb222 ∧ k_ ≠ gb225) (.slice (some ad232) y226.length c28) y226):=⟨by rw [← hq_];exact (Up.Vup HO_37)⟩;have n1_ : Aside0 (wr.heap[gb213]? = some (.cells #[.string x214000_2,.int .i64 x214001_2,.int .i64 x214002_2] 26 (0,0))):=⟨by rw [← hq_];exact (Up.Kup BK213)⟩;have n2_ : Aside0 (wr.heap[gb222]? = some (.cells #[.string t218,.int .i64 t219,.int .i64 t220] 46 (0,0))):=⟨by rw [← hq_];exact (Up.Kup BK222)⟩;have n3_ : Aside0 (wr.heap[gb225]? = some (.cells #[.string (rdOf ByteArray.empty t214 0),.int .i64 x226001_2,.int .i64 x226002_2] 26 (0,0))):=⟨by rw [← hq_];exact (Up.Kup BK225)⟩;have n4_ : Aside0 (Below w.heap.size w wr):=⟨by rw [← hq_];exact (Up.Bx HB)⟩;clear HO_37 BK213 BK222 BK225 HB hq_;have HO_37:=n0_;have BK213:=n1_;have BK222:=n2_;have BK225:=n3_;have HB:=n4_;clear n0_ n1_ n2_ n3_ n4_));have hnb38:=NB225_213.out;have hnc38:=NB213_225.out;have hnb39:=NB225_222.out;have hnc39:=NB222_225.out;have hcz40_0:=Up.c0 BK225;have hcz40_1:=Up.c1 BK225;have hcz40_2:=Up.c2 BK225;have hfz40_0:=blk_frozen BK225.out 0;have hfz40_1:=blk_frozen BK225.out 1;have hfz40_2:=blk_frozen BK225.out 2))
              go_roundg k2
              case measure => have:=HJ4.out;have:=HK2.out;omega
              case rel => exact ⟨(wrap64 (x39_2 + 1)),(x214000_2),(x214001_2),(x214002_2),(x226001_2),(t233),(by first | rfl | (simp;done) | (simp [*];done)),H',⟨by have:=HJ4.out;have:=HK2.out;omega⟩,⟨by (with_reducible repeat (first | apply Kd.V_alloc | apply Kd.V_drewN | apply Kd.V_drew));exact Kd.V_mono (Kd.V_far (p:=⟨gb225,2,none⟩) (Kd.V_mono HO_37.out (fun k_ hk => (⟨hk,hk.2.2⟩ : _ ∧ k_ ≠ gb225))) (fun _ hk => hk.2) (.int .i64 t233)) (fun _ hk => ⟨hk.1.1,⟨hk.1.2.1,hk.1.2.2⟩⟩)⟩,⟨by (with_reducible repeat (first | refine blk_drewN ?_ _ | refine blk_drew ?_ | refine blk_alloc ?_ _));refine blk_far ?_ NB213_225.out _;(with_reducible repeat (first | refine blk_drewN ?_ _ | refine blk_drew ?_ | refine blk_alloc ?_ _));exact BK213.out⟩,⟨by (with_reducible repeat (first | refine blk_drewN ?_ _ | refine blk_drew ?_ | refine blk_alloc ?_ _));refine blk_far ?_ NB222_225.out _;(with_reducible repeat (first | refine blk_drewN ?_ _ | refine blk_drew ?_ | refine blk_alloc ?_ _));exact BK222.out⟩,⟨by (with_reducible repeat (first | refine blk_drewN ?_ _ | refine blk_drew ?_ | refine blk_alloc ?_ _));refine blk_put (cs:=#[.string (rdOf ByteArray.empty t214 0),.int .i64 x226001_2,.int .i64 x226002_2]) ?_ 2 _ rfl;(with_reducible repeat (first | refine blk_drewN ?_ _ | refine blk_drew ?_ | refine blk_alloc ?_ _));exact BK225.out⟩,⟨Up.Bx HB⟩⟩
            ·replace c33:=Bool.eq_false_iff.mpr c33
             subst c33
             have H1 : (some ((⟨#[]⟩ : ByteArray),0,0,false)) = some (r1,r2,r3,r4):=by rw [if_neg (show ¬ (false = true) by decide)] at H;exact H
             clear H
             have H:=H1
             clear H1
             simp only [Option.some.injEq,Prod.mk.injEq] at H
             obtain ⟨rfl,rfl,rfl,rfl⟩:=H
             have p232 : 0 ≤ (x39_2 : Int):=Up.od
             have q232 : x39_2 < (y226.length : Int):=Up.od
             obtain ⟨ad232,e232,hx232_0⟩:=Kd.at_string (Kd.V_reads' HO_37.out).2.2 x39_2 p232 q232
             cases e232
             replace p232:=eq_true p232
             replace q232:=eq_true q232
             go_wp2_with (first | ((with_reducible refine gate_callee (f:=49) rfl ?_);refine Up.gl (some 46) Tryd.func49 #[.string (rdOf ByteArray.empty y226 x39_2)] ?_;(with_reducible refine (impl_decimal.calls k2 (rdOf ByteArray.empty y226 x39_2) t233 false _ A32.out).mono ?_);rintro e w' ⟨rfl,⟨nd,rfl⟩⟩;refine ⟨_,rfl,?_⟩;(try (rw [drewN_self wr];generalize hq_ : World.drewN wr _ = wr;have n0_ : Aside0 (Kd.V Kd.string 9 wr w.heap.size (fun k_ => k_ ≠ gb213 ∧ k_ ≠ gb222 ∧ k_ ≠ gb225) (.slice (some ad232) y226.length c28) y226):=⟨by rw [← hq_];exact (Up.Vup HO_37)⟩;have n1_ : Aside0 (wr.heap[gb213]? = some (.cells #[.string x214000_2,.int .i64 x214001_2,.int .i64 x214002_2] 26 (0,0))):=⟨by rw [← hq_];exact (Up.Kup BK213)⟩;have n2_ : Aside0 (wr.heap[gb222]? = some (.cells #[.string t218,.int .i64 t219,.int .i64 t220] 46 (0,0))):=⟨by rw [← hq_];exact (Up.Kup BK222)⟩;have n3_ : Aside0 (wr.heap[gb225]? = some (.cells #[.string (rdOf ByteArray.empty t214 0),.int .i64 x226001_2,.int .i64 x226002_2] 26 (0,0))):=⟨by rw [← hq_];exact (Up.Kup BK225)⟩;have n4_ : Aside0 (Below w.heap.size w wr):=⟨by rw [← hq_];exact (Up.Bx HB)⟩;clear HO_37 BK213 BK222 BK225 HB hq_;have HO_37:=n0_;have BK213:=n1_;have BK222:=n2_;have BK225:=n3_;have HB:=n4_;clear n0_ n1_ n2_ n3_ n4_));have hnb41:=NB213_222.out;have hnc41:=NB222_213.out;have hnb42:=NB213_225.out;have hnc42:=NB225_213.out;have hcz43_0:=Up.c0 BK213;have hcz43_1:=Up.c1 BK213;have hcz43_2:=Up.c2 BK213;have hfz43_0:=blk_frozen BK213.out 0;have hfz43_1:=blk_frozen BK213.out 1;have hfz43_2:=blk_frozen BK213.out 2))
             refine bodyPost_ret (results_ct rfl _ _ gb213 26 #[.string (⟨#[]⟩ : ByteArray),.int .i64 0,.int .i64 0] (0,0) _ rfl (Up.Kx BK213) Tryd.underlying26 rfl (by kernel_rfl)) rfl ?_
             exact Up.e1 (Up.Bx HB)
           ·rw [if_neg c31] at H
            exact absurd H (by simp)
          ·rw [if_neg c30] at H
           exact absurd H (by simp)
         ·rw [if_neg c29] at H
          have c29b0 : decide (x39_2 < (y226.length : Int)) = false:=decide_eq_false c29
          clear c29
          replace H:=Option.bind_eq_some_iff.mp H
          obtain ⟨t231,A440,H⟩:=H
          replace H : (if t231 = true then (some ((rdOf ByteArray.empty t214 0),x226001_2,x226002_2,true)) else (some ((⟨#[]⟩ : ByteArray),0,0,false))) = some (r1,r2,r3,r4):=H
          have A44:=Aside0.mk A440
          clear A440
          by_cases c45 : t231 = true
          ·subst c45
           have H1 : (some ((rdOf ByteArray.empty t214 0),x226001_2,x226002_2,true)) = some (r1,r2,r3,r4):=by rw [if_pos rfl] at H;exact H
           clear H
           have H:=H1
           clear H1
           simp only [Option.some.injEq,Prod.mk.injEq] at H
           obtain ⟨rfl,rfl,rfl,rfl⟩:=H
           have hnb46:=NB225_213.out
           have hnc46:=NB213_225.out
           have hnb47:=NB225_222.out
           have hnc47:=NB222_225.out
           have hcz48_0:=Up.c0 BK225
           have hcz48_1:=Up.c1 BK225
           have hcz48_2:=Up.c2 BK225
           have hfz48_0:=blk_frozen BK225.out 0
           have hfz48_1:=blk_frozen BK225.out 1
           have hfz48_2:=blk_frozen BK225.out 2
           go_wp2_with (first | ((with_reducible refine gate_callee (f:=14) rfl ?_);refine Up.gl (some 60) Tryd.func14 #[.agg #[.string (rdOf ByteArray.empty t214 0),.int .i64 x226001_2,.int .i64 x226002_2]] ?_;(with_reducible refine (impl_InsOk.calls (hT_:=?tab1) k2 (rdOf ByteArray.empty t214 0) x226001_2 x226002_2 true _ A44.out).mono ?_);(case tab1 => exact hT_.below (Up.Bx HB));rintro e w49 ⟨rfl,hb⟩;refine ⟨_,rfl,?_⟩;have n0_:=Up.VB HO_37 hb;have n1_:=Up.KB BK213 hb;have n2_:=Up.KB BK222 hb;have n3_:=Up.KB BK225 hb;have n4_:=Aside0.mk (below_step (Up.Bx HB) hb);clear HO_37 BK213 BK222 BK225 HB;have HO_37:=n0_;have BK213:=n1_;have BK222:=n2_;have BK225:=n3_;have HB:=n4_;clear n0_ n1_ n2_ n3_ n4_;(try clear hb);(try clear hb2);(try clear hk);(try clear hi);have hcz50_0:=Up.c0 BK225;have hcz50_1:=Up.c1 BK225;have hcz50_2:=Up.c2 BK225;have hfz50_0:=blk_frozen BK225.out 0;have hfz50_1:=blk_frozen BK225.out 1;have hfz50_2:=blk_frozen BK225.out 2;have hnb51:=NB213_222.out;have hnc51:=NB222_213.out;have hcz52_0:=Up.c0 BK213;have hcz52_1:=Up.c1 BK213;have hcz52_2:=Up.c2 BK213;have hfz52_0:=blk_frozen BK213.out 0;have hfz52_1:=blk_frozen BK213.out 1;have hfz52_2:=blk_frozen BK213.out 2))
           refine bodyPost_ret (results_ct rfl _ _ gb213 26 #[.string (rdOf ByteArray.empty t214 0),.int .i64 x226001_2,.int .i64 x226002_2] (0,0) _ rfl (Up.Kx BK213) Tryd.underlying26 rfl (by kernel_rfl)) rfl ?_
           exact Up.e1 (Up.Bx HB)
          ·replace c45:=Bool.eq_false_iff.mpr c45
           subst c45
           have H1 : (some ((⟨#[]⟩ : ByteArray),0,0,false)) = some (r1,r2,r3,r4):=by rw [if_neg (show ¬ (false = true) by decide)] at H;exact H
           clear H
           have H:=H1
           clear H1
           simp only [Option.some.injEq,Prod.mk.injEq] at H
           obtain ⟨rfl,rfl,rfl,rfl⟩:=H
           have hnb53:=NB225_213.out
           have hnc53:=NB213_225.out
           have hnb54:=NB225_222.out
           have hnc54:=NB222_225.out
           have hcz55_0:=Up.c0 BK225
           have hcz55_1:=Up.c1 BK225
           have hcz55_2:=Up.c2 BK225
           have hfz55_0:=blk_frozen BK225.out 0
           have hfz55_1:=blk_frozen BK225.out 1
           have hfz55_2:=blk_frozen BK225.out 2
           go_wp2_with (first | ((with_reducible refine gate_callee (f:=14) rfl ?_);refine Up.gl (some 60) Tryd.func14 #[.agg #[.string (rdOf ByteArray.empty t214 0),.int .i64 x226001_2,.int .i64 x226002_2]] ?_;(with_reducible refine (impl_InsOk.calls (hT_:=?tab1) k2 (rdOf ByteArray.empty t214 0) x226001_2 x226002_2 false _ A44.out).mono ?_);(case tab1 => exact hT_.below (Up.Bx HB));rintro e w56 ⟨rfl,hb⟩;refine ⟨_,rfl,?_⟩;have n0_:=Up.VB HO_37 hb;have n1_:=Up.KB BK213 hb;have n2_:=Up.KB BK222 hb;have n3_:=Up.KB BK225 hb;have n4_:=Aside0.mk (below_step (Up.Bx HB) hb);clear HO_37 BK213 BK222 BK225 HB;have HO_37:=n0_;have BK213:=n1_;have BK222:=n2_;have BK225:=n3_;have HB:=n4_;clear n0_ n1_ n2_ n3_ n4_;(try clear hb);(try clear hb2);(try clear hk);(try clear hi);have hnb57:=NB213_222.out;have hnc57:=NB222_213.out;have hcz58_0:=Up.c0 BK213;have hcz58_1:=Up.c1 BK213;have hcz58_2:=Up.c2 BK213;have hfz58_0:=blk_frozen BK213.out 0;have hfz58_1:=blk_frozen BK213.out 1;have hfz58_2:=blk_frozen BK213.out 2))
           refine bodyPost_ret (results_ct rfl _ _ gb213 26 #[.string (⟨#[]⟩ : ByteArray),.int .i64 0,.int .i64 0] (0,0) _ rfl (Up.Kx BK213) Tryd.underlying26 rfl (by kernel_rfl)) rfl ?_
           exact Up.e1 (Up.Bx HB)
      ·rw [if_neg c22] at H
       exact absurd H (by simp)
     ·rw [if_neg c21] at H
      exact absurd H (by simp)
 ·rw [if_neg c3] at H
  exact absurd H (by simp)

/-! ### laws_eqIns: function 27 -/
def laws_eqIns.f (a0_0 : ByteArray) (a0_1 : Int) (a0_2 : Int) (a1_0 : ByteArray) (a1_1 : Int) (a1_2 : Int) : Option (Bool):=if a0_0.toList = a1_0.toList then (if a0_1 = a1_1 then (if a0_2 = a1_2 then (some true) else (some false)) else (some false)) else (some false)
set_option maxHeartbeats 8000000 in
set_option maxRecDepth 100000 in
theorem laws_eqIns.calls (a0_0 : ByteArray) (a0_1 : Int) (a0_2 : Int) (a1_0 : ByteArray) (a1_1 : Int) (a1_2 : Int) (r : Bool) (w : World) (h : laws_eqIns.f a0_0 a0_1 a0_2 a1_0 a1_1 a1_2 = some r) :
  Calls Tryd.prog 27 #[.agg #[.string a0_0,.int .i64 a0_1,.int .i64 a0_2],.agg #[.string a1_0,.int .i64 a1_1,.int .i64 a1_2]] w fun e w' => e = .returned (.bool r) ∧ Below w.heap.size w w':=by
 have hu26:=Tryd.underlying26
 have HB:=Aside0.mk (Below.refl w.heap.size w)
 have H : (if a0_0.toList = a1_0.toList then (if a0_1 = a1_1 then (if a0_2 = a1_2 then (some true) else (some false)) else (some false)) else (some false)) = some r:=h
 clear h
 by_cases c3 : a0_0.toList = a1_0.toList
 ·rw [if_pos c3] at H
  have c3b0 : (a0_0.toList == a1_0.toList) = true:=beq_iff_eq.mpr c3
  have c3b1 : (a0_0.toList != a1_0.toList) = false:=bne_eq_false_iff_eq.mpr c3
  clear c3
  by_cases c4 : a0_1 = a1_1
  ·rw [if_pos c4] at H
   have c4b0 : (a0_1 == a1_1) = true:=beq_iff_eq.mpr c4
   have c4b1 : (a0_1 != a1_1) = false:=bne_eq_false_iff_eq.mpr c4
   clear c4
   by_cases c5 : a0_2 = a1_2
   ·rw [if_pos c5] at H
    have c5b0 : (a0_2 == a1_2) = true:=beq_iff_eq.mpr c5
    have c5b1 : (a0_2 != a1_2) = false:=bne_eq_false_iff_eq.mpr c5
    clear c5
    obtain rfl:=Option.some.inj H
    go_enter Tryd.func27,Tryd.ntmps27
    go_wp2_with (first | ((with_reducible refine gate_dst (N:=2) rfl ?_);refine Up.bx 2 26 #[.string a0_0,.int .i64 a0_1,.int .i64 a0_2] ?_;intro gb235 hg w6 hbox hb;have n0_:=Up.BB HB hb;have n1_:=Aside0.mk (hbox);have n2_:=Up.gw hg HB;have n3_:=Up.gw hg HB;clear HB;have HB:=n0_;have BK235:=n1_;have GW235:=n2_;have GE235:=n3_;clear n0_ n1_ n2_ n3_ hb hbox hg) | ((with_reducible refine gate_dst (N:=3) rfl ?_);refine Up.bx 3 26 #[.string a1_0,.int .i64 a1_1,.int .i64 a1_2] ?_;intro gb236 hg w7 hbox hb;have n0_:=Up.KB BK235 hb;have n1_:=Aside0.mk (below_step (Up.Bx HB) hb);have n2_:=Aside0.mk (hbox);have n3_:=Up.gw hg HB;have n4_:=Up.gw hg HB;have n5_:=Up.nl hg BK235;have n6_:=Up.ng hg BK235;clear BK235 HB;have BK235:=n0_;have HB:=n1_;have BK236:=n2_;have GW236:=n3_;have GE236:=n4_;have NB235_236:=n5_;have NB236_235:=n6_;clear n0_ n1_ n2_ n3_ n4_ n5_ n6_ hb hbox hg;have hnb8:=NB235_236.out;have hnc8:=NB236_235.out;have hcz9_0:=Up.c0 BK235;have hcz9_1:=Up.c1 BK235;have hcz9_2:=Up.c2 BK235;have hfz9_0:=blk_frozen BK235.out 0;have hfz9_1:=blk_frozen BK235.out 1;have hfz9_2:=blk_frozen BK235.out 2;have hcz10_0:=Up.c0 BK236;have hcz10_1:=Up.c1 BK236;have hcz10_2:=Up.c2 BK236;have hfz10_0:=blk_frozen BK236.out 0;have hfz10_1:=blk_frozen BK236.out 1;have hfz10_2:=blk_frozen BK236.out 2))
    go_ret
    exact Up.e1 (Up.Bx HB)
   ·rw [if_neg c5] at H
    have c5b0 : (a0_2 == a1_2) = false:=beq_eq_false_iff_ne.mpr c5
    have c5b1 : (a0_2 != a1_2) = true:=bne_iff_ne.mpr c5
    obtain rfl:=Option.some.inj H
    go_enter Tryd.func27,Tryd.ntmps27
    go_wp2_with (first | ((with_reducible refine gate_dst (N:=2) rfl ?_);refine Up.bx 2 26 #[.string a0_0,.int .i64 a0_1,.int .i64 a0_2] ?_;intro gb235 hg w11 hbox hb;have n0_:=Up.BB HB hb;have n1_:=Aside0.mk (hbox);have n2_:=Up.gw hg HB;have n3_:=Up.gw hg HB;clear HB;have HB:=n0_;have BK235:=n1_;have GW235:=n2_;have GE235:=n3_;clear n0_ n1_ n2_ n3_ hb hbox hg) | ((with_reducible refine gate_dst (N:=3) rfl ?_);refine Up.bx 3 26 #[.string a1_0,.int .i64 a1_1,.int .i64 a1_2] ?_;intro gb236 hg w12 hbox hb;have n0_:=Up.KB BK235 hb;have n1_:=Aside0.mk (below_step (Up.Bx HB) hb);have n2_:=Aside0.mk (hbox);have n3_:=Up.gw hg HB;have n4_:=Up.gw hg HB;have n5_:=Up.nl hg BK235;have n6_:=Up.ng hg BK235;clear BK235 HB;have BK235:=n0_;have HB:=n1_;have BK236:=n2_;have GW236:=n3_;have GE236:=n4_;have NB235_236:=n5_;have NB236_235:=n6_;clear n0_ n1_ n2_ n3_ n4_ n5_ n6_ hb hbox hg;have hnb13:=NB235_236.out;have hnc13:=NB236_235.out;have hcz14_0:=Up.c0 BK235;have hcz14_1:=Up.c1 BK235;have hcz14_2:=Up.c2 BK235;have hfz14_0:=blk_frozen BK235.out 0;have hfz14_1:=blk_frozen BK235.out 1;have hfz14_2:=blk_frozen BK235.out 2;have hcz15_0:=Up.c0 BK236;have hcz15_1:=Up.c1 BK236;have hcz15_2:=Up.c2 BK236;have hfz15_0:=blk_frozen BK236.out 0;have hfz15_1:=blk_frozen BK236.out 1;have hfz15_2:=blk_frozen BK236.out 2))
    go_ret
    exact Up.e1 (Up.Bx HB)
  ·rw [if_neg c4] at H
   have c4b0 : (a0_1 == a1_1) = false:=beq_eq_false_iff_ne.mpr c4
   have c4b1 : (a0_1 != a1_1) = true:=bne_iff_ne.mpr c4
   obtain rfl:=Option.some.inj H
   go_enter Tryd.func27,Tryd.ntmps27
   go_wp2_with (first | ((with_reducible refine gate_dst (N:=2) rfl ?_);refine Up.bx 2 26 #[.string a0_0,.int .i64 a0_1,.int .i64 a0_2] ?_;intro gb235 hg w16 hbox hb;have n0_:=Up.BB HB hb;have n1_:=Aside0.mk (hbox);have n2_:=Up.gw hg HB;have n3_:=Up.gw hg HB;clear HB;have HB:=n0_;have BK235:=n1_;have GW235:=n2_;have GE235:=n3_;clear n0_ n1_ n2_ n3_ hb hbox hg) | ((with_reducible refine gate_dst (N:=3) rfl ?_);refine Up.bx 3 26 #[.string a1_0,.int .i64 a1_1,.int .i64 a1_2] ?_;intro gb236 hg w17 hbox hb;have n0_:=Up.KB BK235 hb;have n1_:=Aside0.mk (below_step (Up.Bx HB) hb);have n2_:=Aside0.mk (hbox);have n3_:=Up.gw hg HB;have n4_:=Up.gw hg HB;have n5_:=Up.nl hg BK235;have n6_:=Up.ng hg BK235;clear BK235 HB;have BK235:=n0_;have HB:=n1_;have BK236:=n2_;have GW236:=n3_;have GE236:=n4_;have NB235_236:=n5_;have NB236_235:=n6_;clear n0_ n1_ n2_ n3_ n4_ n5_ n6_ hb hbox hg;have hnb18:=NB235_236.out;have hnc18:=NB236_235.out;have hcz19_0:=Up.c0 BK235;have hcz19_1:=Up.c1 BK235;have hcz19_2:=Up.c2 BK235;have hfz19_0:=blk_frozen BK235.out 0;have hfz19_1:=blk_frozen BK235.out 1;have hfz19_2:=blk_frozen BK235.out 2;have hcz20_0:=Up.c0 BK236;have hcz20_1:=Up.c1 BK236;have hcz20_2:=Up.c2 BK236;have hfz20_0:=blk_frozen BK236.out 0;have hfz20_1:=blk_frozen BK236.out 1;have hfz20_2:=blk_frozen BK236.out 2))
   go_ret
   exact Up.e1 (Up.Bx HB)
 ·rw [if_neg c3] at H
  have c3b0 : (a0_0.toList == a1_0.toList) = false:=beq_eq_false_iff_ne.mpr c3
  have c3b1 : (a0_0.toList != a1_0.toList) = true:=bne_iff_ne.mpr c3
  obtain rfl:=Option.some.inj H
  go_enter Tryd.func27,Tryd.ntmps27
  go_wp2_with (first | ((with_reducible refine gate_dst (N:=2) rfl ?_);refine Up.bx 2 26 #[.string a0_0,.int .i64 a0_1,.int .i64 a0_2] ?_;intro gb235 hg w21 hbox hb;have n0_:=Up.BB HB hb;have n1_:=Aside0.mk (hbox);have n2_:=Up.gw hg HB;have n3_:=Up.gw hg HB;clear HB;have HB:=n0_;have BK235:=n1_;have GW235:=n2_;have GE235:=n3_;clear n0_ n1_ n2_ n3_ hb hbox hg) | ((with_reducible refine gate_dst (N:=3) rfl ?_);refine Up.bx 3 26 #[.string a1_0,.int .i64 a1_1,.int .i64 a1_2] ?_;intro gb236 hg w22 hbox hb;have n0_:=Up.KB BK235 hb;have n1_:=Aside0.mk (below_step (Up.Bx HB) hb);have n2_:=Aside0.mk (hbox);have n3_:=Up.gw hg HB;have n4_:=Up.gw hg HB;have n5_:=Up.nl hg BK235;have n6_:=Up.ng hg BK235;clear BK235 HB;have BK235:=n0_;have HB:=n1_;have BK236:=n2_;have GW236:=n3_;have GE236:=n4_;have NB235_236:=n5_;have NB236_235:=n6_;clear n0_ n1_ n2_ n3_ n4_ n5_ n6_ hb hbox hg;have hnb23:=NB235_236.out;have hnc23:=NB236_235.out;have hcz24_0:=Up.c0 BK235;have hcz24_1:=Up.c1 BK235;have hcz24_2:=Up.c2 BK235;have hfz24_0:=blk_frozen BK235.out 0;have hfz24_1:=blk_frozen BK235.out 1;have hfz24_2:=blk_frozen BK235.out 2;have hcz25_0:=Up.c0 BK236;have hcz25_1:=Up.c1 BK236;have hcz25_2:=Up.c2 BK236;have hfz25_0:=blk_frozen BK236.out 0;have hfz25_1:=blk_frozen BK236.out 1;have hfz25_2:=blk_frozen BK236.out 2))
  go_ret
  exact Up.e1 (Up.Bx HB)

/-! ### laws_FnExactInsRead: function 8 -/
def laws_FnExactInsRead.f (k : Nat) (a0 : ByteArray) : Option (Bool):=if (a0.size : Int) > 1048576 then (some true) else ((spec_InsRead.f k a0).bind fun bt237 => ((impl_InsRead.f k a0).bind fun bt242 => ((laws_eqIns.f bt242.1 bt242.2.1 bt242.2.2.1 bt237.1 bt237.2.1 bt237.2.2.1).bind fun t247 => (if t247 = true then (if (bt242.2.2.2 != bt237.2.2.2) = true then (some false) else (some true)) else (some false)))))
theorem laws_FnExactInsRead.mono : ∀ a0 k,LeO (laws_FnExactInsRead.f k a0) (laws_FnExactInsRead.f (k + 1) a0):=by
 intro a0 k
 unfold laws_FnExactInsRead.f
 repeat' first
   | (with_reducible exact impl_InsRead.mono _ _)
   | (with_reducible exact spec_InsRead.mono _ _)
   | (with_reducible exact LeO.refl _)
   | (with_reducible exact LeO.none _)
   | (with_reducible refine LeO.ite ?_ ?_)
   | (with_reducible refine LeO.bind ?_ (fun _ => ?_))
   | exact impl_InsRead.mono _ _
   | exact spec_InsRead.mono _ _
   | exact LeO.none _
   | refine LeO.ite ?_ ?_
   | refine LeO.bind ?_ (fun _ => ?_)
set_option maxHeartbeats 8000000 in
set_option maxRecDepth 100000 in
theorem laws_FnExactInsRead.calls (k : Nat) (a0 : ByteArray) (r : Bool) (w : World) (hT_ : Tab w) (h : laws_FnExactInsRead.f k a0 = some r) :
  Calls Tryd.prog 8 #[.string a0] w fun e w' => e = .returned (.bool r) ∧ Below w.heap.size w w':=by
 have hu26:=Tryd.underlying26
 have HB:=Aside0.mk (Below.refl w.heap.size w)
 have H : (if (a0.size : Int) > 1048576 then (some true) else ((spec_InsRead.f k a0).bind fun bt237 => ((impl_InsRead.f k a0).bind fun bt242 => ((laws_eqIns.f bt242.1 bt242.2.1 bt242.2.2.1 bt237.1 bt237.2.1 bt237.2.2.1).bind fun t247 => (if t247 = true then (if (bt242.2.2.2 != bt237.2.2.2) = true then (some false) else (some true)) else (some false)))))) = some r:=h
 clear h
 by_cases c2 : (a0.size : Int) > 1048576
 ·rw [if_pos c2] at H
  have c2b0 : decide (1048576 < (a0.size : Int)) = true:=decide_eq_true c2
  have c2b1 : decide (1048576 < a0.size) = true:=decide_eq_true (by omega)
  clear c2
  obtain rfl:=Option.some.inj H
  go_enter Tryd.func8,Tryd.ntmps8
  go_wp2
  go_ret
  exact Up.e1 (Up.Bup HB)
 ·rw [if_neg c2] at H
  have c2b0 : decide (1048576 < (a0.size : Int)) = false:=decide_eq_false c2
  have c2b1 : decide (1048576 < a0.size) = false:=decide_eq_false (by omega)
  clear c2
  replace H:=Option.bind_eq_some_iff.mp H
  obtain ⟨⟨t237,t238,t239,t240⟩,A30,H⟩:=H
  replace H : ((impl_InsRead.f k a0).bind fun bt242 => ((laws_eqIns.f bt242.1 bt242.2.1 bt242.2.2.1 t237 t238 t239).bind fun t247 => (if t247 = true then (if (bt242.2.2.2 != t240) = true then (some false) else (some true)) else (some false)))) = some r:=H
  have A3:=Aside0.mk A30
  clear A30
  replace H:=Option.bind_eq_some_iff.mp H
  obtain ⟨⟨t242,t243,t244,t245⟩,A40,H⟩:=H
  replace H : ((laws_eqIns.f t242 t243 t244 t237 t238 t239).bind fun t247 => (if t247 = true then (if (t245 != t240) = true then (some false) else (some true)) else (some false))) = some r:=H
  have A4:=Aside0.mk A40
  clear A40
  replace H:=Option.bind_eq_some_iff.mp H
  obtain ⟨t247,A50,H⟩:=H
  replace H : (if t247 = true then (if (t245 != t240) = true then (some false) else (some true)) else (some false)) = some r:=H
  have A5:=Aside0.mk A50
  clear A50
  by_cases c6 : t247 = true
  ·subst c6
   have H1 : (if (t245 != t240) = true then (some false) else (some true)) = some r:=by rw [if_pos rfl] at H;exact H
   clear H
   have H:=H1
   clear H1
   by_cases c7 : (t245 != t240) = true
   ·rw [if_pos c7] at H
    have c7b0 : (t245 != t240) = true:=c7
    (try (have c7b1 : decide (t245 = t240) = false:=by simpa using c7))
    (try (have c7b2 : (t245 == t240) = false:=by simpa using c7))
    (try (have c7b3 : ¬ (t245 = t240):=by simpa using c7))
    clear c7
    obtain rfl:=Option.some.inj H
    go_enter Tryd.func8,Tryd.ntmps8
    go_wp2_with (first | ((with_reducible refine gate_callee (f:=25) rfl ?_);refine Up.gl (some 12) Tryd.func25 #[.string a0] ?_;(with_reducible refine (spec_InsRead.calls k a0 t237 t238 t239 t240 _ A3.out).mono ?_);rintro e w8 ⟨rfl,hb⟩;refine ⟨_,rfl,?_⟩;have n0_:=Up.BB HB hb;clear HB;have HB:=n0_;clear n0_;(try clear hb);(try clear hb2);(try clear hk);(try clear hi)) | ((with_reducible refine gate_dst (N:=3) rfl ?_);refine Up.bx 3 26 #[.string (⟨#[]⟩ : ByteArray),.int .i64 0,.int .i64 0] ?_;intro gb241 hg w9 hbox hb;have n0_:=Up.BB HB hb;have n1_:=Aside0.mk (hbox);have n2_:=Up.gw hg HB;have n3_:=Up.gw hg HB;clear HB;have HB:=n0_;have BK241:=n1_;have GW241:=n2_;have GE241:=n3_;clear n0_ n1_ n2_ n3_ hb hbox hg;have hcz10_0:=Up.c0 BK241;have hcz10_1:=Up.c1 BK241;have hcz10_2:=Up.c2 BK241;have hfz10_0:=blk_frozen BK241.out 0;have hfz10_1:=blk_frozen BK241.out 1;have hfz10_2:=blk_frozen BK241.out 2) | ((with_reducible refine gate_callee (f:=26) rfl ?_);refine Up.gl (some 17) Tryd.func26 #[.string a0] ?_;(with_reducible refine (impl_InsRead.calls (hT_:=?tab1) k a0 t242 t243 t244 t245 _ A4.out).mono ?_);(case tab1 => exact hT_.below (Up.Bx HB));rintro e w11 ⟨rfl,hb⟩;refine ⟨_,rfl,?_⟩;have n0_:=Aside0.mk (blk_below (g:=gb241) (o:=.cells #[.string t237,.int .i64 t238,.int .i64 t239] 26 (0,0)) (Up.Kx BK241) hb);have n1_:=Aside0.mk (below_step (Up.Bx HB) hb);clear BK241 HB;have BK241:=n0_;have HB:=n1_;clear n0_ n1_;(try clear hb);(try clear hb2);(try clear hk);(try clear hi)) | ((with_reducible refine gate_dst (N:=5) rfl ?_);refine Up.bx 5 26 #[.string (⟨#[]⟩ : ByteArray),.int .i64 0,.int .i64 0] ?_;intro gb246 hg w12 hbox hb;have n0_:=Up.KB BK241 hb;have n1_:=Aside0.mk (below_step (Up.Bx HB) hb);have n2_:=Aside0.mk (hbox);have n3_:=Up.gw hg HB;have n4_:=Up.gw hg HB;have n5_:=Up.nl hg BK241;have n6_:=Up.ng hg BK241;clear BK241 HB;have BK241:=n0_;have HB:=n1_;have BK246:=n2_;have GW246:=n3_;have GE246:=n4_;have NB241_246:=n5_;have NB246_241:=n6_;clear n0_ n1_ n2_ n3_ n4_ n5_ n6_ hb hbox hg;have hnb13:=NB246_241.out;have hnc13:=NB241_246.out;have hcz14_0:=Up.c0 BK246;have hcz14_1:=Up.c1 BK246;have hcz14_2:=Up.c2 BK246;have hfz14_0:=blk_frozen BK246.out 0;have hfz14_1:=blk_frozen BK246.out 1;have hfz14_2:=blk_frozen BK246.out 2;have hcz15_0:=Up.c0 BK241;have hcz15_1:=Up.c1 BK241;have hcz15_2:=Up.c2 BK241;have hfz15_0:=blk_frozen BK241.out 0;have hfz15_1:=blk_frozen BK241.out 1;have hfz15_2:=blk_frozen BK241.out 2) | ((with_reducible refine gate_callee (f:=27) rfl ?_);refine Up.gl (some 22) Tryd.func27 #[.agg #[.string t242,.int .i64 t243,.int .i64 t244],.agg #[.string t237,.int .i64 t238,.int .i64 t239]] ?_;(with_reducible refine (laws_eqIns.calls t242 t243 t244 t237 t238 t239 true _ A5.out).mono ?_);rintro e w16 ⟨rfl,hb⟩;refine ⟨_,rfl,?_⟩;have n0_:=Aside0.mk (blk_below (g:=gb241) (o:=.cells #[.string t237,.int .i64 t238,.int .i64 t239] 26 (0,0)) (Up.Kx BK241) hb);have n1_:=Aside0.mk (blk_below (g:=gb246) (o:=.cells #[.string t242,.int .i64 t243,.int .i64 t244] 26 (0,0)) (Up.Kx BK246) hb);have n2_:=Aside0.mk (below_step (Up.Bx HB) hb);clear BK241 BK246 HB;have BK241:=n0_;have BK246:=n1_;have HB:=n2_;clear n0_ n1_ n2_;(try clear hb);(try clear hb2);(try clear hk);(try clear hi)))
    go_ret
    exact Up.e1 (Up.Bx HB)
   ·rw [if_neg c7] at H
    have c7b0 : (t245 != t240) = false:=by simpa using c7
    (try (have c7b1 : decide (t245 = t240) = true:=by simpa using c7))
    (try (have c7b2 : (t245 == t240) = true:=by simpa using c7))
    clear c7
    obtain rfl:=Option.some.inj H
    go_enter Tryd.func8,Tryd.ntmps8
    go_wp2_with (first | ((with_reducible refine gate_callee (f:=25) rfl ?_);refine Up.gl (some 12) Tryd.func25 #[.string a0] ?_;(with_reducible refine (spec_InsRead.calls k a0 t237 t238 t239 t240 _ A3.out).mono ?_);rintro e w17 ⟨rfl,hb⟩;refine ⟨_,rfl,?_⟩;have n0_:=Up.BB HB hb;clear HB;have HB:=n0_;clear n0_;(try clear hb);(try clear hb2);(try clear hk);(try clear hi)) | ((with_reducible refine gate_dst (N:=3) rfl ?_);refine Up.bx 3 26 #[.string (⟨#[]⟩ : ByteArray),.int .i64 0,.int .i64 0] ?_;intro gb241 hg w18 hbox hb;have n0_:=Up.BB HB hb;have n1_:=Aside0.mk (hbox);have n2_:=Up.gw hg HB;have n3_:=Up.gw hg HB;clear HB;have HB:=n0_;have BK241:=n1_;have GW241:=n2_;have GE241:=n3_;clear n0_ n1_ n2_ n3_ hb hbox hg;have hcz19_0:=Up.c0 BK241;have hcz19_1:=Up.c1 BK241;have hcz19_2:=Up.c2 BK241;have hfz19_0:=blk_frozen BK241.out 0;have hfz19_1:=blk_frozen BK241.out 1;have hfz19_2:=blk_frozen BK241.out 2) | ((with_reducible refine gate_callee (f:=26) rfl ?_);refine Up.gl (some 17) Tryd.func26 #[.string a0] ?_;(with_reducible refine (impl_InsRead.calls (hT_:=?tab1) k a0 t242 t243 t244 t245 _ A4.out).mono ?_);(case tab1 => exact hT_.below (Up.Bx HB));rintro e w20 ⟨rfl,hb⟩;refine ⟨_,rfl,?_⟩;have n0_:=Aside0.mk (blk_below (g:=gb241) (o:=.cells #[.string t237,.int .i64 t238,.int .i64 t239] 26 (0,0)) (Up.Kx BK241) hb);have n1_:=Aside0.mk (below_step (Up.Bx HB) hb);clear BK241 HB;have BK241:=n0_;have HB:=n1_;clear n0_ n1_;(try clear hb);(try clear hb2);(try clear hk);(try clear hi)) | ((with_reducible refine gate_dst (N:=5) rfl ?_);refine Up.bx 5 26 #[.string (⟨#[]⟩ : ByteArray),.int .i64 0,.int .i64 0] ?_;intro gb246 hg w21 hbox hb;have n0_:=Up.KB BK241 hb;have n1_:=Aside0.mk (below_step (Up.Bx HB) hb);have n2_:=Aside0.mk (hbox);have n3_:=Up.gw hg HB;have n4_:=Up.gw hg HB;have n5_:=Up.nl hg BK241;have n6_:=Up.ng hg BK241;clear BK241 HB;have BK241:=n0_;have HB:=n1_;have BK246:=n2_;have GW246:=n3_;have GE246:=n4_;have NB241_246:=n5_;have NB246_241:=n6_;clear n0_ n1_ n2_ n3_ n4_ n5_ n6_ hb hbox hg;have hnb22:=NB246_241.out;have hnc22:=NB241_246.out;have hcz23_0:=Up.c0 BK246;have hcz23_1:=Up.c1 BK246;have hcz23_2:=Up.c2 BK246;have hfz23_0:=blk_frozen BK246.out 0;have hfz23_1:=blk_frozen BK246.out 1;have hfz23_2:=blk_frozen BK246.out 2;have hcz24_0:=Up.c0 BK241;have hcz24_1:=Up.c1 BK241;have hcz24_2:=Up.c2 BK241;have hfz24_0:=blk_frozen BK241.out 0;have hfz24_1:=blk_frozen BK241.out 1;have hfz24_2:=blk_frozen BK241.out 2) | ((with_reducible refine gate_callee (f:=27) rfl ?_);refine Up.gl (some 22) Tryd.func27 #[.agg #[.string t242,.int .i64 t243,.int .i64 t244],.agg #[.string t237,.int .i64 t238,.int .i64 t239]] ?_;(with_reducible refine (laws_eqIns.calls t242 t243 t244 t237 t238 t239 true _ A5.out).mono ?_);rintro e w25 ⟨rfl,hb⟩;refine ⟨_,rfl,?_⟩;have n0_:=Aside0.mk (blk_below (g:=gb241) (o:=.cells #[.string t237,.int .i64 t238,.int .i64 t239] 26 (0,0)) (Up.Kx BK241) hb);have n1_:=Aside0.mk (blk_below (g:=gb246) (o:=.cells #[.string t242,.int .i64 t243,.int .i64 t244] 26 (0,0)) (Up.Kx BK246) hb);have n2_:=Aside0.mk (below_step (Up.Bx HB) hb);clear BK241 BK246 HB;have BK241:=n0_;have BK246:=n1_;have HB:=n2_;clear n0_ n1_ n2_;(try clear hb);(try clear hb2);(try clear hk);(try clear hi)))
    go_ret
    exact Up.e1 (Up.Bx HB)
  ·replace c6:=Bool.eq_false_iff.mpr c6
   subst c6
   have H1 : (some false) = some r:=by rw [if_neg (show ¬ (false = true) by decide)] at H;exact H
   clear H
   have H:=H1
   clear H1
   obtain rfl:=Option.some.inj H
   go_enter Tryd.func8,Tryd.ntmps8
   go_wp2_with (first | ((with_reducible refine gate_callee (f:=25) rfl ?_);refine Up.gl (some 12) Tryd.func25 #[.string a0] ?_;(with_reducible refine (spec_InsRead.calls k a0 t237 t238 t239 t240 _ A3.out).mono ?_);rintro e w26 ⟨rfl,hb⟩;refine ⟨_,rfl,?_⟩;have n0_:=Up.BB HB hb;clear HB;have HB:=n0_;clear n0_;(try clear hb);(try clear hb2);(try clear hk);(try clear hi)) | ((with_reducible refine gate_dst (N:=3) rfl ?_);refine Up.bx 3 26 #[.string (⟨#[]⟩ : ByteArray),.int .i64 0,.int .i64 0] ?_;intro gb241 hg w27 hbox hb;have n0_:=Up.BB HB hb;have n1_:=Aside0.mk (hbox);have n2_:=Up.gw hg HB;have n3_:=Up.gw hg HB;clear HB;have HB:=n0_;have BK241:=n1_;have GW241:=n2_;have GE241:=n3_;clear n0_ n1_ n2_ n3_ hb hbox hg;have hcz28_0:=Up.c0 BK241;have hcz28_1:=Up.c1 BK241;have hcz28_2:=Up.c2 BK241;have hfz28_0:=blk_frozen BK241.out 0;have hfz28_1:=blk_frozen BK241.out 1;have hfz28_2:=blk_frozen BK241.out 2) | ((with_reducible refine gate_callee (f:=26) rfl ?_);refine Up.gl (some 17) Tryd.func26 #[.string a0] ?_;(with_reducible refine (impl_InsRead.calls (hT_:=?tab1) k a0 t242 t243 t244 t245 _ A4.out).mono ?_);(case tab1 => exact hT_.below (Up.Bx HB));rintro e w29 ⟨rfl,hb⟩;refine ⟨_,rfl,?_⟩;have n0_:=Aside0.mk (blk_below (g:=gb241) (o:=.cells #[.string t237,.int .i64 t238,.int .i64 t239] 26 (0,0)) (Up.Kx BK241) hb);have n1_:=Aside0.mk (below_step (Up.Bx HB) hb);clear BK241 HB;have BK241:=n0_;have HB:=n1_;clear n0_ n1_;(try clear hb);(try clear hb2);(try clear hk);(try clear hi)) | ((with_reducible refine gate_dst (N:=5) rfl ?_);refine Up.bx 5 26 #[.string (⟨#[]⟩ : ByteArray),.int .i64 0,.int .i64 0] ?_;intro gb246 hg w30 hbox hb;have n0_:=Up.KB BK241 hb;have n1_:=Aside0.mk (below_step (Up.Bx HB) hb);have n2_:=Aside0.mk (hbox);have n3_:=Up.gw hg HB;have n4_:=Up.gw hg HB;have n5_:=Up.nl hg BK241;have n6_:=Up.ng hg BK241;clear BK241 HB;have BK241:=n0_;have HB:=n1_;have BK246:=n2_;have GW246:=n3_;have GE246:=n4_;have NB241_246:=n5_;have NB246_241:=n6_;clear n0_ n1_ n2_ n3_ n4_ n5_ n6_ hb hbox hg;have hnb31:=NB246_241.out;have hnc31:=NB241_246.out;have hcz32_0:=Up.c0 BK246;have hcz32_1:=Up.c1 BK246;have hcz32_2:=Up.c2 BK246;have hfz32_0:=blk_frozen BK246.out 0;have hfz32_1:=blk_frozen BK246.out 1;have hfz32_2:=blk_frozen BK246.out 2;have hcz33_0:=Up.c0 BK241;have hcz33_1:=Up.c1 BK241;have hcz33_2:=Up.c2 BK241;have hfz33_0:=blk_frozen BK241.out 0;have hfz33_1:=blk_frozen BK241.out 1;have hfz33_2:=blk_frozen BK241.out 2) | ((with_reducible refine gate_callee (f:=27) rfl ?_);refine Up.gl (some 22) Tryd.func27 #[.agg #[.string t242,.int .i64 t243,.int .i64 t244],.agg #[.string t237,.int .i64 t238,.int .i64 t239]] ?_;(with_reducible refine (laws_eqIns.calls t242 t243 t244 t237 t238 t239 false _ A5.out).mono ?_);rintro e w34 ⟨rfl,hb⟩;refine ⟨_,rfl,?_⟩;have n0_:=Aside0.mk (blk_below (g:=gb241) (o:=.cells #[.string t237,.int .i64 t238,.int .i64 t239] 26 (0,0)) (Up.Kx BK241) hb);have n1_:=Aside0.mk (blk_below (g:=gb246) (o:=.cells #[.string t242,.int .i64 t243,.int .i64 t244] 26 (0,0)) (Up.Kx BK246) hb);have n2_:=Aside0.mk (below_step (Up.Bx HB) hb);clear BK241 BK246 HB;have BK241:=n0_;have BK246:=n1_;have HB:=n2_;clear n0_ n1_ n2_;(try clear hb);(try clear hb2);(try clear hk);(try clear hi)))
   go_ret
   exact Up.e1 (Up.Bx HB)

/-- THE ONE PURE STATEMENT of laws_FnExactInsRead: yours. -/
def laws_FnExactInsRead.Pure : Prop:=∀ (a0 : ByteArray),a0.size ≤ 140737488351232 → ∃ k,laws_FnExactInsRead.f k a0 = some true
theorem laws_FnExactInsRead.walk (P : laws_FnExactInsRead.Pure) (a0 : ByteArray) (w : World) (hT_ : Tab w) (w0 : a0.size ≤ 140737488351232) :
  Calls Tryd.prog 8 #[.string a0] w fun e w' => e = .returned (.bool true) ∧ Below w.heap.size w w':=by
 obtain ⟨k,h⟩:=P a0 w0
 refine (laws_FnExactInsRead.calls (hT_:=hT_) k a0 true w h).mono ?_
 rintro e w' ⟨rfl,hd⟩
 exact ⟨rfl,hd⟩

end Go.Proofs.YtfkhjnmgaadomaaDoor.OFnExactInsRead
